import PyProof.Rows.All
import Gp27Spec
import Wide.All
import OpenK.AllK
import Wide.FinOn
import Wide.Once
import Open.SpecLaws
import KE.KStateDown
import KE.OsHead
import HandS.ForSpec
import HandS.Comp
import HandS.Dict
import HandS.Iter
import HandS.Zip
import HandS.CallLocal
import HandS.More
import HandS.Defaults
import HandS.Flow
import HandS.Steps
import HandS.Head0
import HandS.Head1
import HandS.Head2
import HandS.Head4
import HandS.HeadHook1
import HandS.HeadHook2
import HandS.HeadHook3
import HandS.HeadHook4
import PySem.Challenge.RW_callchains_s01_answers
import HandS.Walk
import KE.GoesEnum
import KE.GoesMore
import KE.KDictItemsList
import KE.KDictZip
import PyGp27
set_option Elab.async false

/-! ## W1 -/
section
set_option maxRecDepth 100000
/-! The world of the specification: what holds of it between two calls, and how its steps keep it. Plain Lean. -/
namespace Cw
open Gp27

def svc (h : House) (s : Nat) : Service := h.services.getD s ⟨[], 1, 0, []⟩
def askOf (h : House) (i : Nat) : Ask := h.asks.getD i ⟨0, 1, 1, 0, false, 0, 0, 0⟩
def isAsk (h : House) (r : Request) (i : Nat) : Prop := (svc h r.service).steps[r.step]? = some (.ask i)

structure HouseOk (h : House) : Prop where
  ns : h.services.length ≤ 8
  na : h.asks.length ≤ 12
  ne : h.entries.length ≤ 4
  nst : ∀ s ∈ h.services, s.steps.length ≤ 5
  wk : ∀ s ∈ h.services, ∀ n, Step.work n ∈ s.steps → 1 ≤ n ∧ n ≤ 50
  ak : ∀ s ∈ h.services, ∀ i, Step.ask i ∈ s.steps → i < h.asks.length
  tg : ∀ a ∈ h.asks, a.whom < h.services.length
  en : ∀ e ∈ h.entries, e.service < h.services.length

structure LinkOk (a : Ask) (l : Link) : Prop where
  tr : l.openTill = 0 → l.trial = none
  fl : a.fails ≠ 0 → l.failed < a.fails
  no : a.fails = 0 → l.openTill = 0 ∧ l.failed = 0

def StOk (h : House) (n : Nat) (r : Request) : Prop := match r.state with
  | .queued => True
  | .work k => 1 ≤ k ∧ r.step < (svc h r.service).steps.length
  | .ready _ _ => ∃ i, isAsk h r i
  | .asked c _ => (∃ i, isAsk h r i) ∧ c < n
  | .over k => k ≤ 4
structure ReqOk (h : House) (n : Nat) (r : Request) : Prop where
  sv : r.service < h.services.length
  st : r.step ≤ (svc h r.service).steps.length
  ok : StOk h n r

structure WOk (w : World) : Prop where
  hs : HouseOk w.house
  ll : w.links.length = w.house.asks.length
  lk : ∀ i, i < w.house.asks.length → LinkOk (askAt w i) (linkAt w i)
  rq : ∀ r ∈ w.requests, ReqOk w.house w.requests.length r
  dn : w.down.Nodup
  db : ∀ s ∈ w.down, s < w.house.services.length
  sl : ∀ s, 1 ≤ slowness w s

theorem svc_eq {h : House} {s : Nat} (hs : s < h.services.length) : h.services[s]? = some (svc h s) := by
  unfold svc
  rw [List.getD_eq_getElem?_getD, List.getElem?_eq_getElem hs] <;> rfl
theorem svc_mem {h : House} {s : Nat} (hs : s < h.services.length) : svc h s ∈ h.services := List.mem_of_getElem? (svc_eq hs)
theorem askOf_eq {h : House} {s : Nat} (hs : s < h.asks.length) : h.asks[s]? = some (askOf h s) := by
  unfold askOf
  rw [List.getD_eq_getElem?_getD, List.getElem?_eq_getElem hs] <;> rfl
theorem askOf_mem {h : House} {s : Nat} (hs : s < h.asks.length) : askOf h s ∈ h.asks := List.mem_of_getElem? (askOf_eq hs)
theorem reqAt_eq {w : World} {k : Nat} (hk : k < w.requests.length) : w.requests[k]? = some (reqAt w k) := by
  unfold reqAt
  rw [List.getD_eq_getElem?_getD, List.getElem?_eq_getElem hk] <;> rfl
theorem reqAt_of {w : World} {k : Nat} {r : Request} (h : w.requests[k]? = some r) : reqAt w k = r := by
  unfold reqAt
  rw [List.getD_eq_getElem?_getD, h] <;> rfl
theorem reqAt_mem {w : World} {k : Nat} (hk : k < w.requests.length) : reqAt w k ∈ w.requests := List.mem_of_getElem? (reqAt_eq hk)
theorem linkAt_eq {w : World} {k : Nat} (hk : k < w.links.length) : w.links[k]? = some (linkAt w k) := by
  unfold linkAt
  rw [List.getD_eq_getElem?_getD, List.getElem?_eq_getElem hk] <;> rfl
theorem isAsk_lt {h : House} (H : HouseOk h) {r : Request} {i : Nat} (hr : r.service < h.services.length) (a : isAsk h r i) : i < h.asks.length :=
  H.ak _ (svc_mem hr) i (List.mem_of_getElem? a)
theorem isAsk_step {h : House} {r : Request} {i : Nat} (a : isAsk h r i) : r.step < (svc h r.service).steps.length := (List.getElem?_eq_some_iff.mp a).1
theorem isAsk_inj {h : House} {r : Request} {i j : Nat} (a : isAsk h r i) (b : isAsk h r j) : i = j := by
  have e : some (Step.ask i) = some (Step.ask j) := a.symm.trans b
  injection e with e
  injection e

theorem WOk.req {w : World} (W : WOk w) {k : Nat} (hk : k < w.requests.length) : ReqOk w.house w.requests.length (reqAt w k) := W.rq _ (reqAt_mem hk)
theorem StOk.mono {h : House} {n m : Nat} {r : Request} (hm : n ≤ m) (x : StOk h n r) : StOk h m r := by
  unfold StOk at *
  split <;> rename_i e <;> rw [e] at x
  · trivial
  · exact x
  · exact x
  · exact ⟨x.1, Nat.lt_of_lt_of_le x.2 hm⟩
  · exact x
theorem ReqOk.mono {h : House} {n m : Nat} {r : Request} (hm : n ≤ m) (x : ReqOk h n r) : ReqOk h m r := ⟨x.sv, x.st, x.ok.mono hm⟩

/-! ### the four changes of a world -/
theorem WOk.setReq {w : World} (W : WOk w) {k : Nat} {r : Request} (hr : ReqOk w.house w.requests.length r) : WOk (setReq w k r) := by
  refine ⟨W.hs, W.ll, W.lk, fun x hx => ?_, W.dn, W.db, W.sl⟩
  have el : (Gp27.setReq w k r).requests.length = w.requests.length := List.length_set
  rw [el]
  rcases List.mem_or_eq_of_mem_set (show x ∈ w.requests.set k r from hx) with h | h
  · exact W.rq x h
  · rw [h]
    exact hr
theorem linkAt_set {w : World} {i j : Nat} {l : Link} (hi : i < w.links.length) : linkAt (setLink w i l) j = if j = i then l else linkAt w j := by
  unfold linkAt Gp27.setLink
  show (w.links.set i l).getD j ⟨0, 0, 0, none⟩ = if j = i then l else w.links.getD j ⟨0, 0, 0, none⟩
  rw [List.getD_eq_getElem?_getD, List.getD_eq_getElem?_getD]
  by_cases e : j = i
  · subst e
    rw [if_pos rfl, List.getElem?_set_self hi] <;> rfl
  · rw [if_neg e, List.getElem?_set_ne (fun q => e q.symm)]
theorem WOk.setLink {w : World} (W : WOk w) {i : Nat} {l : Link} (hi : i < w.house.asks.length) (hl : LinkOk (askAt w i) l) : WOk (setLink w i l) := by
  refine ⟨W.hs, ?_, fun j hj => ?_, W.rq, W.dn, W.db, W.sl⟩
  · show (w.links.set i l).length = w.house.asks.length
    rw [List.length_set]
    exact W.ll
  · rw [linkAt_set (by rw [W.ll]; exact hi)]
    by_cases e : j = i
    · subst e
      rw [if_pos rfl]
      exact hl
    · rw [if_neg e]
      exact W.lk j hj
theorem WOk.comes {w : World} (W : WOk w) {s : Nat} {e : Option Nat} {d : Nat} (hs : s < w.house.services.length) : WOk (comes w s e d) := by
  refine ⟨W.hs, W.ll, W.lk, fun x hx => ?_, W.dn, W.db, W.sl⟩
  have el : (Gp27.comes w s e d).requests.length = w.requests.length + 1 := by
    show (w.requests ++ [_]).length = _
    rw [List.length_append] <;> rfl
  rw [el]
  rcases List.mem_append.mp (show x ∈ w.requests ++ [_] from hx) with h | h
  · exact (W.rq x h).mono (Nat.le_succ _)
  · rw [List.mem_singleton.mp h]
    refine ⟨hs, Nat.zero_le _, ?_⟩
    unfold StOk
    show (match (if w.down.contains s = true then State.over 4 else if (serviceAt w s).queue + (serviceAt w s).workers ≤ queued w s + working w s then .over 3 else .queued) with
      | .queued => True
      | .work k => _
      | .ready _ _ => _
      | .asked c _ => _
      | .over k => k ≤ 4)
    split <;> rename_i q
    · trivial
    · split at q
      · cases q
      · split at q <;> cases q
    · split at q
      · cases q
      · split at q <;> cases q
    · split at q
      · cases q
      · split at q <;> cases q
    · split at q
      · cases q
        exact Nat.le_refl _
      · split at q
        · cases q
          exact Nat.le_succ _
        · cases q
theorem WOk.time {w : World} (W : WOk w) (n : Nat) : WOk { w with now := n } := ⟨W.hs, W.ll, W.lk, W.rq, W.dn, W.db, W.sl⟩

/-! ### the breaker -/
theorem went_req {w : World} {i : Nat} {ok : Bool} {c : Option Nat} : (went w i ok c).requests = w.requests ∧ (went w i ok c).house = w.house ∧ (went w i ok c).down = w.down ∧ (went w i ok c).now = w.now ∧ (went w i ok c).slow = w.slow := by
  unfold went
  dsimp only
  repeat' split
  all_goals exact ⟨rfl, rfl, rfl, rfl, rfl⟩
theorem went_ok {w : World} (W : WOk w) {i : Nat} (hi : i < w.house.asks.length) {ok : Bool} {c : Nat} : WOk (went w i ok (some c)) := by
  have L := W.lk i hi
  unfold went
  dsimp only
  split
  · exact W
  · rename_i hf
    split
    · split
      · exact W.setLink hi ⟨L.tr, fun _ => Nat.pos_of_ne_zero hf, fun z => absurd z hf⟩
      · split
        · exact W.setLink hi ⟨fun _ => rfl, fun _ => Nat.pos_of_ne_zero hf, fun z => absurd z hf⟩
        · exact W
    · split
      · exact W
      · split
        · split
          · exact W.setLink hi ⟨fun _ => rfl, fun _ => Nat.pos_of_ne_zero hf, fun z => absurd z hf⟩
          · rename_i h
            exact W.setLink hi ⟨L.tr, fun _ => Nat.lt_of_not_le h, fun z => absurd z hf⟩
        · split
          · exact W.setLink hi ⟨fun _ => rfl, fun z => L.fl z, fun z => absurd z hf⟩
          · exact W

/-! ### the steps of a request -/
theorem begun_ok {w : World} (W : WOk w) {r : Request} (hs : r.service < w.house.services.length) (ht : r.step ≤ (svc w.house r.service).steps.length) : ReqOk w.house w.requests.length { r with state := begun w r } := by
  refine ⟨hs, ht, ?_⟩
  unfold StOk
  show (match begun w r with
    | .queued => True
    | .work k => 1 ≤ k ∧ r.step < (svc w.house r.service).steps.length
    | .ready _ _ => ∃ i, isAsk w.house { r with state := begun w r } i
    | .asked c _ => (∃ i, isAsk w.house { r with state := begun w r } i) ∧ c < w.requests.length
    | .over k => k ≤ 4)
  unfold begun
  cases e : (serviceAt w r.service).steps[r.step]? with
  | none => exact Nat.zero_le _
  | some x =>
    have hlt : r.step < (svc w.house r.service).steps.length := (List.getElem?_eq_some_iff.mp e).1
    cases x with
    | work n =>
      refine ⟨?_, hlt⟩
      have h1 := (W.hs.wk _ (svc_mem hs) n (List.mem_of_getElem? e)).1
      exact Nat.mul_pos h1 (W.sl _)
    | ask i => exact ⟨i, e⟩
end Cw
end

/-! ## W2 -/
section
set_option maxRecDepth 100000
/-! Requests as they lie in the heap; how the counts of waiting and occupied change. Plain Lean. -/
namespace Cc
/-- a request as it lies in the heap -/
structure Raw where
  service : Nat
  entry : Nat
  deadline : Nat
  step : Nat
  status : Nat
  first : Nat
  second : Nat
end Cc
namespace Cw
open Gp27
open Cc (Raw)
def cd1 : State → Nat
  | .queued => 0
  | .work _ => 1
  | .ready _ _ => 2
  | .asked _ _ => 3
  | .over _ => 4
def cd2 : State → Nat
  | .queued => 0
  | .work n => n
  | .ready f _ => f
  | .asked c _ => c
  | .over k => k
def cd3 : State → Nat
  | .ready _ t => t
  | .asked _ t => t
  | _ => 0
def entN : Option Nat → Nat
  | none => 0
  | some e => e + 1
def rawOf (r : Request) : Raw := ⟨r.service, entN r.entry, r.deadline, r.step, cd1 r.state, cd2 r.state, cd3 r.state⟩
def rawsOf (w : World) : List Raw := w.requests.map rawOf
def waitsOf (w : World) : List Int := (List.range w.house.services.length).map fun s => (queued w s : Int)
def occsOf (w : World) : List Int := (List.range w.house.services.length).map fun s => (working w s : Int)
def bump (l : List Int) (s : Nat) (d : Int) : List Int := l.set s (l.getD s 0 + d)
def upW (r : Raw) (d : Int) (l : List Int) : List Int := if r.status = 0 then bump l r.service d else l
def upO (r : Raw) (d : Int) (l : List Int) : List Int := if r.status = 1 ∨ r.status = 2 ∨ r.status = 3 then bump l r.service d else l
theorem bump_len {l : List Int} {s : Nat} {d : Int} : (bump l s d).length = l.length := List.length_set
theorem upW_len {r : Raw} {l : List Int} {d : Int} : (upW r d l).length = l.length := by
  unfold upW
  split
  · exact bump_len
  · rfl
theorem upO_len {r : Raw} {l : List Int} {d : Int} : (upO r d l).length = l.length := by
  unfold upO
  split
  · exact bump_len
  · rfl
theorem cnt_set {α : Type} (p : α → Bool) : ∀ {l : List α} {k : Nat} {r r' : α}, l[k]? = some r → ((l.set k r').filter p).length + (if p r = true then 1 else 0) = (l.filter p).length + (if p r' = true then 1 else 0)
  | [], k, r, r', h => by simp at h
  | x :: l, 0, r, r', h => by
    have e : x = r := Option.some.inj h
    subst e
    show ((r' :: l).filter p).length + _ = ((x :: l).filter p).length + _
    rw [List.filter_cons, List.filter_cons]
    cases p x <;> cases p r' <;> simp
  | x :: l, k + 1, r, r', h => by
    have ih := cnt_set p (l := l) (k := k) (r := r) (r' := r') h
    show ((x :: l.set k r').filter p).length + _ = ((x :: l).filter p).length + _
    rw [List.filter_cons, List.filter_cons]
    cases p x
    · simpa using ih
    · simp only [if_true, List.length_cons]
      omega
theorem bump_range {n s : Nat} {f : Nat → Int} {d : Int} (hs : s < n) : bump ((List.range n).map f) s d = (List.range n).map fun j => if j = s then f j + d else f j := by
  unfold bump
  apply List.ext_getElem?
  intro j
  rw [List.getD_eq_getElem?_getD, List.getElem?_map, List.getElem?_map, List.getElem?_range hs]
  by_cases e : j = s
  · subst e
    rw [List.getElem?_set_self (by rw [List.length_map, List.length_range]; exact hs), List.getElem?_range hs]
    simp
  · rw [List.getElem?_set_ne (fun z => e z.symm), List.getElem?_map]
    by_cases hj : j < n
    · rw [List.getElem?_range hj]
      simp [e]
    · rw [List.getElem?_eq_none (by rw [List.length_range]; omega)]
      rfl
theorem upW_range {n : Nat} {f : Nat → Int} {r : Raw} {d : Int} (hs : r.service < n) : upW r d ((List.range n).map f) = (List.range n).map fun j => if r.status = 0 ∧ j = r.service then f j + d else f j := by
  unfold upW
  split
  · rename_i h
    rw [bump_range hs]
    simp [h]
  · rename_i h
    simp [h]
theorem upO_range {n : Nat} {f : Nat → Int} {r : Raw} {d : Int} (hs : r.service < n) : upO r d ((List.range n).map f) = (List.range n).map fun j => if (r.status = 1 ∨ r.status = 2 ∨ r.status = 3) ∧ j = r.service then f j + d else f j := by
  unfold upO
  split
  · rename_i h
    rw [bump_range hs]
    simp [h]
  · rename_i h
    simp [h]
theorem isQueued_iff {r : Request} : isQueued r = true ↔ cd1 r.state = 0 := by
  unfold isQueued
  rw [beq_iff_eq]
  cases r.state with
  | queued => exact ⟨fun _ => rfl, fun _ => rfl⟩
  | _ => exact ⟨fun z => (nomatch z), fun z => (nomatch z)⟩
theorem isOver_iff {r : Request} : isOver r = true ↔ cd1 r.state = 4 := by
  unfold isOver
  cases r.state with
  | over k => exact ⟨fun _ => rfl, fun _ => rfl⟩
  | _ => exact ⟨fun z => (nomatch z), fun z => (nomatch z)⟩
theorem cd1_le {s : State} : cd1 s = 0 ∨ (cd1 s = 1 ∨ cd1 s = 2 ∨ cd1 s = 3) ∨ cd1 s = 4 := by
  cases s with
  | queued => exact .inl rfl
  | work _ => exact .inr (.inl (.inl rfl))
  | ready _ _ => exact .inr (.inl (.inr (.inl rfl)))
  | asked _ _ => exact .inr (.inl (.inr (.inr rfl)))
  | over _ => exact .inr (.inr rfl)
theorem isQ_iff {r : Request} {s : Nat} : (r.service == s && isQueued r) = true ↔ (rawOf r).status = 0 ∧ s = r.service := by
  rw [Bool.and_eq_true, beq_iff_eq, isQueued_iff]
  exact ⟨fun z => ⟨z.2, z.1.symm⟩, fun z => ⟨z.2.symm, z.1⟩⟩
theorem isO_iff {r : Request} {s : Nat} : (r.service == s && (!isOver r && !isQueued r)) = true ↔ ((rawOf r).status = 1 ∨ (rawOf r).status = 2 ∨ (rawOf r).status = 3) ∧ s = r.service := by
  rw [Bool.and_eq_true, beq_iff_eq, Bool.and_eq_true, Bool.not_eq_true', Bool.not_eq_true', Bool.eq_false_iff, Bool.eq_false_iff, Ne, Ne, isQueued_iff, isOver_iff]
  have e : (rawOf r).status = cd1 r.state := rfl
  rw [e]
  have c := cd1_le (s := r.state)
  constructor
  · rintro ⟨z, h1, h2⟩
    exact ⟨by omega, z.symm⟩
  · rintro ⟨h, z⟩
    exact ⟨z.symm, by omega, by omega⟩
theorem put_raws {w : World} {k : Nat} {r : Request} : rawsOf (setReq w k r) = (rawsOf w).set k (rawOf r) := List.map_set
theorem put_waits {w : World} {k : Nat} {r : Request} (hk : k < w.requests.length) (hs : r.service = (reqAt w k).service) (hn : r.service < w.house.services.length) :
    waitsOf (setReq w k r) = upW (rawOf r) 1 (upW (rawOf (reqAt w k)) (-1) (waitsOf w)) := by
  unfold waitsOf
  rw [upW_range (by show (reqAt w k).service < _; rw [← hs]; exact hn), upW_range (show (rawOf r).service < _ from hn)]
  refine List.map_congr_left fun j _ => ?_
  have c := cnt_set (fun x => x.service == j && isQueued x) (r' := r) (reqAt_eq hk)
  have e1 : queued (setReq w k r) j = ((w.requests.set k r).filter fun x => x.service == j && isQueued x).length := rfl
  have e2 : queued w j = (w.requests.filter fun x => x.service == j && isQueued x).length := rfl
  rw [e1, e2]
  simp only [isQ_iff] at c
  have hs' : (rawOf (reqAt w k)).service = r.service := hs.symm
  have hs2 : (rawOf r).service = r.service := rfl
  rw [hs', hs2]
  rw [← hs] at c
  by_cases h1 : (rawOf r).status = 0 ∧ j = r.service <;> by_cases h2 : (rawOf (reqAt w k)).status = 0 ∧ j = r.service
  all_goals
    first | rw [if_pos h1] at c ⊢ | rw [if_neg h1] at c ⊢
    first | rw [if_pos h2] at c ⊢ | rw [if_neg h2] at c ⊢
    omega
theorem put_occs {w : World} {k : Nat} {r : Request} (hk : k < w.requests.length) (hs : r.service = (reqAt w k).service) (hn : r.service < w.house.services.length) :
    occsOf (setReq w k r) = upO (rawOf r) 1 (upO (rawOf (reqAt w k)) (-1) (occsOf w)) := by
  unfold occsOf
  rw [upO_range (by show (reqAt w k).service < _; rw [← hs]; exact hn), upO_range (show (rawOf r).service < _ from hn)]
  refine List.map_congr_left fun j _ => ?_
  have c := cnt_set (fun x => x.service == j && (!isOver x && !isQueued x)) (r' := r) (reqAt_eq hk)
  have e1 : working (setReq w k r) j = ((w.requests.set k r).filter fun x => x.service == j && (!isOver x && !isQueued x)).length := rfl
  have e2 : working w j = (w.requests.filter fun x => x.service == j && (!isOver x && !isQueued x)).length := rfl
  rw [e1, e2]
  simp only [isO_iff] at c
  have hs' : (rawOf (reqAt w k)).service = r.service := hs.symm
  have hs2 : (rawOf r).service = r.service := rfl
  rw [hs', hs2]
  rw [← hs] at c
  by_cases h1 : ((rawOf r).status = 1 ∨ (rawOf r).status = 2 ∨ (rawOf r).status = 3) ∧ j = r.service <;> by_cases h2 : ((rawOf (reqAt w k)).status = 1 ∨ (rawOf (reqAt w k)).status = 2 ∨ (rawOf (reqAt w k)).status = 3) ∧ j = r.service
  all_goals
    first | rw [if_pos h1] at c ⊢ | rw [if_neg h1] at c ⊢
    first | rw [if_pos h2] at c ⊢ | rw [if_neg h2] at c ⊢
    omega
theorem step_waits {w : World} {k n : Nat} (hk : k < w.requests.length) : waitsOf (setReq w k { reqAt w k with step := n }) = waitsOf w := by
  unfold waitsOf
  refine List.map_congr_left fun j _ => ?_
  have c := cnt_set (fun x => x.service == j && isQueued x) (r' := { reqAt w k with step := n }) (reqAt_eq hk)
  have e1 : queued (setReq w k { reqAt w k with step := n }) j = ((w.requests.set k { reqAt w k with step := n }).filter fun x => x.service == j && isQueued x).length := rfl
  have e2 : queued w j = (w.requests.filter fun x => x.service == j && isQueued x).length := rfl
  rw [e1, e2]
  have e3 : ((reqAt w k).service == j && isQueued (reqAt w k)) = (({ reqAt w k with step := n } : Request).service == j && isQueued { reqAt w k with step := n }) := rfl
  rw [e3] at c
  exact congrArg (fun m : Nat => (m : Int)) (Nat.add_right_cancel c)
theorem step_occs {w : World} {k n : Nat} (hk : k < w.requests.length) : occsOf (setReq w k { reqAt w k with step := n }) = occsOf w := by
  unfold occsOf
  refine List.map_congr_left fun j _ => ?_
  have c := cnt_set (fun x => x.service == j && (!isOver x && !isQueued x)) (r' := { reqAt w k with step := n }) (reqAt_eq hk)
  have e1 : working (setReq w k { reqAt w k with step := n }) j = ((w.requests.set k { reqAt w k with step := n }).filter fun x => x.service == j && (!isOver x && !isQueued x)).length := rfl
  have e2 : working w j = (w.requests.filter fun x => x.service == j && (!isOver x && !isQueued x)).length := rfl
  rw [e1, e2]
  have e3 : ((reqAt w k).service == j && (!isOver (reqAt w k) && !isQueued (reqAt w k))) = (({ reqAt w k with step := n } : Request).service == j && (!isOver { reqAt w k with step := n } && !isQueued { reqAt w k with step := n })) := rfl
  rw [e3] at c
  exact congrArg (fun m : Nat => (m : Int)) (Nat.add_right_cancel c)
theorem setReq_setReq {w : World} {k : Nat} {r s : Request} : setReq (setReq w k r) k s = setReq w k s := by
  show ({ w with requests := (w.requests.set k r).set k s } : World) = { w with requests := w.requests.set k s }
  rw [List.set_set]
/-- the state of a new request -/
def newSt (w : World) (s : Nat) : State := if w.down.contains s = true then .over 4 else if (serviceAt w s).queue + (serviceAt w s).workers ≤ queued w s + working w s then .over 3 else .queued
def newReq (w : World) (s : Nat) (e : Option Nat) (d : Nat) : Request := ⟨s, e, d, 0, newSt w s⟩
theorem comes_eq (w : World) (s : Nat) (e : Option Nat) (d : Nat) : comes w s e d = { w with requests := w.requests ++ [newReq w s e d] } := rfl
theorem come_raws {w : World} {s : Nat} {e : Option Nat} {d : Nat} : rawsOf (comes w s e d) = rawsOf w ++ [rawOf (newReq w s e d)] := List.map_append
theorem come_waits {w : World} {s : Nat} {e : Option Nat} {d : Nat} (hs : s < w.house.services.length) : waitsOf (comes w s e d) = upW (rawOf (newReq w s e d)) 1 (waitsOf w) := by
  unfold waitsOf
  rw [upW_range (show (rawOf (newReq w s e d)).service < _ from hs)]
  refine List.map_congr_left fun j _ => ?_
  have e1 : queued (comes w s e d) j = ((w.requests ++ [newReq w s e d]).filter fun x => x.service == j && isQueued x).length := rfl
  have e2 : queued w j = (w.requests.filter fun x => x.service == j && isQueued x).length := rfl
  rw [e1, e2, List.filter_append, List.length_append, List.filter_cons, List.filter_nil]
  simp only [isQ_iff]
  show _ = if (rawOf (newReq w s e d)).status = 0 ∧ j = (newReq w s e d).service then _ else _
  by_cases h : (rawOf (newReq w s e d)).status = 0 ∧ j = (newReq w s e d).service
  · rw [if_pos h, if_pos h]
    simp
  · rw [if_neg h, if_neg h]
    simp
theorem come_occs {w : World} {s : Nat} {e : Option Nat} {d : Nat} : occsOf (comes w s e d) = occsOf w := by
  unfold occsOf
  refine List.map_congr_left fun j _ => ?_
  have e1 : working (comes w s e d) j = ((w.requests ++ [newReq w s e d]).filter fun x => x.service == j && (!isOver x && !isQueued x)).length := rfl
  have e2 : working w j = (w.requests.filter fun x => x.service == j && (!isOver x && !isQueued x)).length := rfl
  rw [e1, e2, List.filter_append, List.length_append, List.filter_cons, List.filter_nil]
  have h : ¬ ((newReq w s e d).service == j && (!isOver (newReq w s e d) && !isQueued (newReq w s e d))) = true := by
    rw [isO_iff]
    rintro ⟨h, _⟩
    revert h
    unfold rawOf newReq newSt
    show cd1 _ = 1 ∨ cd1 _ = 2 ∨ cd1 _ = 3 → False
    dsimp only
    split
    · decide
    · split <;> decide
  rw [if_neg h]
  rfl
theorem waitsOf_len {w : World} : (waitsOf w).length = w.house.services.length := by
  unfold waitsOf
  rw [List.length_map, List.length_range]
theorem occsOf_len {w : World} : (occsOf w).length = w.house.services.length := by
  unfold occsOf
  rw [List.length_map, List.length_range]
theorem waitsOf_at {w : World} {s : Nat} (h : s < w.house.services.length) : (waitsOf w)[s]? = some (queued w s : Int) := by
  unfold waitsOf
  rw [List.getElem?_map, List.getElem?_range h] <;> rfl
theorem occsOf_at {w : World} {s : Nat} (h : s < w.house.services.length) : (occsOf w)[s]? = some (working w s : Int) := by
  unfold occsOf
  rw [List.getElem?_map, List.getElem?_range h] <;> rfl
end Cw
end

/-! ## W3 -/
section
set_option maxRecDepth 100000
/-! The steps of a request, case by case; what they keep. Plain Lean. -/
namespace Cw
open Gp27
/-- what a failure makes of a call's state -/
def lkFail (l : Link) (c lim till : Nat) : Link :=
  if lim = 0 then l else if 0 < l.openTill then (if l.trial = some c then { l with openTill := till, trial := none } else l)
  else if l.failed + 1 = lim then { l with failed := 0, openTill := till, trial := none } else { l with failed := l.failed + 1 }
def lkWon (l : Link) (c : Nat) : Link := if l.openTill = 0 ∨ l.trial = some c then { l with openTill := 0, failed := 0, trial := none } else l
def lkStopped (l : Link) (t : Nat) : Bool := decide (0 < l.openTill) && (decide (t < l.openTill) || l.trial.isSome)
theorem setLink_self {w : World} {i : Nat} (hi : i < w.links.length) : setLink w i (linkAt w i) = w := by
  have e : w.links.set i (linkAt w i) = w.links := by
    apply List.ext_getElem?
    intro j
    by_cases h : j = i
    · subst h
      rw [List.getElem?_set_self hi, linkAt_eq hi]
    · rw [List.getElem?_set_ne (fun z => h z.symm)]
  show { w with links := w.links.set i (linkAt w i) } = w
  rw [e]
theorem went_fail {w : World} (W : WOk w) {i c : Nat} (hi : i < w.house.asks.length) : went w i false (some c) = setLink w i (lkFail (linkAt w i) c (askAt w i).fails (w.now + (askAt w i).open_)) := by
  have L := W.lk i hi
  have hl : i < w.links.length := by rw [W.ll]; exact hi
  unfold went lkFail
  dsimp only
  split
  · exact (setLink_self hl).symm
  · rename_i hf
    have := L.fl hf
    rw [if_neg Bool.false_ne_true, if_neg (by simp)]
    by_cases ho : (linkAt w i).openTill = 0
    · rw [if_pos ho, if_neg (show ¬ 0 < (linkAt w i).openTill by omega)]
      by_cases hg : (askAt w i).fails ≤ (linkAt w i).failed + 1
      · rw [if_pos hg, if_pos (by omega)]
      · rw [if_neg hg, if_neg (by omega)]
    · rw [if_neg ho, if_pos (show 0 < (linkAt w i).openTill by omega)]
      by_cases ht : (linkAt w i).trial = some c
      · rw [if_pos ht, if_pos ht]
      · rw [if_neg ht, if_neg ht]
        exact (setLink_self hl).symm
theorem lk_eta {l : Link} (h1 : l.openTill = 0) (h2 : l.failed = 0) (h3 : l.trial = none) : ({ l with openTill := 0, failed := 0, trial := none } : Link) = l := by
  obtain ⟨a, b, c, d⟩ := l
  dsimp only at h1 h2 h3
  subst h1 h2 h3
  rfl
theorem lk_eta2 {l : Link} (h1 : l.openTill = 0) (h3 : l.trial = none) : ({ l with failed := 0 } : Link) = { l with openTill := 0, failed := 0, trial := none } := by
  obtain ⟨a, b, c, d⟩ := l
  dsimp only at h1 h3
  subst h1 h3
  rfl
theorem went_won {w : World} (W : WOk w) {i c : Nat} (hi : i < w.house.asks.length) : went w i true (some c) = setLink w i (lkWon (linkAt w i) c) := by
  have L := W.lk i hi
  have hl : i < w.links.length := by rw [W.ll]; exact hi
  unfold went lkWon
  dsimp only
  split
  · rename_i hf
    obtain ⟨h1, h2⟩ := L.no hf
    have h3 := L.tr h1
    rw [if_pos (.inl h1)]
    rw [lk_eta h1 h2 h3, setLink_self hl]
  · rw [if_pos rfl]
    by_cases ho : (linkAt w i).openTill = 0
    · rw [if_pos ho, if_pos (.inl ho)]
      have h3 := L.tr ho
      rw [lk_eta2 ho h3]
    · rw [if_neg ho]
      by_cases ht : (linkAt w i).trial = some c
      · rw [if_pos ht, if_pos (.inr ht)]
      · rw [if_neg ht, if_neg (fun h => h.elim ho ht), setLink_self hl]
theorem lets_eq {w : World} {i : Nat} : lets w i = !lkStopped (linkAt w i) w.now := by
  unfold lets lkStopped
  cases h : (linkAt w i).trial with
  | none =>
    by_cases h1 : (linkAt w i).openTill = 0
    · simp [h1]
    · have e1 : ((linkAt w i).openTill == 0) = false := beq_eq_false_iff_ne.mpr h1
      rw [e1, decide_eq_true (show 0 < (linkAt w i).openTill by omega)]
      by_cases h2 : (linkAt w i).openTill ≤ w.now
      · rw [decide_eq_true h2, decide_eq_false (show ¬ w.now < (linkAt w i).openTill by omega)] <;> rfl
      · rw [decide_eq_false h2, decide_eq_true (show w.now < (linkAt w i).openTill by omega)] <;> rfl
  | some c =>
    by_cases h1 : (linkAt w i).openTill = 0
    · simp [h1]
    · have e1 : ((linkAt w i).openTill == 0) = false := beq_eq_false_iff_ne.mpr h1
      rw [e1, decide_eq_true (show 0 < (linkAt w i).openTill by omega)]
      cases decide ((linkAt w i).openTill ≤ w.now) <;> cases decide (w.now < (linkAt w i).openTill) <;> rfl
theorem went_setReq {w : World} {k i : Nat} {r : Request} {ok : Bool} {c : Option Nat} : went (setReq w k r) i ok c = setReq (went w i ok c) k r := by
  have e1 : linkAt (setReq w k r) i = linkAt w i := rfl
  have e2 : askAt (setReq w k r) i = askAt w i := rfl
  have e3 : (setReq w k r).now = w.now := rfl
  unfold went
  dsimp only
  rw [e1, e2, e3]
  repeat' split
  all_goals rfl
/-! ### requests of the worlds behind -/
theorem reqAt_setReq {w : World} {k j : Nat} {r : Request} (hk : k < w.requests.length) : reqAt (setReq w k r) j = if j = k then r else reqAt w j := by
  unfold reqAt setReq
  show (w.requests.set k r).getD j noReq = if j = k then r else w.requests.getD j noReq
  rw [List.getD_eq_getElem?_getD, List.getD_eq_getElem?_getD]
  by_cases e : j = k
  · subst e
    rw [if_pos rfl, List.getElem?_set_self hk] <;> rfl
  · rw [if_neg e, List.getElem?_set_ne (fun q => e q.symm)]
theorem reqAt_went {w : World} {i j : Nat} {ok : Bool} {c : Option Nat} : reqAt (went w i ok c) j = reqAt w j := by
  unfold reqAt
  rw [went_req.1]
theorem reqAt_comes {w : World} {s j d : Nat} {e : Option Nat} (hj : j < w.requests.length) : reqAt (comes w s e d) j = reqAt w j := by
  unfold reqAt
  show (w.requests ++ [_]).getD j noReq = w.requests.getD j noReq
  rw [List.getD_eq_getElem?_getD, List.getD_eq_getElem?_getD, List.getElem?_append_left hj]
/-- w' is w but for the request k, the calls' states and at most n new requests -/
structure Nr (n : Nat) (w w' : World) (k : Nat) : Prop where
  hh : w'.house = w.house
  hn : w'.now = w.now
  hd : w'.down = w.down
  hs : w'.slow = w.slow
  l1 : w.requests.length ≤ w'.requests.length
  l2 : w'.requests.length ≤ w.requests.length + n
  ot : ∀ j, j < w.requests.length → j ≠ k → reqAt w' j = reqAt w j
theorem Nr.refl {n : Nat} {w : World} {k : Nat} : Nr n w w k := ⟨rfl, rfl, rfl, rfl, Nat.le_refl _, Nat.le_add_right _ _, fun _ _ _ => rfl⟩
theorem Nr.trans {n m : Nat} {w w1 w2 : World} {k : Nat} (a : Nr n w w1 k) (b : Nr m w1 w2 k) : Nr (n + m) w w2 k :=
  ⟨b.hh.trans a.hh, b.hn.trans a.hn, b.hd.trans a.hd, b.hs.trans a.hs, Nat.le_trans a.l1 b.l1, by have := a.l2; have := b.l2; omega, fun j hj h => (b.ot j (Nat.lt_of_lt_of_le hj a.l1) h).trans (a.ot j hj h)⟩
theorem Nr.setReq {w : World} {k : Nat} {r : Request} (hk : k < w.requests.length) : Nr 0 w (setReq w k r) k :=
  ⟨rfl, rfl, rfl, rfl, by show _ ≤ (w.requests.set k r).length; rw [List.length_set]; exact Nat.le_refl _, by show (w.requests.set k r).length ≤ _; rw [List.length_set]; exact Nat.le_refl _, fun j _ h => by rw [reqAt_setReq hk, if_neg h]⟩
theorem Nr.setLink {w : World} {i k : Nat} {l : Link} : Nr 0 w (setLink w i l) k := ⟨rfl, rfl, rfl, rfl, Nat.le_refl _, Nat.le_refl _, fun _ _ _ => rfl⟩
theorem Nr.went {w : World} {i k : Nat} {ok : Bool} {c : Option Nat} : Nr 0 w (went w i ok c) k := by
  obtain ⟨h1, h2, h3, h4, h5⟩ := went_req (w := w) (i := i) (ok := ok) (c := c)
  exact ⟨h2, h4, h3, h5, by rw [h1]; exact Nat.le_refl _, by rw [h1]; exact Nat.le_refl _, fun j _ _ => reqAt_went⟩
theorem Nr.comes {w : World} {s d k : Nat} {e : Option Nat} : Nr 1 w (comes w s e d) k :=
  ⟨rfl, rfl, rfl, rfl, by show _ ≤ (w.requests ++ [_]).length; rw [List.length_append]; exact Nat.le_add_right _ _, by show (w.requests ++ [_]).length ≤ _; rw [List.length_append]; exact Nat.le_refl _, fun j hj _ => reqAt_comes hj⟩
theorem Nr.onward {w : World} {k : Nat} (hk : k < w.requests.length) : Nr 0 w (onward w k) k := Nr.setReq hk
theorem Nr.tried {w : World} {k i t : Nat} (hk : k < w.requests.length) : Nr 0 w (tried w k i t) k := by
  unfold Gp27.tried
  dsimp only
  split
  · exact Nr.trans (n := 0) (m := 0) Nr.setLink (Nr.setReq hk)
  · split
    · exact Nr.onward hk
    · exact Nr.setReq hk
/-! ### the steps, case by case -/
def stopW (w : World) (k how : Nat) : World := match (reqAt w k).state, (serviceAt w (reqAt w k).service).steps[(reqAt w k).step]? with
  | .asked c _, some (.ask i) => went (setReq w k { reqAt w k with state := .over how }) i false (some c)
  | _, _ => setReq w k { reqAt w k with state := .over how }
def earnW (w : World) (i t : Nat) : World := if t = 0 then setLink w i { linkAt w i with tokens := min TOKENS ((linkAt w i).tokens + 1) } else w
def madeW (w : World) (k i : Nat) : World := comes w (askAt w i).whom none (min (reqAt w k).deadline (w.now + (askAt w i).most))
def probeW (w : World) (i c : Nat) : World := if (linkAt w i).openTill = 0 then w else setLink w i { linkAt w i with trial := some c }
def callW (w : World) (k i t : Nat) : World :=
  if lets (earnW w i t) i = false then tried (earnW w i t) k i t else
    setReq (probeW (comes (earnW w i t) (askAt (earnW w i t) i).whom none (min (reqAt w k).deadline ((earnW w i t).now + (askAt (earnW w i t) i).most))) i (earnW w i t).requests.length) k { reqAt w k with state := .asked (earnW w i t).requests.length t }
section
variable {w : World} {k : Nat}
theorem one_over (h : isOver (reqAt w k) = true) : oneReq w k = w := by
  unfold oneReq
  exact if_pos h
theorem one_late (h0 : ¬ isOver (reqAt w k) = true) (h1 : (reqAt w k).deadline ≤ w.now) : oneReq w k = stopW w k 2 := by
  unfold oneReq
  dsimp only
  rw [if_neg h0, if_pos h1] <;> rfl
theorem one_down (h0 : ¬ isOver (reqAt w k) = true) (h1 : ¬ (reqAt w k).deadline ≤ w.now) (h2 : w.down.contains (reqAt w k).service = true) : oneReq w k = stopW w k 4 := by
  unfold oneReq
  dsimp only
  rw [if_neg h0, if_neg h1, if_pos h2] <;> rfl
theorem one_q (h1 : ¬ (reqAt w k).deadline ≤ w.now) (h2 : ¬ w.down.contains (reqAt w k).service = true) (hs : (reqAt w k).state = .queued) :
    oneReq w k = if working w (reqAt w k).service < (serviceAt w (reqAt w k).service).workers then setReq w k { reqAt w k with state := begun w (reqAt w k) } else w := by
  have h0 : ¬ isOver (reqAt w k) = true := by rw [isOver_iff, hs]; decide
  unfold oneReq
  dsimp only
  rw [if_neg h0, if_neg h1, if_neg h2, hs]
theorem one_w {n : Nat} (h1 : ¬ (reqAt w k).deadline ≤ w.now) (h2 : ¬ w.down.contains (reqAt w k).service = true) (hs : (reqAt w k).state = .work n) :
    oneReq w k = if n ≤ 1 then onward w k else setReq w k { reqAt w k with state := .work (n - 1) } := by
  have h0 : ¬ isOver (reqAt w k) = true := by rw [isOver_iff, hs]; exact (by decide : ¬ (1 = 4))
  unfold oneReq
  dsimp only
  rw [if_neg h0, if_neg h1, if_neg h2, hs]
theorem one_r {f t i : Nat} (h1 : ¬ (reqAt w k).deadline ≤ w.now) (h2 : ¬ w.down.contains (reqAt w k).service = true) (hs : (reqAt w k).state = .ready f t) (ha : isAsk w.house (reqAt w k) i) :
    oneReq w k = if w.now < f then w else callW w k i t := by
  have h0 : ¬ isOver (reqAt w k) = true := by rw [isOver_iff, hs]; exact (by decide : ¬ (2 = 4))
  unfold oneReq
  dsimp only
  rw [if_neg h0, if_neg h1, if_neg h2, hs]
  have ha' : (serviceAt w (reqAt w k).service).steps[(reqAt w k).step]? = some (.ask i) := ha
  dsimp only
  rw [ha']
  rfl
theorem one_a {c t i : Nat} (h1 : ¬ (reqAt w k).deadline ≤ w.now) (h2 : ¬ w.down.contains (reqAt w k).service = true) (hs : (reqAt w k).state = .asked c t) (ha : isAsk w.house (reqAt w k) i) :
    oneReq w k = match (reqAt w c).state with
      | .over 0 => onward (went w i true (some c)) k
      | .over _ => tried (went w i false (some c)) k i t
      | _ => w := by
  have h0 : ¬ isOver (reqAt w k) = true := by rw [isOver_iff, hs]; exact (by decide : ¬ (3 = 4))
  unfold oneReq
  dsimp only
  rw [if_neg h0, if_neg h1, if_neg h2, hs]
  have ha' : (serviceAt w (reqAt w k).service).steps[(reqAt w k).step]? = some (.ask i) := ha
  dsimp only
  rw [ha']
  rfl
theorem stop_a {c t i how : Nat} (hs : (reqAt w k).state = .asked c t) (ha : isAsk w.house (reqAt w k) i) : stopW w k how = setReq (went w i false (some c)) k { reqAt w k with state := .over how } := by
  have ha' : (serviceAt w (reqAt w k).service).steps[(reqAt w k).step]? = some (.ask i) := ha
  unfold stopW
  rw [hs, ha']
  dsimp only
  rw [went_setReq]
theorem stop_o {how : Nat} (hs : cd1 (reqAt w k).state ≠ 3) : stopW w k how = setReq w k { reqAt w k with state := .over how } := by
  unfold stopW
  split
  · rename_i c t i e _
    rw [e] at hs
    exact absurd rfl hs
  · rfl
/-! ### what they keep -/
theorem onward_ok (W : WOk w) (hk : k < w.requests.length) (h : (reqAt w k).step < (svc w.house (reqAt w k).service).steps.length) : WOk (onward w k) := by
  have R := W.req hk
  exact W.setReq (begun_ok W (r := { reqAt w k with step := (reqAt w k).step + 1 }) R.sv h)
theorem StOk_over {h : House} {n how : Nat} {r : Request} (hh : how ≤ 4) : StOk h n { r with state := .over how } := hh
theorem tried_ok (W : WOk w) (hk : k < w.requests.length) {i t : Nat} (ha : isAsk w.house (reqAt w k) i) : WOk (tried w k i t) := by
  have R := W.req hk
  have hi := isAsk_lt W.hs R.sv ha
  have L := W.lk i hi
  unfold tried
  dsimp only
  split
  · have W1 : WOk (setLink w i { linkAt w i with tokens := (linkAt w i).tokens - (askAt w i).cost }) := W.setLink hi ⟨L.tr, L.fl, L.no⟩
    exact W1.setReq ⟨R.sv, R.st, ⟨i, ha⟩⟩
  · split
    · exact onward_ok W hk (isAsk_step ha)
    · exact W.setReq ⟨R.sv, R.st, StOk_over (by decide)⟩
theorem stop_ok (W : WOk w) (hk : k < w.requests.length) {how : Nat} (hh : how ≤ 4) : WOk (stopW w k how) := by
  have R := W.req hk
  have R' : ReqOk w.house w.requests.length { reqAt w k with state := .over how } := ⟨R.sv, R.st, StOk_over hh⟩
  unfold stopW
  split
  · rename_i c t i e ha
    have hi := isAsk_lt W.hs R.sv (show isAsk w.house (reqAt w k) i from ha)
    exact went_ok (W.setReq R') hi
  · exact W.setReq R'
theorem earn_ok (W : WOk w) {i t : Nat} (hi : i < w.house.asks.length) : WOk (earnW w i t) := by
  have L := W.lk i hi
  unfold earnW
  split
  · exact W.setLink hi ⟨L.tr, L.fl, L.no⟩
  · exact W
theorem earn_nr {i t : Nat} : Nr 0 w (earnW w i t) k := by
  unfold earnW
  split
  · exact Nr.setLink
  · exact Nr.refl
theorem earn_req {i t j : Nat} : reqAt (earnW w i t) j = reqAt w j := by
  unfold earnW
  split <;> rfl
theorem probe_ok (W : WOk w) {i c : Nat} (hi : i < w.house.asks.length) : WOk (probeW w i c) := by
  have L := W.lk i hi
  unfold probeW
  split
  · exact W
  · rename_i ho
    exact W.setLink hi ⟨fun z => absurd z ho, L.fl, L.no⟩
theorem probe_nr {i c : Nat} : Nr 0 w (probeW w i c) k := by
  unfold probeW
  split
  · exact Nr.refl
  · exact Nr.setLink
theorem probe_req {i c j : Nat} : reqAt (probeW w i c) j = reqAt w j := by
  unfold probeW
  split <;> rfl
theorem probe_len {i c : Nat} : (probeW w i c).requests.length = w.requests.length := by
  unfold probeW
  split <;> rfl
theorem probe_house {i c : Nat} : (probeW w i c).house = w.house := by
  unfold probeW
  split <;> rfl
theorem earn_house {i c : Nat} : (earnW w i c).house = w.house := by
  unfold earnW
  split <;> rfl
theorem earn_len {i c : Nat} : (earnW w i c).requests.length = w.requests.length := by
  unfold earnW
  split <;> rfl
theorem earn_now {i c : Nat} : (earnW w i c).now = w.now := by
  unfold earnW
  split <;> rfl
theorem comes_len {s d : Nat} {e : Option Nat} : (comes w s e d).requests.length = w.requests.length + 1 := by
  show (w.requests ++ [_]).length = _
  rw [List.length_append] <;> rfl
theorem call_ok (W : WOk w) (hk : k < w.requests.length) {i t : Nat} (ha : isAsk w.house (reqAt w k) i) : WOk (callW w k i t) ∧ Nr 1 w (callW w k i t) k := by
  have R := W.req hk
  have hi := isAsk_lt W.hs R.sv ha
  have W1 := earn_ok (t := t) W hi
  have ha1 : isAsk (earnW w i t).house (reqAt (earnW w i t) k) i := by rw [earn_house, earn_req]; exact ha
  have hk1 : k < (earnW w i t).requests.length := by rw [earn_len]; exact hk
  unfold callW
  split
  · exact ⟨tried_ok W1 hk1 ha1, Nr.trans (n := 0) (m := 1) earn_nr ⟨(Nr.tried hk1).hh, (Nr.tried hk1).hn, (Nr.tried hk1).hd, (Nr.tried hk1).hs, (Nr.tried hk1).l1, Nat.le_trans (Nr.tried hk1).l2 (Nat.le_succ _), (Nr.tried hk1).ot⟩⟩
  · have hs : (askAt (earnW w i t) i).whom < (earnW w i t).house.services.length := by
      have h1 : i < (earnW w i t).house.asks.length := by rw [earn_house]; exact hi
      exact W1.hs.tg _ (askOf_mem h1)
    have W2 : WOk (comes (earnW w i t) (askAt (earnW w i t) i).whom none (min (reqAt w k).deadline ((earnW w i t).now + (askAt (earnW w i t) i).most))) := W1.comes hs
    have W3 := probe_ok (c := (earnW w i t).requests.length) W2 (i := i) (by show i < (earnW w i t).house.asks.length; rw [earn_house]; exact hi)
    have hl : (probeW (comes (earnW w i t) (askAt (earnW w i t) i).whom none (min (reqAt w k).deadline ((earnW w i t).now + (askAt (earnW w i t) i).most))) i (earnW w i t).requests.length).requests.length = w.requests.length + 1 := by rw [probe_len, comes_len, earn_len]
    have hh : (probeW (comes (earnW w i t) (askAt (earnW w i t) i).whom none (min (reqAt w k).deadline ((earnW w i t).now + (askAt (earnW w i t) i).most))) i (earnW w i t).requests.length).house = w.house := by
      rw [probe_house]
      exact earn_house
    refine ⟨W3.setReq ?_, ?_⟩
    · rw [hh, hl]
      exact ⟨R.sv, R.st, ⟨⟨i, ha⟩, by rw [earn_len]; exact Nat.lt_succ_self _⟩⟩
    · refine Nr.trans (n := 0) (m := 1) earn_nr (Nr.trans (n := 1) (m := 0) Nr.comes (Nr.trans (n := 0) (m := 0) probe_nr (Nr.setReq ?_)))
      rw [hl]
      omega
theorem one_ok (W : WOk w) (hk : k < w.requests.length) : WOk (oneReq w k) ∧ Nr 1 w (oneReq w k) k := by
  have R := W.req hk
  have up : ∀ {v : World}, Nr 0 w v k → Nr 1 w v k := fun x => ⟨x.hh, x.hn, x.hd, x.hs, x.l1, Nat.le_trans x.l2 (Nat.le_succ _), x.ot⟩
  have stop_nr : ∀ how, Nr 0 w (stopW w k how) k := fun how => by
    unfold stopW
    split
    · exact Nr.trans (n := 0) (m := 0) (Nr.setReq hk) Nr.went
    · exact Nr.setReq hk
  by_cases h0 : isOver (reqAt w k) = true
  · rw [one_over h0]
    exact ⟨W, Nr.refl⟩
  by_cases h1 : (reqAt w k).deadline ≤ w.now
  · rw [one_late h0 h1]
    exact ⟨stop_ok W hk (by decide), up (stop_nr _)⟩
  by_cases h2 : w.down.contains (reqAt w k).service = true
  · rw [one_down h0 h1 h2]
    exact ⟨stop_ok W hk (by decide), up (stop_nr _)⟩
  have S := R.ok
  unfold StOk at S
  cases hs : (reqAt w k).state with
  | queued =>
    rw [one_q h1 h2 hs]
    split
    · exact ⟨W.setReq (begun_ok W R.sv R.st), up (Nr.setReq hk)⟩
    · exact ⟨W, Nr.refl⟩
  | work n =>
    rw [hs] at S
    rw [one_w h1 h2 hs]
    split
    · exact ⟨onward_ok W hk S.2, up (Nr.onward hk)⟩
    · rename_i hn
      exact ⟨W.setReq ⟨R.sv, R.st, ⟨by omega, S.2⟩⟩, up (Nr.setReq hk)⟩
  | ready f t =>
    rw [hs] at S
    obtain ⟨i, ha⟩ := S
    rw [one_r h1 h2 hs ha]
    split
    · exact ⟨W, Nr.refl⟩
    · exact call_ok W hk ha
  | asked c t =>
    rw [hs] at S
    obtain ⟨⟨i, ha⟩, hc⟩ := S
    have hi := isAsk_lt W.hs R.sv ha
    have ha' : ∀ ok, isAsk (went w i ok (some c)).house (reqAt (went w i ok (some c)) k) i := fun ok => by
      rw [went_req.2.1, reqAt_went]
      exact ha
    have hk' : ∀ ok, k < (went w i ok (some c)).requests.length := fun ok => by rw [went_req.1]; exact hk
    rw [one_a h1 h2 hs ha]
    split
    · exact ⟨onward_ok (went_ok W hi) (hk' _) (isAsk_step (ha' true)), up (Nr.trans (n := 0) (m := 0) Nr.went (Nr.onward (hk' _)))⟩
    · exact ⟨tried_ok (went_ok W hi) (hk' _) (ha' false), up (Nr.trans (n := 0) (m := 0) Nr.went (Nr.tried (hk' _)))⟩
    · exact ⟨W, Nr.refl⟩
  | over n => exact absurd (isOver_iff.mpr (by rw [hs]; rfl)) h0
end
end Cw
end

/-! ## W4 -/
section
set_option maxRecDepth 100000
/-! Ticks. Plain Lean. -/
namespace Cw
open Gp27
/-- the requests that have not ended -/
def act (w : World) : List Nat := (List.range w.requests.length).filter fun k => !isOver (reqAt w k)
theorem fold_act : ∀ (l : List Nat) (v : World), WOk v → l.Nodup → (∀ j ∈ l, j < v.requests.length) → l.foldl oneReq v = (l.filter fun k => !isOver (reqAt v k)).foldl oneReq v
  | [], _, _, _, _ => rfl
  | k :: r, v, W, nd, hl => by
    obtain ⟨n1, n2⟩ := List.nodup_cons.mp nd
    have hk := hl k List.mem_cons_self
    obtain ⟨W', N⟩ := one_ok W hk
    have ih := fold_act r (oneReq v k) W' n2 fun j hj => Nat.lt_of_lt_of_le (hl j (List.mem_cons_of_mem _ hj)) N.l1
    have e : (r.filter fun j => !isOver (reqAt (oneReq v k) j)) = r.filter fun j => !isOver (reqAt v j) := List.filter_congr fun j hj => by
      rw [N.ot j (hl j (List.mem_cons_of_mem _ hj)) (fun z => n1 (by rw [← z]; exact hj))]
    rw [e] at ih
    rw [List.foldl_cons, ih, List.filter_cons]
    cases h : isOver (reqAt v k) with
    | true =>
      rw [one_over h]
      rfl
    | false => rfl
/-- what a row of requests leaves -/
structure Fo (v v' : World) (l : List Nat) : Prop where
  ok : WOk v'
  hh : v'.house = v.house
  hn : v'.now = v.now
  hd : v'.down = v.down
  hs : v'.slow = v.slow
  l1 : v.requests.length ≤ v'.requests.length
  l2 : v'.requests.length ≤ v.requests.length + l.length
  ot : ∀ j, j < v.requests.length → j ∉ l → reqAt v' j = reqAt v j
theorem fold_inv : ∀ (l : List Nat) (v : World), WOk v → (∀ j ∈ l, j < v.requests.length) → Fo v (l.foldl oneReq v) l
  | [], v, W, _ => ⟨W, rfl, rfl, rfl, rfl, Nat.le_refl _, Nat.le_refl _, fun _ _ _ => rfl⟩
  | k :: r, v, W, hl => by
    have hk := hl k List.mem_cons_self
    obtain ⟨W', N⟩ := one_ok W hk
    have ih := fold_inv r (oneReq v k) W' fun j hj => Nat.lt_of_lt_of_le (hl j (List.mem_cons_of_mem _ hj)) N.l1
    rw [List.foldl_cons]
    refine ⟨ih.ok, ih.hh.trans N.hh, ih.hn.trans N.hn, ih.hd.trans N.hd, ih.hs.trans N.hs, Nat.le_trans N.l1 ih.l1, ?_, fun j hj hn => ?_⟩
    · have := ih.l2
      have := N.l2
      rw [List.length_cons]
      omega
    · rw [ih.ot j (Nat.lt_of_lt_of_le hj N.l1) (fun z => hn (List.mem_cons_of_mem _ z)), N.ot j hj (fun z => hn (by rw [z]; exact List.mem_cons_self))]
theorem act_lt {w : World} : ∀ j ∈ act w, j < w.requests.length := fun j hj => List.mem_range.mp (List.mem_filter.mp hj).1
theorem act_nd {w : World} : (act w).Nodup := List.nodup_range.filter _
theorem tick_act {w : World} (W : WOk w) : tick w = (act w).foldl oneReq { w with now := w.now + 1 } := by
  unfold tick act
  exact fold_act _ _ (W.time _) List.nodup_range fun j hj => List.mem_range.mp hj
structure Tk (w w' : World) : Prop where
  ok : WOk w'
  hh : w'.house = w.house
  hd : w'.down = w.down
  hs : w'.slow = w.slow
theorem tick_ok {w : World} (W : WOk w) : Tk w (tick w) ∧ w.requests.length ≤ (tick w).requests.length ∧ (tick w).requests.length ≤ w.requests.length + w.requests.length := by
  have f := fold_inv (List.range w.requests.length) { w with now := w.now + 1 } (W.time _) fun j hj => List.mem_range.mp hj
  have l2 := f.l2
  rw [List.length_range] at l2
  exact ⟨⟨f.ok, f.hh, f.hd, f.hs⟩, f.l1, l2⟩
def tk (w : World) : World := if MOST < w.requests.length then w else tick w
theorem ticks_succ : ∀ (n : Nat) (w : World), ticks (n + 1) w = tk (ticks n w)
  | 0, w => by
    unfold tk
    show (if MOST < w.requests.length then w else tick w) = _
    rfl
  | n + 1, w => by
    show (if MOST < w.requests.length then w else ticks (n + 1) (tick w)) = tk (if MOST < w.requests.length then w else ticks n (tick w))
    by_cases h : MOST < w.requests.length
    · rw [if_pos h, if_pos h]
      unfold tk
      rw [if_pos h]
    · rw [if_neg h, if_neg h]
      exact ticks_succ n (tick w)
theorem tk_ok {w : World} (W : WOk w) (hl : w.requests.length ≤ 800) : Tk w (tk w) ∧ w.requests.length ≤ (tk w).requests.length ∧ (tk w).requests.length ≤ 800 := by
  unfold tk
  split
  · exact ⟨⟨W, rfl, rfl, rfl⟩, Nat.le_refl _, hl⟩
  · rename_i h
    have h' : w.requests.length ≤ 400 := Nat.le_of_not_lt h
    obtain ⟨a, b, c⟩ := tick_ok W
    exact ⟨a, b, by omega⟩
theorem ticks_ok {w : World} (W : WOk w) (hl : w.requests.length ≤ 800) : ∀ n, Tk w (ticks n w) ∧ w.requests.length ≤ (ticks n w).requests.length ∧ (ticks n w).requests.length ≤ 800
  | 0 => ⟨⟨W, rfl, rfl, rfl⟩, Nat.le_refl _, hl⟩
  | n + 1 => by
    obtain ⟨a, b, c⟩ := ticks_ok W hl n
    rw [ticks_succ]
    obtain ⟨a', b', c'⟩ := tk_ok a.ok c
    exact ⟨⟨a'.ok, a'.hh.trans a.hh, a'.hd.trans a.hd, a'.hs.trans a.hs⟩, Nat.le_trans b b', c'⟩
end Cw
end

/-! ## W5 -/
section
set_option maxRecDepth 100000
/-! Isolated requests: the world that one begins with. Plain Lean. -/
namespace Cw
open Gp27
/-- the same house but for what is optional -/
structure SameUp (h h' : House) : Prop where
  sv : h'.services = h.services
  en : h'.entries = h.entries
  la : h'.asks.length = h.asks.length
  ak : ∀ (i : Nat) a', h'.asks[i]? = some a' → ∃ a, h.asks[i]? = some a ∧ a' = { a with may := a'.may }
theorem SameUp.refl {h : House} : SameUp h h := ⟨rfl, rfl, rfl, fun _ a ha => ⟨a, ha, rfl⟩⟩
theorem SameUp.ok {h h' : House} (H : HouseOk h) (s : SameUp h h') : HouseOk h' := by
  refine ⟨by rw [s.sv]; exact H.ns, by rw [s.la]; exact H.na, by rw [s.en]; exact H.ne, by rw [s.sv]; exact H.nst, by rw [s.sv]; exact H.wk, by rw [s.sv, s.la]; exact H.ak, fun a' ha => ?_, by rw [s.en, s.sv]; exact H.en⟩
  obtain ⟨i, hi, e⟩ := List.mem_iff_getElem.mp ha
  obtain ⟨a, e1, e2⟩ := s.ak i a' (by rw [List.getElem?_eq_getElem hi, e])
  rw [e2, s.sv]
  exact H.tg a (List.mem_of_getElem? e1)
/-- the house with other things optional -/
def withMay (h : House) (m : List Bool) : House := { h with asks := h.asks.zipIdx.map fun x => { x.1 with may := m.getD x.2 false } }
theorem withMay_at {h : House} {m : List Bool} {i : Nat} {a : Ask} (ha : h.asks[i]? = some a) : (withMay h m).asks[i]? = some { a with may := m.getD i false } := by
  show (h.asks.zipIdx.map _)[i]? = _
  rw [List.getElem?_map, List.getElem?_zipIdx, ha]
  simp
theorem withMay_len {h : House} {m : List Bool} : (withMay h m).asks.length = h.asks.length := by
  show (h.asks.zipIdx.map _).length = _
  rw [List.length_map, List.length_zipIdx]
theorem withMay_same {h : House} {m : List Bool} : SameUp h (withMay h m) := ⟨rfl, rfl, withMay_len, fun i a' ha => by
  have hi : i < h.asks.length := by rw [← withMay_len (m := m)]; exact (List.getElem?_eq_some_iff.mp ha).1
  rw [withMay_at (askOf_eq hi)] at ha
  cases ha
  exact ⟨_, askOf_eq hi, rfl⟩⟩
theorem withMay_up {h h' : House} (s : SameUp h h') (m : List Bool) : SameUp (withMay h m) h' := ⟨s.sv, s.en, by rw [withMay_len]; exact s.la, fun i a' ha => by
  obtain ⟨a, e1, e2⟩ := s.ak i a' ha
  refine ⟨_, withMay_at e1, ?_⟩
  rw [e2]⟩
theorem mayFail_at {h : House} {l : List Nat} {i : Nat} {a : Ask} (ha : h.asks[i]? = some a) : (mayFail h l).asks[i]? = some (if l.contains i = true then { a with may := true } else a) := by
  show (h.asks.zipIdx.map _)[i]? = _
  rw [List.getElem?_map, List.getElem?_zipIdx, ha]
  simp
theorem mayFail_len {h : House} {l : List Nat} : (mayFail h l).asks.length = h.asks.length := by
  show (h.asks.zipIdx.map _).length = _
  rw [List.length_map, List.length_zipIdx]
theorem mayFail_same {h : House} {l : List Nat} : SameUp h (mayFail h l) := ⟨rfl, rfl, mayFail_len, fun i a' ha => by
  have hi : i < h.asks.length := by rw [← mayFail_len (l := l)]; exact (List.getElem?_eq_some_iff.mp ha).1
  rw [mayFail_at (askOf_eq hi)] at ha
  refine ⟨_, askOf_eq hi, ?_⟩
  split at ha
  · cases ha
    rfl
  · cases ha
    rfl⟩
theorem world_ok {h : House} (H : HouseOk h) {d : List Nat} (nd : d.Nodup) (hd : ∀ s ∈ d, s < h.services.length) : WOk { worldOf h with down := d } := by
  refine ⟨H, List.length_map _, fun i hi => ?_, fun r hr => (by cases hr), nd, hd, fun s => Nat.le_refl _⟩
  have e : linkAt { worldOf h with down := d } i = ⟨0, 0, 0, none⟩ := by
    unfold linkAt
    show (h.asks.map fun _ => (⟨0, 0, 0, none⟩ : Link)).getD i ⟨0, 0, 0, none⟩ = _
    rw [List.getD_eq_getElem?_getD, List.getElem?_map, askOf_eq (h := h) hi] <;> rfl
  rw [e]
  exact ⟨fun _ => rfl, fun z => Nat.pos_of_ne_zero z, fun _ => ⟨rfl, rfl⟩⟩
theorem world_up {h h' : House} (s : SameUp h h') {d : List Nat} : ({ ({ worldOf h with down := d } : World) with house := h' } : World) = { worldOf h' with down := d } := by
  have e : (h.asks.map fun _ => (⟨0, 0, 0, none⟩ : Link)) = h'.asks.map fun _ => ⟨0, 0, 0, none⟩ := by
    rw [List.map_const', List.map_const', s.la]
  show (⟨h', 0, [], h.asks.map fun _ => ⟨0, 0, 0, none⟩, d, []⟩ : World) = ⟨h', 0, [], h'.asks.map fun _ => ⟨0, 0, 0, none⟩, d, []⟩
  rw [e]
theorem enter_eq {w : World} {e : Nat} {x : Entry} (h : w.house.entries[e]? = some x) : enter w e = comes w x.service (some e) (w.now + x.most) := by
  unfold enter
  rw [h]
theorem enter_ok {w : World} (W : WOk w) {e : Nat} {x : Entry} (h : w.house.entries[e]? = some x) : WOk (enter w e) := by
  rw [enter_eq h]
  exact W.comes (W.hs.en x (List.mem_of_getElem? h))
theorem alone_ok {h : House} (H : HouseOk h) {d : List Nat} (nd : d.Nodup) (hd : ∀ s ∈ d, s < h.services.length) {e : Nat} (he : e < h.entries.length) : Tk (enter { worldOf h with down := d } e) (alone h d e) ∧ 1 ≤ (alone h d e).requests.length ∧ (alone h d e).requests.length ≤ 800 := by
  have hx : ({ worldOf h with down := d } : World).house.entries[e]? = some (h.entries[e]) := List.getElem?_eq_getElem he
  have W := enter_ok (world_ok H nd hd) hx
  have hl : (enter { worldOf h with down := d } e).requests.length = 1 := by
    rw [enter_eq hx, comes_len]
    rfl
  obtain ⟨a, b, c⟩ := ticks_ok W (by rw [hl]; decide) 201
  exact ⟨a, by rw [← hl]; exact b, c⟩
end Cw
end

/-! ## W6 -/
section
set_option maxRecDepth 100000
/-! The operations on a world, and what they keep. Plain Lean. -/
namespace Cw
open Gp27
def opOf (k : Nat) (ns : List Nat) : Call := match k with
  | 1 => .send (ns.getD 0 0) (ns.getD 1 0)
  | 2 => .pass (ns.getD 0 0)
  | 3 => .down (ns.getD 0 0)
  | 4 => .up (ns.getD 0 0)
  | 5 => .slow (ns.getD 0 0) (ns.getD 1 0)
  | 6 => .service (ns.getD 0 0)
  | 7 => .request (ns.getD 0 0)
  | 8 => .entry (ns.getD 0 0)
  | 9 => .link (ns.getD 0 0)
  | 10 => .falls (ns.getD 0 0)
  | 11 => .asked (ns.getD 0 0) (ns.getD 1 0)
  | 12 => .cure (ns.getD 0 0) (ns.getD 1 0)
  | _ => .text ns
/-- a world between two calls -/
structure GOk (w : World) : Prop where
  ok : WOk w
  len : w.requests.length ≤ 800
def entN' (w : World) (e i : Nat) : World := (List.range i).foldl (fun w _ => enter w e) w
theorem entN_succ {w : World} {e i : Nat} : entN' w e (i + 1) = enter (entN' w e i) e := by
  unfold entN'
  rw [List.range_succ, List.foldl_append] <;> rfl
structure Ent (w w' : World) (i : Nat) : Prop where
  ok : WOk w'
  hh : w'.house = w.house
  hn : w'.now = w.now
  hd : w'.down = w.down
  hs : w'.slow = w.slow
  ln : w'.requests.length = w.requests.length + i
theorem entN_ok {w : World} (W : WOk w) {e : Nat} {x : Entry} (h : w.house.entries[e]? = some x) : ∀ i, Ent w (entN' w e i) i
  | 0 => ⟨W, rfl, rfl, rfl, rfl, rfl⟩
  | i + 1 => by
    have ih := entN_ok W h i
    have hx : (entN' w e i).house.entries[e]? = some x := by rw [ih.hh]; exact h
    rw [entN_succ]
    have ee := enter_eq hx
    refine ⟨enter_ok ih.ok hx, ?_, ?_, ?_, ?_, ?_⟩
    · rw [ee]; exact ih.hh
    · rw [ee]; exact ih.hn
    · rw [ee]; exact ih.hd
    · rw [ee]; exact ih.hs
    · rw [ee, comes_len, ih.ln] <;> rfl
theorem count_in {n : Nat} {d : List Nat} (nd : d.Nodup) (h : ∀ s ∈ d, s < n) : ((List.range n).filter fun s => d.contains s).length = d.length := by
  refine List.Perm.length_eq ((List.perm_ext_iff_of_nodup (List.nodup_range.filter _) nd).mpr fun a => ?_)
  rw [List.mem_filter, List.mem_range, List.contains_iff_mem]
  exact ⟨fun z => z.2, fun z => ⟨h a z, z⟩⟩
theorem len_without {d : List Nat} {s : Nat} (nd : d.Nodup) (h : s ∈ d) : (d.filter fun x => x != s).length = d.length - 1 := by
  rw [← nd.erase_eq_filter, List.length_erase_of_mem h]
theorem WOk.setDown {w : World} (W : WOk w) {d : List Nat} (nd : d.Nodup) (h : ∀ s ∈ d, s < w.house.services.length) : WOk { w with down := d } := ⟨W.hs, W.ll, W.lk, W.rq, nd, h, W.sl⟩
theorem slow_at {w : World} {s k j : Nat} : slowness { w with slow := (s, k) :: w.slow.filter fun x => x.1 != s } j = if j = s then k else slowness w j := by
  unfold slowness
  show (((((s, k) :: w.slow.filter fun x => x.1 != s).find? fun x => x.1 == j).map fun x => x.2).getD 1) = _
  by_cases e : j = s
  · subst e
    rw [if_pos rfl, List.find?_cons_of_pos (by simp)] <;> rfl
  · rw [if_neg e, List.find?_cons_of_neg (by simpa using fun z : s = j => e z.symm)]
    congr 2
    induction w.slow with
    | nil => rfl
    | cons x r ih =>
      by_cases hx : x.1 = s
      · rw [List.filter_cons, if_neg (by simp [hx]), ih, List.find?_cons_of_neg (by simp [hx]; exact fun z => e z.symm)]
      · rw [List.filter_cons, if_pos (by simpa using hx)]
        by_cases hj : x.1 = j
        · rw [List.find?_cons_of_pos (by simpa using hj), List.find?_cons_of_pos (by simpa using hj)]
        · rw [List.find?_cons_of_neg (by simpa using hj), List.find?_cons_of_neg (by simpa using hj), ih]
theorem WOk.setSlow {w : World} (W : WOk w) {s k : Nat} (hk : 1 ≤ k) : WOk { w with slow := (s, k) :: w.slow.filter fun x => x.1 != s } := ⟨W.hs, W.ll, W.lk, W.rq, W.dn, W.db, fun j => by
  rw [slow_at]
  split
  · exact hk
  · exact W.sl j⟩
theorem has_iff {w : World} {s : Nat} : hasService w s = false ↔ ¬ s < w.house.services.length := by
  unfold hasService
  exact decide_eq_false_iff_not
/-- an operation but text keeps a world good -/
theorem step_ok {w : World} (G : GOk w) : ∀ c : Call, (∀ b, c ≠ .text b) → GOk (step w c).1
  | .text b, h => absurd rfl (h b)
  | .send e n, _ => by
    show GOk (if w.house.entries.length ≤ e then (w, [-2]) else if n = 0 ∨ 20 < n then (w, [-1]) else if MOST < w.requests.length + n then (w, [-5]) else _ : St × List Int).1
    split
    · exact G
    · split
      · exact G
      · split
        · exact G
        · rename_i h1 _ h3
          have he : e < w.house.entries.length := Nat.lt_of_not_le h1
          have z := entN_ok G.ok (List.getElem?_eq_getElem he) n
          refine ⟨z.ok, ?_⟩
          show (entN' w e n).requests.length ≤ 800
          rw [z.ln]
          exact Nat.le_trans (Nat.le_of_not_lt h3) (by decide)
  | .pass n, _ => by
    show GOk (if n = 0 ∨ 200 < n then (w, [-1]) else if MOST < w.requests.length then (w, [-5]) else _ : St × List Int).1
    split
    · exact G
    · split
      · exact G
      · obtain ⟨a, _, c⟩ := ticks_ok G.ok G.len n
        exact ⟨a.ok, c⟩
  | .down s, _ => by
    show GOk (if hasService w s = false then (w, [-2]) else if w.down.contains s = true then (w, [-4]) else _ : St × List Int).1
    split
    · exact G
    · split
      · exact G
      · rename_i h1 h2
        have hs : s < w.house.services.length := Decidable.of_not_not fun z => h1 (has_iff.mpr z)
        have hn : s ∉ w.down := fun z => h2 (List.contains_iff_mem.mpr z)
        refine ⟨G.ok.setDown (List.nodup_append.mpr ⟨G.ok.dn, by simp, fun a ha b hb e => hn (by rw [List.mem_singleton.mp hb] at e; rw [← e]; exact ha)⟩) fun x hx => ?_, G.len⟩
        rcases List.mem_append.mp hx with hx | hx
        · exact G.ok.db x hx
        · rw [List.mem_singleton.mp hx]
          exact hs
  | .up s, _ => by
    show GOk (if hasService w s = false then (w, [-2]) else if w.down.contains s = false then (w, [-4]) else _ : St × List Int).1
    split
    · exact G
    · split
      · exact G
      · exact ⟨G.ok.setDown (G.ok.dn.filter _) fun x hx => G.ok.db x (List.mem_filter.mp hx).1, G.len⟩
  | .slow s k, _ => by
    show GOk (if hasService w s = false then (w, [-2]) else if k = 0 ∨ 10 < k then (w, [-1]) else _ : St × List Int).1
    split
    · exact G
    · split
      · exact G
      · rename_i h
        exact ⟨G.ok.setSlow (by omega), G.len⟩
  | .service _, _ => G
  | .request _, _ => G
  | .entry _, _ => G
  | .link _, _ => G
  | .falls _, _ => G
  | .asked _ _, _ => G
  | .cure _ _, _ => G
end Cw
end

/-! ## CcTop -/
section
set_option maxRecDepth 100000
set_option maxHeartbeats 4000000
/-! What the top of the program binds, by names (printed by gentop.py). -/
namespace Cc
open PySem PySem.Spec PyProof.Rows L2
def top (i : Nat) : Stmt := PySem.Challenge.pw_callchains_s01_answers.main.body.getD i (.Pass ⟨0, 0, 0, 0⟩)
def nm0 : List Str := ["TEXT", "COUNTS", "parts_at", "place_behind", "read_calls", "LINE_END", "SPACE", "HASH", "LEAST_BYTE", "MOST_BYTE", "MOST_NAME", "MOST_DIGITS", "lines_of", "words_of", "is_meant", "has_bad_byte", "is_word", "is_letter", "is_digit", "is_name", "is_number", "number_of", "MISSING", "WORK", "ASK", "Service", "Ask", "Gate", "Plan", "place_of"]
def nm1 : List Str := ["FINE", "BAD_BYTE", "NO_DIRECTIVE", "BAD_FORM", "NO_CALL", "NAME_USED", "NO_SERVICE", "OUT_OF_RANGE", "TOO_MANY", "MOST_SERVICES", "MOST_STEPS", "MOST_ASKS", "MOST_GATES", "FORMS", "SERVICE_BOUNDS", "WORK_BOUNDS", "ASK_BOUNDS", "BUDGET_BOUNDS", "BREAKER_BOUNDS", "ENTRY_BOUNDS", "are_within", "read_service", "read_work", "read_ask", "last_ask", "read_may", "read_budget", "read_breaker", "read_entry", "READERS"]
def nm2 : List Str := ["directive_of", "fits", "has_form", "read_words", "read_plan", "MOST_TOKENS", "Link", "WAITING", "WORKING", "READY", "CALLING", "ENDED", "NEW", "SUCCESS", "FAILED", "LATE", "REJECTED", "SERVICE_DOWN", "MOST_REQUESTS", "ISOLATED_TICKS", "Request", "Run", "isolated", "BAD_NUMBER", "NO_SUCH_deeds", "NO_ENTRY_POINT", "NOT_SO", "TOO_MANY_REQUESTS", "MOST_SENT", "MOST_TICKS"]
def nm3 : List Str := ["MOST_FACTOR", "read_text", "send", "passes", "count_down", "take_down", "bring_up", "slow", "DEEDS", "is_deed", "answer_of_deed", "NO_SUCH_questions", "NO_REQUEST", "NO_CURE", "NOT_ENDED", "count_outcomes", "tell_service", "tell_request", "tell_entry", "tell_link", "none_down", "one_down", "outcome_of", "falls", "count_asked", "asked", "sets_of_calls", "optional_with", "cure", "QUESTIONS"]
def nm4 : List Str := ["answer_of_question", "answer_of"]
def nms : List Str := nm0 ++ nm1 ++ nm2 ++ nm3 ++ nm4
abbrev s_parts_at : Stmt := top 3
abbrev s_place_behind : Stmt := top 4
abbrev s_read_calls : Stmt := top 5
abbrev s_lines_of : Stmt := top 14
abbrev s_words_of : Stmt := top 15
abbrev s_is_meant : Stmt := top 16
abbrev s_has_bad_byte : Stmt := top 17
abbrev s_is_word : Stmt := top 18
abbrev s_is_letter : Stmt := top 19
abbrev s_is_digit : Stmt := top 20
abbrev s_is_name : Stmt := top 21
abbrev s_is_number : Stmt := top 22
abbrev s_number_of : Stmt := top 23
abbrev s_place_of : Stmt := top 32
abbrev s_are_within : Stmt := top 54
abbrev s_read_service : Stmt := top 55
abbrev s_read_work : Stmt := top 56
abbrev s_read_ask : Stmt := top 57
abbrev s_last_ask : Stmt := top 58
abbrev s_read_may : Stmt := top 59
abbrev s_read_budget : Stmt := top 60
abbrev s_read_breaker : Stmt := top 61
abbrev s_read_entry : Stmt := top 62
abbrev s_directive_of : Stmt := top 64
abbrev s_fits : Stmt := top 65
abbrev s_has_form : Stmt := top 66
abbrev s_read_words : Stmt := top 67
abbrev s_read_plan : Stmt := top 68
abbrev s_isolated : Stmt := top 88
abbrev s_read_text : Stmt := top 98
abbrev s_send : Stmt := top 99
abbrev s_passes : Stmt := top 100
abbrev s_count_down : Stmt := top 101
abbrev s_take_down : Stmt := top 102
abbrev s_bring_up : Stmt := top 103
abbrev s_slow : Stmt := top 104
abbrev s_is_deed : Stmt := top 106
abbrev s_answer_of_deed : Stmt := top 107
abbrev s_count_outcomes : Stmt := top 113
abbrev s_tell_service : Stmt := top 114
abbrev s_tell_request : Stmt := top 115
abbrev s_tell_entry : Stmt := top 116
abbrev s_tell_link : Stmt := top 117
abbrev s_none_down : Stmt := top 118
abbrev s_one_down : Stmt := top 119
abbrev s_outcome_of : Stmt := top 120
abbrev s_falls : Stmt := top 121
abbrev s_count_asked : Stmt := top 122
abbrev s_asked : Stmt := top 123
abbrev s_sets_of_calls : Stmt := top 124
abbrev s_optional_with : Stmt := top 125
abbrev s_cure : Stmt := top 126
abbrev s_answer_of_question : Stmt := top 128
abbrev s_answer_of : Stmt := top 130
abbrev s_answers : Stmt := top 131
abbrev s_Service_init : Stmt := inClass (top 28) 0
abbrev s_Ask_init : Stmt := inClass (top 29) 0
abbrev s_Gate_init : Stmt := inClass (top 30) 0
abbrev s_Plan_init : Stmt := inClass (top 31) 0
abbrev s_Link_init : Stmt := inClass (top 71) 0
abbrev s_Link_earn : Stmt := inClass (top 71) 1
abbrev s_Link_pay : Stmt := inClass (top 71) 2
abbrev s_Link_is_stopped : Stmt := inClass (top 71) 3
abbrev s_Link_note_made : Stmt := inClass (top 71) 4
abbrev s_Link_note_success : Stmt := inClass (top 71) 5
abbrev s_Link_note_failure : Stmt := inClass (top 71) 6
abbrev s_Request_init : Stmt := inClass (top 86) 0
abbrev s_Run_init : Stmt := inClass (top 87) 0
abbrev s_Run_add_up : Stmt := inClass (top 87) 1
abbrev s_Run_put : Stmt := inClass (top 87) 2
abbrev s_Run_is_full : Stmt := inClass (top 87) 3
abbrev s_Run_create : Stmt := inClass (top 87) 4
abbrev s_Run_start_step : Stmt := inClass (top 87) 5
abbrev s_Run_start_next_step : Stmt := inClass (top 87) 6
abbrev s_Run_ask_of : Stmt := inClass (top 87) 7
abbrev s_Run_note_failure : Stmt := inClass (top 87) 8
abbrev s_Run_stop : Stmt := inClass (top 87) 9
abbrev s_Run_fail_try : Stmt := inClass (top 87) 10
abbrev s_Run_make_call : Stmt := inClass (top 87) 11
abbrev s_Run_look_back : Stmt := inClass (top 87) 12
abbrev s_Run_do_work : Stmt := inClass (top 87) 13
abbrev s_Run_go_on : Stmt := inClass (top 87) 14
abbrev s_Run_active : Stmt := inClass (top 87) 15
abbrev s_Run_tick : Stmt := inClass (top 87) 16
abbrev s_Run_do_ticks : Stmt := inClass (top 87) 17
/-! ### small helpers -/
abbrev dd (at_ : Str × Option Str) (x q : Str) (st : Stmt) : He.DefD := ⟨at_, x, q, defArgs st, defBody st, defScope st, [], []⟩
/-- the i-th item of the tuple at an address -/
def itAt (a : PySem.W.Frag → Addr) (i : Nat) (K : PySem.W.Frag) : Addr := match K.lookup (a K) with
  | some ⟨_, _, .seq its _, _⟩ => (match its.toList[i]? with
    | some (.ref b) => b
    | _ => 0)
  | _ => 0
/-- what stands at a key of the table of a name, if it is an object -/
def keyAt (x k : Str) (K : PySem.W.Frag) : Addr := match PySem.W.nsIn K (He.ga K x) k with
  | some (some (.ref b)) => b
  | _ => 0
def tupA (K : PySem.W.Frag) (a : Addr) (vs : List V) : Bool := match K.lookup a with
  | some ⟨.type c, _, .seq its _, _⟩ => decide (c = "tuple") && (decide (its.size ≤ sizeLine) && He.relAll vs its.toList)
  | _ => false
theorem tupA_ok {K : PySem.W.Frag} {a : Addr} {vs : List V} (h : tupA K a vs = true) (H : Hp) : SqT K H a vs := by
  unfold tupA at h
  cases q : K.lookup a with
  | none => rw [q] at h; cases h
  | some o =>
    obtain ⟨oc, od, dt, osl⟩ := o
    rw [q] at h
    cases oc with
    | type c =>
      cases dt with
      | seq its n =>
        obtain ⟨h1, h2⟩ := He.ba h
        obtain ⟨h3, h4⟩ := He.ba h2
        exact .inr ⟨_, its, n, q, congrArg Value.type (of_decide_eq_true h1), rfl, of_decide_eq_true h3, He.relAll_ok h4⟩
      | _ => cases h
    | _ => cases dt <;> cases h
/-- a written dict by whole-number keys -/
def intTab (K : PySem.W.Frag) (a : Addr) (kvs : List (Int × V)) : Bool := match K.lookup a with
  | some ⟨.type c, none, .dict es _, sl⟩ => decide (c = "dict") && (sl.isEmpty && (!(a == sysModules) && (decide (es.toList.length = kvs.length) && (es.toList.zip kvs).all fun q => (match q.1.key with
    | .int i _ => decide (i = q.2.1) && (decide (q.1.hash = hashInt i) && He.relB q.2.2 q.1.val)
    | _ => false))))
  | _ => false
def fa0 : List He.Fa := [.glo "parts_at", .glo "place_behind", .glo "read_calls", .glo "lines_of", .glo "words_of", .glo "is_meant", .glo "has_bad_byte", .glo "is_word", .glo "is_letter", .glo "is_digit", .glo "is_name", .glo "is_number", .glo "number_of", .glo "place_of", .glo "are_within", .glo "read_service", .glo "read_work", .glo "read_ask", .glo "last_ask", .glo "read_may", .glo "read_budget", .glo "read_breaker", .glo "read_entry", .glo "directive_of", .glo "fits", .glo "has_form", .glo "read_words", .glo "read_plan", .glo "isolated", .glo "read_text"]
def fa1 : List He.Fa := [.glo "send", .glo "passes", .glo "count_down", .glo "take_down", .glo "bring_up", .glo "slow", .glo "is_deed", .glo "answer_of_deed", .glo "count_outcomes", .glo "tell_service", .glo "tell_request", .glo "tell_entry", .glo "tell_link", .glo "none_down", .glo "one_down", .glo "outcome_of", .glo "falls", .glo "count_asked", .glo "asked", .glo "sets_of_calls", .glo "optional_with", .glo "cure", .glo "answer_of_question", .glo "answer_of", .glo "answers", .glo "Service", .cls "Service", .mkr "Service", .noat "Service" "name", .noat "Service" "workers"]
def fa2 : List He.Fa := [.noat "Service" "queue", .noat "Service" "steps", .glo "Ask", .cls "Ask", .mkr "Ask", .noat "Ask" "target", .noat "Ask" "timeout", .noat "Ask" "tries", .noat "Ask" "wait", .noat "Ask" "is_optional", .noat "Ask" "cost", .noat "Ask" "limit", .noat "Ask" "span", .glo "Gate", .cls "Gate", .mkr "Gate", .noat "Gate" "name", .noat "Gate" "service", .noat "Gate" "timeout", .glo "Plan", .cls "Plan", .mkr "Plan", .noat "Plan" "services", .noat "Plan" "asks", .noat "Plan" "gates", .glo "Link", .cls "Link", .mkr "Link", .noat "Link" "tokens", .noat "Link" "failures"]
def fa3 : List He.Fa := [.noat "Link" "until", .noat "Link" "probe", .meth "Link" "earn", .meth "Link" "pay", .meth "Link" "is_stopped", .meth "Link" "note_made", .meth "Link" "note_success", .meth "Link" "note_failure", .glo "Request", .cls "Request", .mkr "Request", .noat "Request" "service", .noat "Request" "entry", .noat "Request" "deadline", .noat "Request" "step", .noat "Request" "status", .noat "Request" "first", .noat "Request" "second", .glo "Run", .cls "Run", .mkr "Run", .noat "Run" "plan", .noat "Run" "time", .noat "Run" "requests", .noat "Run" "links", .noat "Run" "optional", .noat "Run" "down", .noat "Run" "factors", .noat "Run" "waiting", .noat "Run" "occupied"]
def fa4 : List He.Fa := [.meth "Run" "add_up", .meth "Run" "put", .meth "Run" "is_full", .meth "Run" "create", .meth "Run" "start_step", .meth "Run" "start_next_step", .meth "Run" "ask_of", .meth "Run" "note_failure", .meth "Run" "stop", .meth "Run" "fail_try", .meth "Run" "make_call", .meth "Run" "look_back", .meth "Run" "do_work", .meth "Run" "go_on", .meth "Run" "active", .meth "Run" "tick", .meth "Run" "do_ticks", .int "TEXT" (0), .int "LINE_END" (10), .int "SPACE" (32), .int "HASH" (35), .int "LEAST_BYTE" (32), .int "MOST_BYTE" (126), .int "MOST_NAME" (8), .int "MOST_DIGITS" (3), .int "MISSING" (-1), .int "WORK" (0), .int "ASK" (1), .int "FINE" (0), .int "BAD_BYTE" (1)]
def fa5 : List He.Fa := [.int "NO_DIRECTIVE" (2), .int "BAD_FORM" (3), .int "NO_CALL" (4), .int "NAME_USED" (5), .int "NO_SERVICE" (6), .int "OUT_OF_RANGE" (7), .int "TOO_MANY" (8), .int "MOST_SERVICES" (8), .int "MOST_STEPS" (5), .int "MOST_ASKS" (12), .int "MOST_GATES" (4), .int "MOST_TOKENS" (20), .int "WAITING" (0), .int "WORKING" (1), .int "READY" (2), .int "CALLING" (3), .int "ENDED" (4), .int "NEW" (5), .int "SUCCESS" (0), .int "FAILED" (1), .int "LATE" (2), .int "REJECTED" (3), .int "SERVICE_DOWN" (4), .int "MOST_REQUESTS" (400), .int "ISOLATED_TICKS" (201), .int "BAD_NUMBER" (-1), .int "NO_SUCH_deeds" (-2), .int "NO_ENTRY_POINT" (-3), .int "NOT_SO" (-4), .int "TOO_MANY_REQUESTS" (-5)]
def fa6 : List He.Fa := [.int "MOST_SENT" (20), .int "MOST_TICKS" (200), .int "MOST_FACTOR" (10), .int "NO_SUCH_questions" (-2), .int "NO_REQUEST" (-3), .int "NO_CURE" (-6), .int "NOT_ENDED" (9), .free "len", .free "range", .free "enumerate", .free "zip", .free "list", .free "min", .free "all", .free "any", .free "ord", .glo "COUNTS", .glo "FORMS", .glo "SERVICE_BOUNDS", .glo "WORK_BOUNDS", .glo "ASK_BOUNDS", .glo "BUDGET_BOUNDS", .glo "BREAKER_BOUNDS", .glo "ENTRY_BOUNDS", .glo "READERS", .glo "DEEDS", .glo "QUESTIONS"]
def fa : List He.Fa := fa0 ++ (fa1 ++ (fa2 ++ (fa3 ++ (fa4 ++ (fa5 ++ (fa6))))))
def fn0 : List He.DefD := [dd ("parts_at", none) "parts_at" "parts_at" s_parts_at, dd ("place_behind", none) "place_behind" "place_behind" s_place_behind, dd ("read_calls", none) "read_calls" "read_calls" s_read_calls, dd ("lines_of", none) "lines_of" "lines_of" s_lines_of, dd ("words_of", none) "words_of" "words_of" s_words_of, dd ("is_meant", none) "is_meant" "is_meant" s_is_meant, dd ("has_bad_byte", none) "has_bad_byte" "has_bad_byte" s_has_bad_byte, dd ("is_word", none) "is_word" "is_word" s_is_word, dd ("is_letter", none) "is_letter" "is_letter" s_is_letter, dd ("is_digit", none) "is_digit" "is_digit" s_is_digit, dd ("is_name", none) "is_name" "is_name" s_is_name, dd ("is_number", none) "is_number" "is_number" s_is_number, dd ("number_of", none) "number_of" "number_of" s_number_of, dd ("place_of", none) "place_of" "place_of" s_place_of, dd ("are_within", none) "are_within" "are_within" s_are_within, dd ("read_service", none) "read_service" "read_service" s_read_service, dd ("read_work", none) "read_work" "read_work" s_read_work, dd ("read_ask", none) "read_ask" "read_ask" s_read_ask, dd ("last_ask", none) "last_ask" "last_ask" s_last_ask, dd ("read_may", none) "read_may" "read_may" s_read_may]
def fn1 : List He.DefD := [dd ("read_budget", none) "read_budget" "read_budget" s_read_budget, dd ("read_breaker", none) "read_breaker" "read_breaker" s_read_breaker, dd ("read_entry", none) "read_entry" "read_entry" s_read_entry, dd ("directive_of", none) "directive_of" "directive_of" s_directive_of, dd ("fits", none) "fits" "fits" s_fits, dd ("has_form", none) "has_form" "has_form" s_has_form, dd ("read_words", none) "read_words" "read_words" s_read_words, dd ("read_plan", none) "read_plan" "read_plan" s_read_plan, dd ("isolated", none) "isolated" "isolated" s_isolated, dd ("read_text", none) "read_text" "read_text" s_read_text, dd ("send", none) "send" "send" s_send, dd ("passes", none) "passes" "passes" s_passes, dd ("count_down", none) "count_down" "count_down" s_count_down, dd ("take_down", none) "take_down" "take_down" s_take_down, dd ("bring_up", none) "bring_up" "bring_up" s_bring_up, dd ("slow", none) "slow" "slow" s_slow, dd ("is_deed", none) "is_deed" "is_deed" s_is_deed, dd ("answer_of_deed", none) "answer_of_deed" "answer_of_deed" s_answer_of_deed, dd ("count_outcomes", none) "count_outcomes" "count_outcomes" s_count_outcomes, dd ("tell_service", none) "tell_service" "tell_service" s_tell_service]
def fn2 : List He.DefD := [dd ("tell_request", none) "tell_request" "tell_request" s_tell_request, dd ("tell_entry", none) "tell_entry" "tell_entry" s_tell_entry, dd ("tell_link", none) "tell_link" "tell_link" s_tell_link, dd ("none_down", none) "none_down" "none_down" s_none_down, dd ("one_down", none) "one_down" "one_down" s_one_down, dd ("outcome_of", none) "outcome_of" "outcome_of" s_outcome_of, dd ("falls", none) "falls" "falls" s_falls, dd ("count_asked", none) "count_asked" "count_asked" s_count_asked, dd ("asked", none) "asked" "asked" s_asked, dd ("sets_of_calls", none) "sets_of_calls" "sets_of_calls" s_sets_of_calls, dd ("optional_with", none) "optional_with" "optional_with" s_optional_with, dd ("cure", none) "cure" "cure" s_cure, dd ("answer_of_question", none) "answer_of_question" "answer_of_question" s_answer_of_question, dd ("answer_of", none) "answer_of" "answer_of" s_answer_of, dd ("answers", none) "answers" "answers" s_answers, dd ("Service", some "__init__") "__init__" "Service.__init__" s_Service_init, dd ("Ask", some "__init__") "__init__" "Ask.__init__" s_Ask_init, dd ("Gate", some "__init__") "__init__" "Gate.__init__" s_Gate_init, dd ("Plan", some "__init__") "__init__" "Plan.__init__" s_Plan_init, dd ("Link", some "__init__") "__init__" "Link.__init__" s_Link_init]
def fn3 : List He.DefD := [dd ("Link", some "earn") "earn" "Link.earn" s_Link_earn, dd ("Link", some "pay") "pay" "Link.pay" s_Link_pay, dd ("Link", some "is_stopped") "is_stopped" "Link.is_stopped" s_Link_is_stopped, dd ("Link", some "note_made") "note_made" "Link.note_made" s_Link_note_made, dd ("Link", some "note_success") "note_success" "Link.note_success" s_Link_note_success, dd ("Link", some "note_failure") "note_failure" "Link.note_failure" s_Link_note_failure, dd ("Request", some "__init__") "__init__" "Request.__init__" s_Request_init, dd ("Run", some "__init__") "__init__" "Run.__init__" s_Run_init, dd ("Run", some "add_up") "add_up" "Run.add_up" s_Run_add_up, dd ("Run", some "put") "put" "Run.put" s_Run_put, dd ("Run", some "is_full") "is_full" "Run.is_full" s_Run_is_full, dd ("Run", some "create") "create" "Run.create" s_Run_create, dd ("Run", some "start_step") "start_step" "Run.start_step" s_Run_start_step, dd ("Run", some "start_next_step") "start_next_step" "Run.start_next_step" s_Run_start_next_step, dd ("Run", some "ask_of") "ask_of" "Run.ask_of" s_Run_ask_of, dd ("Run", some "note_failure") "note_failure" "Run.note_failure" s_Run_note_failure, dd ("Run", some "stop") "stop" "Run.stop" s_Run_stop, dd ("Run", some "fail_try") "fail_try" "Run.fail_try" s_Run_fail_try, dd ("Run", some "make_call") "make_call" "Run.make_call" s_Run_make_call, dd ("Run", some "look_back") "look_back" "Run.look_back" s_Run_look_back]
def fn4 : List He.DefD := [dd ("Run", some "do_work") "do_work" "Run.do_work" s_Run_do_work, dd ("Run", some "go_on") "go_on" "Run.go_on" s_Run_go_on, dd ("Run", some "active") "active" "Run.active" s_Run_active, dd ("Run", some "tick") "tick" "Run.tick" s_Run_tick, dd ("Run", some "do_ticks") "do_ticks" "Run.do_ticks" s_Run_do_ticks]
def fn : List He.DefD := fn0 ++ (fn1 ++ (fn2 ++ (fn3 ++ (fn4))))
def ts : List He.Tab := [((fun K => He.ga K "FORMS"), ["service", "work", "ask", "may", "budget", "breaker", "entry"]), ((fun K => He.ga K "READERS"), ["service", "work", "ask", "may", "budget", "breaker", "entry"])]
def b_COUNTS (K : PySem.W.Frag) : Bool := tupA K (He.ga K "COUNTS") [.int 0, .int 2, .int 1, .int 1, .int 1, .int 2, .int 1, .int 1, .int 1, .int 1, .int 1, .int 2, .int 2]
def b_SERVICE_BOUNDS (K : PySem.W.Frag) : Bool := tupA K (He.ga K "SERVICE_BOUNDS") [.ref (itAt (fun K => He.ga K "SERVICE_BOUNDS") 0 K), .ref (itAt (fun K => He.ga K "SERVICE_BOUNDS") 1 K)]
def b_SERVICE_BOUNDS_0 (K : PySem.W.Frag) : Bool := tupA K (itAt (fun K => He.ga K "SERVICE_BOUNDS") 0 K) [.int 1, .int 9]
def b_SERVICE_BOUNDS_1 (K : PySem.W.Frag) : Bool := tupA K (itAt (fun K => He.ga K "SERVICE_BOUNDS") 1 K) [.int 0, .int 20]
def b_WORK_BOUNDS (K : PySem.W.Frag) : Bool := tupA K (He.ga K "WORK_BOUNDS") [.ref (itAt (fun K => He.ga K "WORK_BOUNDS") 0 K)]
def b_WORK_BOUNDS_0 (K : PySem.W.Frag) : Bool := tupA K (itAt (fun K => He.ga K "WORK_BOUNDS") 0 K) [.int 1, .int 50]
def b_ASK_BOUNDS (K : PySem.W.Frag) : Bool := tupA K (He.ga K "ASK_BOUNDS") [.ref (itAt (fun K => He.ga K "ASK_BOUNDS") 0 K), .ref (itAt (fun K => He.ga K "ASK_BOUNDS") 1 K), .ref (itAt (fun K => He.ga K "ASK_BOUNDS") 2 K)]
def b_ASK_BOUNDS_0 (K : PySem.W.Frag) : Bool := tupA K (itAt (fun K => He.ga K "ASK_BOUNDS") 0 K) [.int 1, .int 200]
def b_ASK_BOUNDS_1 (K : PySem.W.Frag) : Bool := tupA K (itAt (fun K => He.ga K "ASK_BOUNDS") 1 K) [.int 1, .int 4]
def b_ASK_BOUNDS_2 (K : PySem.W.Frag) : Bool := tupA K (itAt (fun K => He.ga K "ASK_BOUNDS") 2 K) [.int 0, .int 20]
def b_BUDGET_BOUNDS (K : PySem.W.Frag) : Bool := tupA K (He.ga K "BUDGET_BOUNDS") [.ref (itAt (fun K => He.ga K "BUDGET_BOUNDS") 0 K)]
def b_BUDGET_BOUNDS_0 (K : PySem.W.Frag) : Bool := tupA K (itAt (fun K => He.ga K "BUDGET_BOUNDS") 0 K) [.int 1, .int 20]
def b_BREAKER_BOUNDS (K : PySem.W.Frag) : Bool := tupA K (He.ga K "BREAKER_BOUNDS") [.ref (itAt (fun K => He.ga K "BREAKER_BOUNDS") 0 K), .ref (itAt (fun K => He.ga K "BREAKER_BOUNDS") 1 K)]
def b_BREAKER_BOUNDS_0 (K : PySem.W.Frag) : Bool := tupA K (itAt (fun K => He.ga K "BREAKER_BOUNDS") 0 K) [.int 1, .int 20]
def b_BREAKER_BOUNDS_1 (K : PySem.W.Frag) : Bool := tupA K (itAt (fun K => He.ga K "BREAKER_BOUNDS") 1 K) [.int 1, .int 100]
def b_ENTRY_BOUNDS (K : PySem.W.Frag) : Bool := tupA K (He.ga K "ENTRY_BOUNDS") [.ref (itAt (fun K => He.ga K "ENTRY_BOUNDS") 0 K)]
def b_ENTRY_BOUNDS_0 (K : PySem.W.Frag) : Bool := tupA K (itAt (fun K => He.ga K "ENTRY_BOUNDS") 0 K) [.int 1, .int 200]
def b_FORM_service (K : PySem.W.Frag) : Bool := tupA K (keyAt "FORMS" "service" K) [.str "S", .str "workers", .str "N", .str "queue", .str "N"]
def b_FORM_work (K : PySem.W.Frag) : Bool := tupA K (keyAt "FORMS" "work" K) [.str "S", .str "N"]
def b_FORM_ask (K : PySem.W.Frag) : Bool := tupA K (keyAt "FORMS" "ask" K) [.str "S", .str "S", .str "within", .str "N", .str "tries", .str "N", .str "wait", .str "N"]
def b_FORM_may (K : PySem.W.Frag) : Bool := tupA K (keyAt "FORMS" "may" K) [.str "S", .str "fail"]
def b_FORM_budget (K : PySem.W.Frag) : Bool := tupA K (keyAt "FORMS" "budget" K) [.str "S", .str "N"]
def b_FORM_breaker (K : PySem.W.Frag) : Bool := tupA K (keyAt "FORMS" "breaker" K) [.str "S", .str "N", .str "for", .str "N"]
def b_FORM_entry (K : PySem.W.Frag) : Bool := tupA K (keyAt "FORMS" "entry" K) [.str "S", .str "to", .str "S", .str "within", .str "N"]
def b_FORMS (K : PySem.W.Frag) : Bool := He.valsB K (He.ga K "FORMS") [("service", .adr (keyAt "FORMS" "service")), ("work", .adr (keyAt "FORMS" "work")), ("ask", .adr (keyAt "FORMS" "ask")), ("may", .adr (keyAt "FORMS" "may")), ("budget", .adr (keyAt "FORMS" "budget")), ("breaker", .adr (keyAt "FORMS" "breaker")), ("entry", .adr (keyAt "FORMS" "entry"))]
def b_READERS (K : PySem.W.Frag) : Bool := He.valsB K (He.ga K "READERS") [("service", .glo "read_service"), ("work", .glo "read_work"), ("ask", .glo "read_ask"), ("may", .glo "read_may"), ("budget", .glo "read_budget"), ("breaker", .glo "read_breaker"), ("entry", .glo "read_entry")]
def b_DEEDS (K : PySem.W.Frag) : Bool := intTab K (He.ga K "DEEDS") [(1, .ref (He.ga K "send")), (2, .ref (He.ga K "passes")), (3, .ref (He.ga K "take_down")), (4, .ref (He.ga K "bring_up")), (5, .ref (He.ga K "slow"))]
def b_QUESTIONS (K : PySem.W.Frag) : Bool := intTab K (He.ga K "QUESTIONS") [(6, .ref (He.ga K "tell_service")), (7, .ref (He.ga K "tell_request")), (8, .ref (He.ga K "tell_entry")), (9, .ref (He.ga K "tell_link")), (10, .ref (He.ga K "falls")), (11, .ref (He.ga K "asked")), (12, .ref (He.ga K "cure"))]
def ex (K : PySem.W.Frag) : Bool := b_COUNTS K && (b_SERVICE_BOUNDS K && (b_SERVICE_BOUNDS_0 K && (b_SERVICE_BOUNDS_1 K && (b_WORK_BOUNDS K && (b_WORK_BOUNDS_0 K && (b_ASK_BOUNDS K && (b_ASK_BOUNDS_0 K && (b_ASK_BOUNDS_1 K && (b_ASK_BOUNDS_2 K && (b_BUDGET_BOUNDS K && (b_BUDGET_BOUNDS_0 K && (b_BREAKER_BOUNDS K && (b_BREAKER_BOUNDS_0 K && (b_BREAKER_BOUNDS_1 K && (b_ENTRY_BOUNDS K && (b_ENTRY_BOUNDS_0 K && (b_FORM_service K && (b_FORM_work K && (b_FORM_ask K && (b_FORM_may K && (b_FORM_budget K && (b_FORM_breaker K && (b_FORM_entry K && (b_FORMS K && (b_READERS K && (b_DEEDS K && (b_QUESTIONS K)))))))))))))))))))))))))))
/-- what the walk knows of the top -/
structure Txt (w : World) (K : PySem.W.Frag) (mg : Str → Option Value) : Prop where
  h : ∃ h : Heap, K.In h ∧ h.Ns mainGlobals mg
  s : He.SaysT fa fn ts w K
  x : ex K = true
section
variable {w : World} {K : PySem.W.Frag} {mg : Str → Option Value}
theorem Txt.fc (T : Txt w K mg) {f : He.Fa} (i : Nat) (e : fa[i]? = some f) : f.ok K = true := T.s.d.fact i e
theorem Txt.df (T : Txt w K mg) {d : He.DefD} (i : Nat) (e : fn[i]? = some d) : ∃ fd, FunD K d.name d.qual d.params d.body d.scope (d.dvs K) (d.kws K) (He.fAd K d.at_) fd := T.s.d.def_ i e
theorem Txt.gl (T : Txt w K mg) {x : Str} (h : (He.Fa.glo x).ok K = true) : mg x = some (.ref (He.ga K x)) := by
  obtain ⟨_, X, G⟩ := T.h
  exact He.glo_ok X G h
theorem Txt.fr (T : Txt w K mg) {x : Str} (h : (He.Fa.free x).ok K = true) : mg x = none := by
  obtain ⟨_, X, G⟩ := T.h
  exact He.free_ok X G h
theorem Txt.it (T : Txt w K mg) {x : Str} {i : Int} (h : (He.Fa.int x i).ok K = true) : ∃ t, mg x = some (.int i t) := by
  obtain ⟨_, X, G⟩ := T.h
  exact He.int_ok X G h
theorem Txt.g_parts_at (T : Txt w K mg) : mg "parts_at" = some (.ref (He.ga K "parts_at")) := T.gl (T.fc 0 rfl)
theorem Txt.g_place_behind (T : Txt w K mg) : mg "place_behind" = some (.ref (He.ga K "place_behind")) := T.gl (T.fc 1 rfl)
theorem Txt.g_read_calls (T : Txt w K mg) : mg "read_calls" = some (.ref (He.ga K "read_calls")) := T.gl (T.fc 2 rfl)
theorem Txt.g_lines_of (T : Txt w K mg) : mg "lines_of" = some (.ref (He.ga K "lines_of")) := T.gl (T.fc 3 rfl)
theorem Txt.g_words_of (T : Txt w K mg) : mg "words_of" = some (.ref (He.ga K "words_of")) := T.gl (T.fc 4 rfl)
theorem Txt.g_is_meant (T : Txt w K mg) : mg "is_meant" = some (.ref (He.ga K "is_meant")) := T.gl (T.fc 5 rfl)
theorem Txt.g_has_bad_byte (T : Txt w K mg) : mg "has_bad_byte" = some (.ref (He.ga K "has_bad_byte")) := T.gl (T.fc 6 rfl)
theorem Txt.g_is_word (T : Txt w K mg) : mg "is_word" = some (.ref (He.ga K "is_word")) := T.gl (T.fc 7 rfl)
theorem Txt.g_is_letter (T : Txt w K mg) : mg "is_letter" = some (.ref (He.ga K "is_letter")) := T.gl (T.fc 8 rfl)
theorem Txt.g_is_digit (T : Txt w K mg) : mg "is_digit" = some (.ref (He.ga K "is_digit")) := T.gl (T.fc 9 rfl)
theorem Txt.g_is_name (T : Txt w K mg) : mg "is_name" = some (.ref (He.ga K "is_name")) := T.gl (T.fc 10 rfl)
theorem Txt.g_is_number (T : Txt w K mg) : mg "is_number" = some (.ref (He.ga K "is_number")) := T.gl (T.fc 11 rfl)
theorem Txt.g_number_of (T : Txt w K mg) : mg "number_of" = some (.ref (He.ga K "number_of")) := T.gl (T.fc 12 rfl)
theorem Txt.g_place_of (T : Txt w K mg) : mg "place_of" = some (.ref (He.ga K "place_of")) := T.gl (T.fc 13 rfl)
theorem Txt.g_are_within (T : Txt w K mg) : mg "are_within" = some (.ref (He.ga K "are_within")) := T.gl (T.fc 14 rfl)
theorem Txt.g_read_service (T : Txt w K mg) : mg "read_service" = some (.ref (He.ga K "read_service")) := T.gl (T.fc 15 rfl)
theorem Txt.g_read_work (T : Txt w K mg) : mg "read_work" = some (.ref (He.ga K "read_work")) := T.gl (T.fc 16 rfl)
theorem Txt.g_read_ask (T : Txt w K mg) : mg "read_ask" = some (.ref (He.ga K "read_ask")) := T.gl (T.fc 17 rfl)
theorem Txt.g_last_ask (T : Txt w K mg) : mg "last_ask" = some (.ref (He.ga K "last_ask")) := T.gl (T.fc 18 rfl)
theorem Txt.g_read_may (T : Txt w K mg) : mg "read_may" = some (.ref (He.ga K "read_may")) := T.gl (T.fc 19 rfl)
theorem Txt.g_read_budget (T : Txt w K mg) : mg "read_budget" = some (.ref (He.ga K "read_budget")) := T.gl (T.fc 20 rfl)
theorem Txt.g_read_breaker (T : Txt w K mg) : mg "read_breaker" = some (.ref (He.ga K "read_breaker")) := T.gl (T.fc 21 rfl)
theorem Txt.g_read_entry (T : Txt w K mg) : mg "read_entry" = some (.ref (He.ga K "read_entry")) := T.gl (T.fc 22 rfl)
theorem Txt.g_directive_of (T : Txt w K mg) : mg "directive_of" = some (.ref (He.ga K "directive_of")) := T.gl (T.fc 23 rfl)
theorem Txt.g_fits (T : Txt w K mg) : mg "fits" = some (.ref (He.ga K "fits")) := T.gl (T.fc 24 rfl)
theorem Txt.g_has_form (T : Txt w K mg) : mg "has_form" = some (.ref (He.ga K "has_form")) := T.gl (T.fc 25 rfl)
theorem Txt.g_read_words (T : Txt w K mg) : mg "read_words" = some (.ref (He.ga K "read_words")) := T.gl (T.fc 26 rfl)
theorem Txt.g_read_plan (T : Txt w K mg) : mg "read_plan" = some (.ref (He.ga K "read_plan")) := T.gl (T.fc 27 rfl)
theorem Txt.g_isolated (T : Txt w K mg) : mg "isolated" = some (.ref (He.ga K "isolated")) := T.gl (T.fc 28 rfl)
theorem Txt.g_read_text (T : Txt w K mg) : mg "read_text" = some (.ref (He.ga K "read_text")) := T.gl (T.fc 29 rfl)
theorem Txt.g_send (T : Txt w K mg) : mg "send" = some (.ref (He.ga K "send")) := T.gl (T.fc 30 rfl)
theorem Txt.g_passes (T : Txt w K mg) : mg "passes" = some (.ref (He.ga K "passes")) := T.gl (T.fc 31 rfl)
theorem Txt.g_count_down (T : Txt w K mg) : mg "count_down" = some (.ref (He.ga K "count_down")) := T.gl (T.fc 32 rfl)
theorem Txt.g_take_down (T : Txt w K mg) : mg "take_down" = some (.ref (He.ga K "take_down")) := T.gl (T.fc 33 rfl)
theorem Txt.g_bring_up (T : Txt w K mg) : mg "bring_up" = some (.ref (He.ga K "bring_up")) := T.gl (T.fc 34 rfl)
theorem Txt.g_slow (T : Txt w K mg) : mg "slow" = some (.ref (He.ga K "slow")) := T.gl (T.fc 35 rfl)
theorem Txt.g_is_deed (T : Txt w K mg) : mg "is_deed" = some (.ref (He.ga K "is_deed")) := T.gl (T.fc 36 rfl)
theorem Txt.g_answer_of_deed (T : Txt w K mg) : mg "answer_of_deed" = some (.ref (He.ga K "answer_of_deed")) := T.gl (T.fc 37 rfl)
theorem Txt.g_count_outcomes (T : Txt w K mg) : mg "count_outcomes" = some (.ref (He.ga K "count_outcomes")) := T.gl (T.fc 38 rfl)
theorem Txt.g_tell_service (T : Txt w K mg) : mg "tell_service" = some (.ref (He.ga K "tell_service")) := T.gl (T.fc 39 rfl)
theorem Txt.g_tell_request (T : Txt w K mg) : mg "tell_request" = some (.ref (He.ga K "tell_request")) := T.gl (T.fc 40 rfl)
theorem Txt.g_tell_entry (T : Txt w K mg) : mg "tell_entry" = some (.ref (He.ga K "tell_entry")) := T.gl (T.fc 41 rfl)
theorem Txt.g_tell_link (T : Txt w K mg) : mg "tell_link" = some (.ref (He.ga K "tell_link")) := T.gl (T.fc 42 rfl)
theorem Txt.g_none_down (T : Txt w K mg) : mg "none_down" = some (.ref (He.ga K "none_down")) := T.gl (T.fc 43 rfl)
theorem Txt.g_one_down (T : Txt w K mg) : mg "one_down" = some (.ref (He.ga K "one_down")) := T.gl (T.fc 44 rfl)
theorem Txt.g_outcome_of (T : Txt w K mg) : mg "outcome_of" = some (.ref (He.ga K "outcome_of")) := T.gl (T.fc 45 rfl)
theorem Txt.g_falls (T : Txt w K mg) : mg "falls" = some (.ref (He.ga K "falls")) := T.gl (T.fc 46 rfl)
theorem Txt.g_count_asked (T : Txt w K mg) : mg "count_asked" = some (.ref (He.ga K "count_asked")) := T.gl (T.fc 47 rfl)
theorem Txt.g_asked (T : Txt w K mg) : mg "asked" = some (.ref (He.ga K "asked")) := T.gl (T.fc 48 rfl)
theorem Txt.g_sets_of_calls (T : Txt w K mg) : mg "sets_of_calls" = some (.ref (He.ga K "sets_of_calls")) := T.gl (T.fc 49 rfl)
theorem Txt.g_optional_with (T : Txt w K mg) : mg "optional_with" = some (.ref (He.ga K "optional_with")) := T.gl (T.fc 50 rfl)
theorem Txt.g_cure (T : Txt w K mg) : mg "cure" = some (.ref (He.ga K "cure")) := T.gl (T.fc 51 rfl)
theorem Txt.g_answer_of_question (T : Txt w K mg) : mg "answer_of_question" = some (.ref (He.ga K "answer_of_question")) := T.gl (T.fc 52 rfl)
theorem Txt.g_answer_of (T : Txt w K mg) : mg "answer_of" = some (.ref (He.ga K "answer_of")) := T.gl (T.fc 53 rfl)
theorem Txt.g_answers (T : Txt w K mg) : mg "answers" = some (.ref (He.ga K "answers")) := T.gl (T.fc 54 rfl)
theorem Txt.g_Service (T : Txt w K mg) : mg "Service" = some (.ref (He.ga K "Service")) := T.gl (T.fc 55 rfl)
theorem Txt.c_Service (T : Txt w K mg) : Cls K (He.ga K "Service") := He.cls_ok (T.fc 56 rfl)
theorem Txt.k_Service (T : Txt w K mg) : Mk K (He.ga K "Service") (He.fAd K ("Service", some "__init__")) := He.mkr_ok (T.fc 57 rfl)
theorem Txt.n_Service_name (T : Txt w K mg) : NoAttr K (He.ga K "Service") "name" := He.noat_ok (T.fc 58 rfl)
theorem Txt.n_Service_workers (T : Txt w K mg) : NoAttr K (He.ga K "Service") "workers" := He.noat_ok (T.fc 59 rfl)
theorem Txt.n_Service_queue (T : Txt w K mg) : NoAttr K (He.ga K "Service") "queue" := He.noat_ok (T.fc 60 rfl)
theorem Txt.n_Service_steps (T : Txt w K mg) : NoAttr K (He.ga K "Service") "steps" := He.noat_ok (T.fc 61 rfl)
theorem Txt.g_Ask (T : Txt w K mg) : mg "Ask" = some (.ref (He.ga K "Ask")) := T.gl (T.fc 62 rfl)
theorem Txt.c_Ask (T : Txt w K mg) : Cls K (He.ga K "Ask") := He.cls_ok (T.fc 63 rfl)
theorem Txt.k_Ask (T : Txt w K mg) : Mk K (He.ga K "Ask") (He.fAd K ("Ask", some "__init__")) := He.mkr_ok (T.fc 64 rfl)
theorem Txt.n_Ask_target (T : Txt w K mg) : NoAttr K (He.ga K "Ask") "target" := He.noat_ok (T.fc 65 rfl)
theorem Txt.n_Ask_timeout (T : Txt w K mg) : NoAttr K (He.ga K "Ask") "timeout" := He.noat_ok (T.fc 66 rfl)
theorem Txt.n_Ask_tries (T : Txt w K mg) : NoAttr K (He.ga K "Ask") "tries" := He.noat_ok (T.fc 67 rfl)
theorem Txt.n_Ask_wait (T : Txt w K mg) : NoAttr K (He.ga K "Ask") "wait" := He.noat_ok (T.fc 68 rfl)
theorem Txt.n_Ask_is_optional (T : Txt w K mg) : NoAttr K (He.ga K "Ask") "is_optional" := He.noat_ok (T.fc 69 rfl)
theorem Txt.n_Ask_cost (T : Txt w K mg) : NoAttr K (He.ga K "Ask") "cost" := He.noat_ok (T.fc 70 rfl)
theorem Txt.n_Ask_limit (T : Txt w K mg) : NoAttr K (He.ga K "Ask") "limit" := He.noat_ok (T.fc 71 rfl)
theorem Txt.n_Ask_span (T : Txt w K mg) : NoAttr K (He.ga K "Ask") "span" := He.noat_ok (T.fc 72 rfl)
theorem Txt.g_Gate (T : Txt w K mg) : mg "Gate" = some (.ref (He.ga K "Gate")) := T.gl (T.fc 73 rfl)
theorem Txt.c_Gate (T : Txt w K mg) : Cls K (He.ga K "Gate") := He.cls_ok (T.fc 74 rfl)
theorem Txt.k_Gate (T : Txt w K mg) : Mk K (He.ga K "Gate") (He.fAd K ("Gate", some "__init__")) := He.mkr_ok (T.fc 75 rfl)
theorem Txt.n_Gate_name (T : Txt w K mg) : NoAttr K (He.ga K "Gate") "name" := He.noat_ok (T.fc 76 rfl)
theorem Txt.n_Gate_service (T : Txt w K mg) : NoAttr K (He.ga K "Gate") "service" := He.noat_ok (T.fc 77 rfl)
theorem Txt.n_Gate_timeout (T : Txt w K mg) : NoAttr K (He.ga K "Gate") "timeout" := He.noat_ok (T.fc 78 rfl)
theorem Txt.g_Plan (T : Txt w K mg) : mg "Plan" = some (.ref (He.ga K "Plan")) := T.gl (T.fc 79 rfl)
theorem Txt.c_Plan (T : Txt w K mg) : Cls K (He.ga K "Plan") := He.cls_ok (T.fc 80 rfl)
theorem Txt.k_Plan (T : Txt w K mg) : Mk K (He.ga K "Plan") (He.fAd K ("Plan", some "__init__")) := He.mkr_ok (T.fc 81 rfl)
theorem Txt.n_Plan_services (T : Txt w K mg) : NoAttr K (He.ga K "Plan") "services" := He.noat_ok (T.fc 82 rfl)
theorem Txt.n_Plan_asks (T : Txt w K mg) : NoAttr K (He.ga K "Plan") "asks" := He.noat_ok (T.fc 83 rfl)
theorem Txt.n_Plan_gates (T : Txt w K mg) : NoAttr K (He.ga K "Plan") "gates" := He.noat_ok (T.fc 84 rfl)
theorem Txt.g_Link (T : Txt w K mg) : mg "Link" = some (.ref (He.ga K "Link")) := T.gl (T.fc 85 rfl)
theorem Txt.c_Link (T : Txt w K mg) : Cls K (He.ga K "Link") := He.cls_ok (T.fc 86 rfl)
theorem Txt.k_Link (T : Txt w K mg) : Mk K (He.ga K "Link") (He.fAd K ("Link", some "__init__")) := He.mkr_ok (T.fc 87 rfl)
theorem Txt.n_Link_tokens (T : Txt w K mg) : NoAttr K (He.ga K "Link") "tokens" := He.noat_ok (T.fc 88 rfl)
theorem Txt.n_Link_failures (T : Txt w K mg) : NoAttr K (He.ga K "Link") "failures" := He.noat_ok (T.fc 89 rfl)
theorem Txt.n_Link_until (T : Txt w K mg) : NoAttr K (He.ga K "Link") "until" := He.noat_ok (T.fc 90 rfl)
theorem Txt.n_Link_probe (T : Txt w K mg) : NoAttr K (He.ga K "Link") "probe" := He.noat_ok (T.fc 91 rfl)
theorem Txt.m_Link_earn (T : Txt w K mg) : Meth K (He.ga K "Link") "earn" (He.fAd K ("Link", some "earn")) := He.meth_ok (T.fc 92 rfl)
theorem Txt.m_Link_pay (T : Txt w K mg) : Meth K (He.ga K "Link") "pay" (He.fAd K ("Link", some "pay")) := He.meth_ok (T.fc 93 rfl)
theorem Txt.m_Link_is_stopped (T : Txt w K mg) : Meth K (He.ga K "Link") "is_stopped" (He.fAd K ("Link", some "is_stopped")) := He.meth_ok (T.fc 94 rfl)
theorem Txt.m_Link_note_made (T : Txt w K mg) : Meth K (He.ga K "Link") "note_made" (He.fAd K ("Link", some "note_made")) := He.meth_ok (T.fc 95 rfl)
theorem Txt.m_Link_note_success (T : Txt w K mg) : Meth K (He.ga K "Link") "note_success" (He.fAd K ("Link", some "note_success")) := He.meth_ok (T.fc 96 rfl)
theorem Txt.m_Link_note_failure (T : Txt w K mg) : Meth K (He.ga K "Link") "note_failure" (He.fAd K ("Link", some "note_failure")) := He.meth_ok (T.fc 97 rfl)
theorem Txt.g_Request (T : Txt w K mg) : mg "Request" = some (.ref (He.ga K "Request")) := T.gl (T.fc 98 rfl)
theorem Txt.c_Request (T : Txt w K mg) : Cls K (He.ga K "Request") := He.cls_ok (T.fc 99 rfl)
theorem Txt.k_Request (T : Txt w K mg) : Mk K (He.ga K "Request") (He.fAd K ("Request", some "__init__")) := He.mkr_ok (T.fc 100 rfl)
theorem Txt.n_Request_service (T : Txt w K mg) : NoAttr K (He.ga K "Request") "service" := He.noat_ok (T.fc 101 rfl)
theorem Txt.n_Request_entry (T : Txt w K mg) : NoAttr K (He.ga K "Request") "entry" := He.noat_ok (T.fc 102 rfl)
theorem Txt.n_Request_deadline (T : Txt w K mg) : NoAttr K (He.ga K "Request") "deadline" := He.noat_ok (T.fc 103 rfl)
theorem Txt.n_Request_step (T : Txt w K mg) : NoAttr K (He.ga K "Request") "step" := He.noat_ok (T.fc 104 rfl)
theorem Txt.n_Request_status (T : Txt w K mg) : NoAttr K (He.ga K "Request") "status" := He.noat_ok (T.fc 105 rfl)
theorem Txt.n_Request_first (T : Txt w K mg) : NoAttr K (He.ga K "Request") "first" := He.noat_ok (T.fc 106 rfl)
theorem Txt.n_Request_second (T : Txt w K mg) : NoAttr K (He.ga K "Request") "second" := He.noat_ok (T.fc 107 rfl)
theorem Txt.g_Run (T : Txt w K mg) : mg "Run" = some (.ref (He.ga K "Run")) := T.gl (T.fc 108 rfl)
theorem Txt.c_Run (T : Txt w K mg) : Cls K (He.ga K "Run") := He.cls_ok (T.fc 109 rfl)
theorem Txt.k_Run (T : Txt w K mg) : Mk K (He.ga K "Run") (He.fAd K ("Run", some "__init__")) := He.mkr_ok (T.fc 110 rfl)
theorem Txt.n_Run_plan (T : Txt w K mg) : NoAttr K (He.ga K "Run") "plan" := He.noat_ok (T.fc 111 rfl)
theorem Txt.n_Run_time (T : Txt w K mg) : NoAttr K (He.ga K "Run") "time" := He.noat_ok (T.fc 112 rfl)
theorem Txt.n_Run_requests (T : Txt w K mg) : NoAttr K (He.ga K "Run") "requests" := He.noat_ok (T.fc 113 rfl)
theorem Txt.n_Run_links (T : Txt w K mg) : NoAttr K (He.ga K "Run") "links" := He.noat_ok (T.fc 114 rfl)
theorem Txt.n_Run_optional (T : Txt w K mg) : NoAttr K (He.ga K "Run") "optional" := He.noat_ok (T.fc 115 rfl)
theorem Txt.n_Run_down (T : Txt w K mg) : NoAttr K (He.ga K "Run") "down" := He.noat_ok (T.fc 116 rfl)
theorem Txt.n_Run_factors (T : Txt w K mg) : NoAttr K (He.ga K "Run") "factors" := He.noat_ok (T.fc 117 rfl)
theorem Txt.n_Run_waiting (T : Txt w K mg) : NoAttr K (He.ga K "Run") "waiting" := He.noat_ok (T.fc 118 rfl)
theorem Txt.n_Run_occupied (T : Txt w K mg) : NoAttr K (He.ga K "Run") "occupied" := He.noat_ok (T.fc 119 rfl)
theorem Txt.m_Run_add_up (T : Txt w K mg) : Meth K (He.ga K "Run") "add_up" (He.fAd K ("Run", some "add_up")) := He.meth_ok (T.fc 120 rfl)
theorem Txt.m_Run_put (T : Txt w K mg) : Meth K (He.ga K "Run") "put" (He.fAd K ("Run", some "put")) := He.meth_ok (T.fc 121 rfl)
theorem Txt.m_Run_is_full (T : Txt w K mg) : Meth K (He.ga K "Run") "is_full" (He.fAd K ("Run", some "is_full")) := He.meth_ok (T.fc 122 rfl)
theorem Txt.m_Run_create (T : Txt w K mg) : Meth K (He.ga K "Run") "create" (He.fAd K ("Run", some "create")) := He.meth_ok (T.fc 123 rfl)
theorem Txt.m_Run_start_step (T : Txt w K mg) : Meth K (He.ga K "Run") "start_step" (He.fAd K ("Run", some "start_step")) := He.meth_ok (T.fc 124 rfl)
theorem Txt.m_Run_start_next_step (T : Txt w K mg) : Meth K (He.ga K "Run") "start_next_step" (He.fAd K ("Run", some "start_next_step")) := He.meth_ok (T.fc 125 rfl)
theorem Txt.m_Run_ask_of (T : Txt w K mg) : Meth K (He.ga K "Run") "ask_of" (He.fAd K ("Run", some "ask_of")) := He.meth_ok (T.fc 126 rfl)
theorem Txt.m_Run_note_failure (T : Txt w K mg) : Meth K (He.ga K "Run") "note_failure" (He.fAd K ("Run", some "note_failure")) := He.meth_ok (T.fc 127 rfl)
theorem Txt.m_Run_stop (T : Txt w K mg) : Meth K (He.ga K "Run") "stop" (He.fAd K ("Run", some "stop")) := He.meth_ok (T.fc 128 rfl)
theorem Txt.m_Run_fail_try (T : Txt w K mg) : Meth K (He.ga K "Run") "fail_try" (He.fAd K ("Run", some "fail_try")) := He.meth_ok (T.fc 129 rfl)
theorem Txt.m_Run_make_call (T : Txt w K mg) : Meth K (He.ga K "Run") "make_call" (He.fAd K ("Run", some "make_call")) := He.meth_ok (T.fc 130 rfl)
theorem Txt.m_Run_look_back (T : Txt w K mg) : Meth K (He.ga K "Run") "look_back" (He.fAd K ("Run", some "look_back")) := He.meth_ok (T.fc 131 rfl)
theorem Txt.m_Run_do_work (T : Txt w K mg) : Meth K (He.ga K "Run") "do_work" (He.fAd K ("Run", some "do_work")) := He.meth_ok (T.fc 132 rfl)
theorem Txt.m_Run_go_on (T : Txt w K mg) : Meth K (He.ga K "Run") "go_on" (He.fAd K ("Run", some "go_on")) := He.meth_ok (T.fc 133 rfl)
theorem Txt.m_Run_active (T : Txt w K mg) : Meth K (He.ga K "Run") "active" (He.fAd K ("Run", some "active")) := He.meth_ok (T.fc 134 rfl)
theorem Txt.m_Run_tick (T : Txt w K mg) : Meth K (He.ga K "Run") "tick" (He.fAd K ("Run", some "tick")) := He.meth_ok (T.fc 135 rfl)
theorem Txt.m_Run_do_ticks (T : Txt w K mg) : Meth K (He.ga K "Run") "do_ticks" (He.fAd K ("Run", some "do_ticks")) := He.meth_ok (T.fc 136 rfl)
theorem Txt.i_TEXT (T : Txt w K mg) : ∃ t, mg "TEXT" = some (.int (0) t) := T.it (T.fc 137 rfl)
theorem Txt.i_LINE_END (T : Txt w K mg) : ∃ t, mg "LINE_END" = some (.int (10) t) := T.it (T.fc 138 rfl)
theorem Txt.i_SPACE (T : Txt w K mg) : ∃ t, mg "SPACE" = some (.int (32) t) := T.it (T.fc 139 rfl)
theorem Txt.i_HASH (T : Txt w K mg) : ∃ t, mg "HASH" = some (.int (35) t) := T.it (T.fc 140 rfl)
theorem Txt.i_LEAST_BYTE (T : Txt w K mg) : ∃ t, mg "LEAST_BYTE" = some (.int (32) t) := T.it (T.fc 141 rfl)
theorem Txt.i_MOST_BYTE (T : Txt w K mg) : ∃ t, mg "MOST_BYTE" = some (.int (126) t) := T.it (T.fc 142 rfl)
theorem Txt.i_MOST_NAME (T : Txt w K mg) : ∃ t, mg "MOST_NAME" = some (.int (8) t) := T.it (T.fc 143 rfl)
theorem Txt.i_MOST_DIGITS (T : Txt w K mg) : ∃ t, mg "MOST_DIGITS" = some (.int (3) t) := T.it (T.fc 144 rfl)
theorem Txt.i_MISSING (T : Txt w K mg) : ∃ t, mg "MISSING" = some (.int (-1) t) := T.it (T.fc 145 rfl)
theorem Txt.i_WORK (T : Txt w K mg) : ∃ t, mg "WORK" = some (.int (0) t) := T.it (T.fc 146 rfl)
theorem Txt.i_ASK (T : Txt w K mg) : ∃ t, mg "ASK" = some (.int (1) t) := T.it (T.fc 147 rfl)
theorem Txt.i_FINE (T : Txt w K mg) : ∃ t, mg "FINE" = some (.int (0) t) := T.it (T.fc 148 rfl)
theorem Txt.i_BAD_BYTE (T : Txt w K mg) : ∃ t, mg "BAD_BYTE" = some (.int (1) t) := T.it (T.fc 149 rfl)
theorem Txt.i_NO_DIRECTIVE (T : Txt w K mg) : ∃ t, mg "NO_DIRECTIVE" = some (.int (2) t) := T.it (T.fc 150 rfl)
theorem Txt.i_BAD_FORM (T : Txt w K mg) : ∃ t, mg "BAD_FORM" = some (.int (3) t) := T.it (T.fc 151 rfl)
theorem Txt.i_NO_CALL (T : Txt w K mg) : ∃ t, mg "NO_CALL" = some (.int (4) t) := T.it (T.fc 152 rfl)
theorem Txt.i_NAME_USED (T : Txt w K mg) : ∃ t, mg "NAME_USED" = some (.int (5) t) := T.it (T.fc 153 rfl)
theorem Txt.i_NO_SERVICE (T : Txt w K mg) : ∃ t, mg "NO_SERVICE" = some (.int (6) t) := T.it (T.fc 154 rfl)
theorem Txt.i_OUT_OF_RANGE (T : Txt w K mg) : ∃ t, mg "OUT_OF_RANGE" = some (.int (7) t) := T.it (T.fc 155 rfl)
theorem Txt.i_TOO_MANY (T : Txt w K mg) : ∃ t, mg "TOO_MANY" = some (.int (8) t) := T.it (T.fc 156 rfl)
theorem Txt.i_MOST_SERVICES (T : Txt w K mg) : ∃ t, mg "MOST_SERVICES" = some (.int (8) t) := T.it (T.fc 157 rfl)
theorem Txt.i_MOST_STEPS (T : Txt w K mg) : ∃ t, mg "MOST_STEPS" = some (.int (5) t) := T.it (T.fc 158 rfl)
theorem Txt.i_MOST_ASKS (T : Txt w K mg) : ∃ t, mg "MOST_ASKS" = some (.int (12) t) := T.it (T.fc 159 rfl)
theorem Txt.i_MOST_GATES (T : Txt w K mg) : ∃ t, mg "MOST_GATES" = some (.int (4) t) := T.it (T.fc 160 rfl)
theorem Txt.i_MOST_TOKENS (T : Txt w K mg) : ∃ t, mg "MOST_TOKENS" = some (.int (20) t) := T.it (T.fc 161 rfl)
theorem Txt.i_WAITING (T : Txt w K mg) : ∃ t, mg "WAITING" = some (.int (0) t) := T.it (T.fc 162 rfl)
theorem Txt.i_WORKING (T : Txt w K mg) : ∃ t, mg "WORKING" = some (.int (1) t) := T.it (T.fc 163 rfl)
theorem Txt.i_READY (T : Txt w K mg) : ∃ t, mg "READY" = some (.int (2) t) := T.it (T.fc 164 rfl)
theorem Txt.i_CALLING (T : Txt w K mg) : ∃ t, mg "CALLING" = some (.int (3) t) := T.it (T.fc 165 rfl)
theorem Txt.i_ENDED (T : Txt w K mg) : ∃ t, mg "ENDED" = some (.int (4) t) := T.it (T.fc 166 rfl)
theorem Txt.i_NEW (T : Txt w K mg) : ∃ t, mg "NEW" = some (.int (5) t) := T.it (T.fc 167 rfl)
theorem Txt.i_SUCCESS (T : Txt w K mg) : ∃ t, mg "SUCCESS" = some (.int (0) t) := T.it (T.fc 168 rfl)
theorem Txt.i_FAILED (T : Txt w K mg) : ∃ t, mg "FAILED" = some (.int (1) t) := T.it (T.fc 169 rfl)
theorem Txt.i_LATE (T : Txt w K mg) : ∃ t, mg "LATE" = some (.int (2) t) := T.it (T.fc 170 rfl)
theorem Txt.i_REJECTED (T : Txt w K mg) : ∃ t, mg "REJECTED" = some (.int (3) t) := T.it (T.fc 171 rfl)
theorem Txt.i_SERVICE_DOWN (T : Txt w K mg) : ∃ t, mg "SERVICE_DOWN" = some (.int (4) t) := T.it (T.fc 172 rfl)
theorem Txt.i_MOST_REQUESTS (T : Txt w K mg) : ∃ t, mg "MOST_REQUESTS" = some (.int (400) t) := T.it (T.fc 173 rfl)
theorem Txt.i_ISOLATED_TICKS (T : Txt w K mg) : ∃ t, mg "ISOLATED_TICKS" = some (.int (201) t) := T.it (T.fc 174 rfl)
theorem Txt.i_BAD_NUMBER (T : Txt w K mg) : ∃ t, mg "BAD_NUMBER" = some (.int (-1) t) := T.it (T.fc 175 rfl)
theorem Txt.i_NO_SUCH_deeds (T : Txt w K mg) : ∃ t, mg "NO_SUCH_deeds" = some (.int (-2) t) := T.it (T.fc 176 rfl)
theorem Txt.i_NO_ENTRY_POINT (T : Txt w K mg) : ∃ t, mg "NO_ENTRY_POINT" = some (.int (-3) t) := T.it (T.fc 177 rfl)
theorem Txt.i_NOT_SO (T : Txt w K mg) : ∃ t, mg "NOT_SO" = some (.int (-4) t) := T.it (T.fc 178 rfl)
theorem Txt.i_TOO_MANY_REQUESTS (T : Txt w K mg) : ∃ t, mg "TOO_MANY_REQUESTS" = some (.int (-5) t) := T.it (T.fc 179 rfl)
theorem Txt.i_MOST_SENT (T : Txt w K mg) : ∃ t, mg "MOST_SENT" = some (.int (20) t) := T.it (T.fc 180 rfl)
theorem Txt.i_MOST_TICKS (T : Txt w K mg) : ∃ t, mg "MOST_TICKS" = some (.int (200) t) := T.it (T.fc 181 rfl)
theorem Txt.i_MOST_FACTOR (T : Txt w K mg) : ∃ t, mg "MOST_FACTOR" = some (.int (10) t) := T.it (T.fc 182 rfl)
theorem Txt.i_NO_SUCH_questions (T : Txt w K mg) : ∃ t, mg "NO_SUCH_questions" = some (.int (-2) t) := T.it (T.fc 183 rfl)
theorem Txt.i_NO_REQUEST (T : Txt w K mg) : ∃ t, mg "NO_REQUEST" = some (.int (-3) t) := T.it (T.fc 184 rfl)
theorem Txt.i_NO_CURE (T : Txt w K mg) : ∃ t, mg "NO_CURE" = some (.int (-6) t) := T.it (T.fc 185 rfl)
theorem Txt.i_NOT_ENDED (T : Txt w K mg) : ∃ t, mg "NOT_ENDED" = some (.int (9) t) := T.it (T.fc 186 rfl)
theorem Txt.b_len (T : Txt w K mg) : mg "len" = none := T.fr (T.fc 187 rfl)
theorem Txt.b_range (T : Txt w K mg) : mg "range" = none := T.fr (T.fc 188 rfl)
theorem Txt.b_enumerate (T : Txt w K mg) : mg "enumerate" = none := T.fr (T.fc 189 rfl)
theorem Txt.b_zip (T : Txt w K mg) : mg "zip" = none := T.fr (T.fc 190 rfl)
theorem Txt.b_list (T : Txt w K mg) : mg "list" = none := T.fr (T.fc 191 rfl)
theorem Txt.b_min (T : Txt w K mg) : mg "min" = none := T.fr (T.fc 192 rfl)
theorem Txt.b_all (T : Txt w K mg) : mg "all" = none := T.fr (T.fc 193 rfl)
theorem Txt.b_any (T : Txt w K mg) : mg "any" = none := T.fr (T.fc 194 rfl)
theorem Txt.b_ord (T : Txt w K mg) : mg "ord" = none := T.fr (T.fc 195 rfl)
theorem Txt.g_COUNTS (T : Txt w K mg) : mg "COUNTS" = some (.ref (He.ga K "COUNTS")) := T.gl (T.fc 196 rfl)
theorem Txt.g_FORMS (T : Txt w K mg) : mg "FORMS" = some (.ref (He.ga K "FORMS")) := T.gl (T.fc 197 rfl)
theorem Txt.g_SERVICE_BOUNDS (T : Txt w K mg) : mg "SERVICE_BOUNDS" = some (.ref (He.ga K "SERVICE_BOUNDS")) := T.gl (T.fc 198 rfl)
theorem Txt.g_WORK_BOUNDS (T : Txt w K mg) : mg "WORK_BOUNDS" = some (.ref (He.ga K "WORK_BOUNDS")) := T.gl (T.fc 199 rfl)
theorem Txt.g_ASK_BOUNDS (T : Txt w K mg) : mg "ASK_BOUNDS" = some (.ref (He.ga K "ASK_BOUNDS")) := T.gl (T.fc 200 rfl)
theorem Txt.g_BUDGET_BOUNDS (T : Txt w K mg) : mg "BUDGET_BOUNDS" = some (.ref (He.ga K "BUDGET_BOUNDS")) := T.gl (T.fc 201 rfl)
theorem Txt.g_BREAKER_BOUNDS (T : Txt w K mg) : mg "BREAKER_BOUNDS" = some (.ref (He.ga K "BREAKER_BOUNDS")) := T.gl (T.fc 202 rfl)
theorem Txt.g_ENTRY_BOUNDS (T : Txt w K mg) : mg "ENTRY_BOUNDS" = some (.ref (He.ga K "ENTRY_BOUNDS")) := T.gl (T.fc 203 rfl)
theorem Txt.g_READERS (T : Txt w K mg) : mg "READERS" = some (.ref (He.ga K "READERS")) := T.gl (T.fc 204 rfl)
theorem Txt.g_DEEDS (T : Txt w K mg) : mg "DEEDS" = some (.ref (He.ga K "DEEDS")) := T.gl (T.fc 205 rfl)
theorem Txt.g_QUESTIONS (T : Txt w K mg) : mg "QUESTIONS" = some (.ref (He.ga K "QUESTIONS")) := T.gl (T.fc 206 rfl)
theorem Txt.d_parts_at (T : Txt w K mg) : ∃ fd, FunD K "parts_at" "parts_at" (defArgs s_parts_at) (defBody s_parts_at) (defScope s_parts_at) [] [] (He.fAd K ("parts_at", none)) fd := T.df 0 rfl
theorem Txt.d_place_behind (T : Txt w K mg) : ∃ fd, FunD K "place_behind" "place_behind" (defArgs s_place_behind) (defBody s_place_behind) (defScope s_place_behind) [] [] (He.fAd K ("place_behind", none)) fd := T.df 1 rfl
theorem Txt.d_read_calls (T : Txt w K mg) : ∃ fd, FunD K "read_calls" "read_calls" (defArgs s_read_calls) (defBody s_read_calls) (defScope s_read_calls) [] [] (He.fAd K ("read_calls", none)) fd := T.df 2 rfl
theorem Txt.d_lines_of (T : Txt w K mg) : ∃ fd, FunD K "lines_of" "lines_of" (defArgs s_lines_of) (defBody s_lines_of) (defScope s_lines_of) [] [] (He.fAd K ("lines_of", none)) fd := T.df 3 rfl
theorem Txt.d_words_of (T : Txt w K mg) : ∃ fd, FunD K "words_of" "words_of" (defArgs s_words_of) (defBody s_words_of) (defScope s_words_of) [] [] (He.fAd K ("words_of", none)) fd := T.df 4 rfl
theorem Txt.d_is_meant (T : Txt w K mg) : ∃ fd, FunD K "is_meant" "is_meant" (defArgs s_is_meant) (defBody s_is_meant) (defScope s_is_meant) [] [] (He.fAd K ("is_meant", none)) fd := T.df 5 rfl
theorem Txt.d_has_bad_byte (T : Txt w K mg) : ∃ fd, FunD K "has_bad_byte" "has_bad_byte" (defArgs s_has_bad_byte) (defBody s_has_bad_byte) (defScope s_has_bad_byte) [] [] (He.fAd K ("has_bad_byte", none)) fd := T.df 6 rfl
theorem Txt.d_is_word (T : Txt w K mg) : ∃ fd, FunD K "is_word" "is_word" (defArgs s_is_word) (defBody s_is_word) (defScope s_is_word) [] [] (He.fAd K ("is_word", none)) fd := T.df 7 rfl
theorem Txt.d_is_letter (T : Txt w K mg) : ∃ fd, FunD K "is_letter" "is_letter" (defArgs s_is_letter) (defBody s_is_letter) (defScope s_is_letter) [] [] (He.fAd K ("is_letter", none)) fd := T.df 8 rfl
theorem Txt.d_is_digit (T : Txt w K mg) : ∃ fd, FunD K "is_digit" "is_digit" (defArgs s_is_digit) (defBody s_is_digit) (defScope s_is_digit) [] [] (He.fAd K ("is_digit", none)) fd := T.df 9 rfl
theorem Txt.d_is_name (T : Txt w K mg) : ∃ fd, FunD K "is_name" "is_name" (defArgs s_is_name) (defBody s_is_name) (defScope s_is_name) [] [] (He.fAd K ("is_name", none)) fd := T.df 10 rfl
theorem Txt.d_is_number (T : Txt w K mg) : ∃ fd, FunD K "is_number" "is_number" (defArgs s_is_number) (defBody s_is_number) (defScope s_is_number) [] [] (He.fAd K ("is_number", none)) fd := T.df 11 rfl
theorem Txt.d_number_of (T : Txt w K mg) : ∃ fd, FunD K "number_of" "number_of" (defArgs s_number_of) (defBody s_number_of) (defScope s_number_of) [] [] (He.fAd K ("number_of", none)) fd := T.df 12 rfl
theorem Txt.d_place_of (T : Txt w K mg) : ∃ fd, FunD K "place_of" "place_of" (defArgs s_place_of) (defBody s_place_of) (defScope s_place_of) [] [] (He.fAd K ("place_of", none)) fd := T.df 13 rfl
theorem Txt.d_are_within (T : Txt w K mg) : ∃ fd, FunD K "are_within" "are_within" (defArgs s_are_within) (defBody s_are_within) (defScope s_are_within) [] [] (He.fAd K ("are_within", none)) fd := T.df 14 rfl
theorem Txt.d_read_service (T : Txt w K mg) : ∃ fd, FunD K "read_service" "read_service" (defArgs s_read_service) (defBody s_read_service) (defScope s_read_service) [] [] (He.fAd K ("read_service", none)) fd := T.df 15 rfl
theorem Txt.d_read_work (T : Txt w K mg) : ∃ fd, FunD K "read_work" "read_work" (defArgs s_read_work) (defBody s_read_work) (defScope s_read_work) [] [] (He.fAd K ("read_work", none)) fd := T.df 16 rfl
theorem Txt.d_read_ask (T : Txt w K mg) : ∃ fd, FunD K "read_ask" "read_ask" (defArgs s_read_ask) (defBody s_read_ask) (defScope s_read_ask) [] [] (He.fAd K ("read_ask", none)) fd := T.df 17 rfl
theorem Txt.d_last_ask (T : Txt w K mg) : ∃ fd, FunD K "last_ask" "last_ask" (defArgs s_last_ask) (defBody s_last_ask) (defScope s_last_ask) [] [] (He.fAd K ("last_ask", none)) fd := T.df 18 rfl
theorem Txt.d_read_may (T : Txt w K mg) : ∃ fd, FunD K "read_may" "read_may" (defArgs s_read_may) (defBody s_read_may) (defScope s_read_may) [] [] (He.fAd K ("read_may", none)) fd := T.df 19 rfl
theorem Txt.d_read_budget (T : Txt w K mg) : ∃ fd, FunD K "read_budget" "read_budget" (defArgs s_read_budget) (defBody s_read_budget) (defScope s_read_budget) [] [] (He.fAd K ("read_budget", none)) fd := T.df 20 rfl
theorem Txt.d_read_breaker (T : Txt w K mg) : ∃ fd, FunD K "read_breaker" "read_breaker" (defArgs s_read_breaker) (defBody s_read_breaker) (defScope s_read_breaker) [] [] (He.fAd K ("read_breaker", none)) fd := T.df 21 rfl
theorem Txt.d_read_entry (T : Txt w K mg) : ∃ fd, FunD K "read_entry" "read_entry" (defArgs s_read_entry) (defBody s_read_entry) (defScope s_read_entry) [] [] (He.fAd K ("read_entry", none)) fd := T.df 22 rfl
theorem Txt.d_directive_of (T : Txt w K mg) : ∃ fd, FunD K "directive_of" "directive_of" (defArgs s_directive_of) (defBody s_directive_of) (defScope s_directive_of) [] [] (He.fAd K ("directive_of", none)) fd := T.df 23 rfl
theorem Txt.d_fits (T : Txt w K mg) : ∃ fd, FunD K "fits" "fits" (defArgs s_fits) (defBody s_fits) (defScope s_fits) [] [] (He.fAd K ("fits", none)) fd := T.df 24 rfl
theorem Txt.d_has_form (T : Txt w K mg) : ∃ fd, FunD K "has_form" "has_form" (defArgs s_has_form) (defBody s_has_form) (defScope s_has_form) [] [] (He.fAd K ("has_form", none)) fd := T.df 25 rfl
theorem Txt.d_read_words (T : Txt w K mg) : ∃ fd, FunD K "read_words" "read_words" (defArgs s_read_words) (defBody s_read_words) (defScope s_read_words) [] [] (He.fAd K ("read_words", none)) fd := T.df 26 rfl
theorem Txt.d_read_plan (T : Txt w K mg) : ∃ fd, FunD K "read_plan" "read_plan" (defArgs s_read_plan) (defBody s_read_plan) (defScope s_read_plan) [] [] (He.fAd K ("read_plan", none)) fd := T.df 27 rfl
theorem Txt.d_isolated (T : Txt w K mg) : ∃ fd, FunD K "isolated" "isolated" (defArgs s_isolated) (defBody s_isolated) (defScope s_isolated) [] [] (He.fAd K ("isolated", none)) fd := T.df 28 rfl
theorem Txt.d_read_text (T : Txt w K mg) : ∃ fd, FunD K "read_text" "read_text" (defArgs s_read_text) (defBody s_read_text) (defScope s_read_text) [] [] (He.fAd K ("read_text", none)) fd := T.df 29 rfl
theorem Txt.d_send (T : Txt w K mg) : ∃ fd, FunD K "send" "send" (defArgs s_send) (defBody s_send) (defScope s_send) [] [] (He.fAd K ("send", none)) fd := T.df 30 rfl
theorem Txt.d_passes (T : Txt w K mg) : ∃ fd, FunD K "passes" "passes" (defArgs s_passes) (defBody s_passes) (defScope s_passes) [] [] (He.fAd K ("passes", none)) fd := T.df 31 rfl
theorem Txt.d_count_down (T : Txt w K mg) : ∃ fd, FunD K "count_down" "count_down" (defArgs s_count_down) (defBody s_count_down) (defScope s_count_down) [] [] (He.fAd K ("count_down", none)) fd := T.df 32 rfl
theorem Txt.d_take_down (T : Txt w K mg) : ∃ fd, FunD K "take_down" "take_down" (defArgs s_take_down) (defBody s_take_down) (defScope s_take_down) [] [] (He.fAd K ("take_down", none)) fd := T.df 33 rfl
theorem Txt.d_bring_up (T : Txt w K mg) : ∃ fd, FunD K "bring_up" "bring_up" (defArgs s_bring_up) (defBody s_bring_up) (defScope s_bring_up) [] [] (He.fAd K ("bring_up", none)) fd := T.df 34 rfl
theorem Txt.d_slow (T : Txt w K mg) : ∃ fd, FunD K "slow" "slow" (defArgs s_slow) (defBody s_slow) (defScope s_slow) [] [] (He.fAd K ("slow", none)) fd := T.df 35 rfl
theorem Txt.d_is_deed (T : Txt w K mg) : ∃ fd, FunD K "is_deed" "is_deed" (defArgs s_is_deed) (defBody s_is_deed) (defScope s_is_deed) [] [] (He.fAd K ("is_deed", none)) fd := T.df 36 rfl
theorem Txt.d_answer_of_deed (T : Txt w K mg) : ∃ fd, FunD K "answer_of_deed" "answer_of_deed" (defArgs s_answer_of_deed) (defBody s_answer_of_deed) (defScope s_answer_of_deed) [] [] (He.fAd K ("answer_of_deed", none)) fd := T.df 37 rfl
theorem Txt.d_count_outcomes (T : Txt w K mg) : ∃ fd, FunD K "count_outcomes" "count_outcomes" (defArgs s_count_outcomes) (defBody s_count_outcomes) (defScope s_count_outcomes) [] [] (He.fAd K ("count_outcomes", none)) fd := T.df 38 rfl
theorem Txt.d_tell_service (T : Txt w K mg) : ∃ fd, FunD K "tell_service" "tell_service" (defArgs s_tell_service) (defBody s_tell_service) (defScope s_tell_service) [] [] (He.fAd K ("tell_service", none)) fd := T.df 39 rfl
theorem Txt.d_tell_request (T : Txt w K mg) : ∃ fd, FunD K "tell_request" "tell_request" (defArgs s_tell_request) (defBody s_tell_request) (defScope s_tell_request) [] [] (He.fAd K ("tell_request", none)) fd := T.df 40 rfl
theorem Txt.d_tell_entry (T : Txt w K mg) : ∃ fd, FunD K "tell_entry" "tell_entry" (defArgs s_tell_entry) (defBody s_tell_entry) (defScope s_tell_entry) [] [] (He.fAd K ("tell_entry", none)) fd := T.df 41 rfl
theorem Txt.d_tell_link (T : Txt w K mg) : ∃ fd, FunD K "tell_link" "tell_link" (defArgs s_tell_link) (defBody s_tell_link) (defScope s_tell_link) [] [] (He.fAd K ("tell_link", none)) fd := T.df 42 rfl
theorem Txt.d_none_down (T : Txt w K mg) : ∃ fd, FunD K "none_down" "none_down" (defArgs s_none_down) (defBody s_none_down) (defScope s_none_down) [] [] (He.fAd K ("none_down", none)) fd := T.df 43 rfl
theorem Txt.d_one_down (T : Txt w K mg) : ∃ fd, FunD K "one_down" "one_down" (defArgs s_one_down) (defBody s_one_down) (defScope s_one_down) [] [] (He.fAd K ("one_down", none)) fd := T.df 44 rfl
theorem Txt.d_outcome_of (T : Txt w K mg) : ∃ fd, FunD K "outcome_of" "outcome_of" (defArgs s_outcome_of) (defBody s_outcome_of) (defScope s_outcome_of) [] [] (He.fAd K ("outcome_of", none)) fd := T.df 45 rfl
theorem Txt.d_falls (T : Txt w K mg) : ∃ fd, FunD K "falls" "falls" (defArgs s_falls) (defBody s_falls) (defScope s_falls) [] [] (He.fAd K ("falls", none)) fd := T.df 46 rfl
theorem Txt.d_count_asked (T : Txt w K mg) : ∃ fd, FunD K "count_asked" "count_asked" (defArgs s_count_asked) (defBody s_count_asked) (defScope s_count_asked) [] [] (He.fAd K ("count_asked", none)) fd := T.df 47 rfl
theorem Txt.d_asked (T : Txt w K mg) : ∃ fd, FunD K "asked" "asked" (defArgs s_asked) (defBody s_asked) (defScope s_asked) [] [] (He.fAd K ("asked", none)) fd := T.df 48 rfl
theorem Txt.d_sets_of_calls (T : Txt w K mg) : ∃ fd, FunD K "sets_of_calls" "sets_of_calls" (defArgs s_sets_of_calls) (defBody s_sets_of_calls) (defScope s_sets_of_calls) [] [] (He.fAd K ("sets_of_calls", none)) fd := T.df 49 rfl
theorem Txt.d_optional_with (T : Txt w K mg) : ∃ fd, FunD K "optional_with" "optional_with" (defArgs s_optional_with) (defBody s_optional_with) (defScope s_optional_with) [] [] (He.fAd K ("optional_with", none)) fd := T.df 50 rfl
theorem Txt.d_cure (T : Txt w K mg) : ∃ fd, FunD K "cure" "cure" (defArgs s_cure) (defBody s_cure) (defScope s_cure) [] [] (He.fAd K ("cure", none)) fd := T.df 51 rfl
theorem Txt.d_answer_of_question (T : Txt w K mg) : ∃ fd, FunD K "answer_of_question" "answer_of_question" (defArgs s_answer_of_question) (defBody s_answer_of_question) (defScope s_answer_of_question) [] [] (He.fAd K ("answer_of_question", none)) fd := T.df 52 rfl
theorem Txt.d_answer_of (T : Txt w K mg) : ∃ fd, FunD K "answer_of" "answer_of" (defArgs s_answer_of) (defBody s_answer_of) (defScope s_answer_of) [] [] (He.fAd K ("answer_of", none)) fd := T.df 53 rfl
theorem Txt.d_answers (T : Txt w K mg) : ∃ fd, FunD K "answers" "answers" (defArgs s_answers) (defBody s_answers) (defScope s_answers) [] [] (He.fAd K ("answers", none)) fd := T.df 54 rfl
theorem Txt.d_Service_init (T : Txt w K mg) : ∃ fd, FunD K "__init__" "Service.__init__" (defArgs s_Service_init) (defBody s_Service_init) (defScope s_Service_init) [] [] (He.fAd K ("Service", some "__init__")) fd := T.df 55 rfl
theorem Txt.d_Ask_init (T : Txt w K mg) : ∃ fd, FunD K "__init__" "Ask.__init__" (defArgs s_Ask_init) (defBody s_Ask_init) (defScope s_Ask_init) [] [] (He.fAd K ("Ask", some "__init__")) fd := T.df 56 rfl
theorem Txt.d_Gate_init (T : Txt w K mg) : ∃ fd, FunD K "__init__" "Gate.__init__" (defArgs s_Gate_init) (defBody s_Gate_init) (defScope s_Gate_init) [] [] (He.fAd K ("Gate", some "__init__")) fd := T.df 57 rfl
theorem Txt.d_Plan_init (T : Txt w K mg) : ∃ fd, FunD K "__init__" "Plan.__init__" (defArgs s_Plan_init) (defBody s_Plan_init) (defScope s_Plan_init) [] [] (He.fAd K ("Plan", some "__init__")) fd := T.df 58 rfl
theorem Txt.d_Link_init (T : Txt w K mg) : ∃ fd, FunD K "__init__" "Link.__init__" (defArgs s_Link_init) (defBody s_Link_init) (defScope s_Link_init) [] [] (He.fAd K ("Link", some "__init__")) fd := T.df 59 rfl
theorem Txt.d_Link_earn (T : Txt w K mg) : ∃ fd, FunD K "earn" "Link.earn" (defArgs s_Link_earn) (defBody s_Link_earn) (defScope s_Link_earn) [] [] (He.fAd K ("Link", some "earn")) fd := T.df 60 rfl
theorem Txt.d_Link_pay (T : Txt w K mg) : ∃ fd, FunD K "pay" "Link.pay" (defArgs s_Link_pay) (defBody s_Link_pay) (defScope s_Link_pay) [] [] (He.fAd K ("Link", some "pay")) fd := T.df 61 rfl
theorem Txt.d_Link_is_stopped (T : Txt w K mg) : ∃ fd, FunD K "is_stopped" "Link.is_stopped" (defArgs s_Link_is_stopped) (defBody s_Link_is_stopped) (defScope s_Link_is_stopped) [] [] (He.fAd K ("Link", some "is_stopped")) fd := T.df 62 rfl
theorem Txt.d_Link_note_made (T : Txt w K mg) : ∃ fd, FunD K "note_made" "Link.note_made" (defArgs s_Link_note_made) (defBody s_Link_note_made) (defScope s_Link_note_made) [] [] (He.fAd K ("Link", some "note_made")) fd := T.df 63 rfl
theorem Txt.d_Link_note_success (T : Txt w K mg) : ∃ fd, FunD K "note_success" "Link.note_success" (defArgs s_Link_note_success) (defBody s_Link_note_success) (defScope s_Link_note_success) [] [] (He.fAd K ("Link", some "note_success")) fd := T.df 64 rfl
theorem Txt.d_Link_note_failure (T : Txt w K mg) : ∃ fd, FunD K "note_failure" "Link.note_failure" (defArgs s_Link_note_failure) (defBody s_Link_note_failure) (defScope s_Link_note_failure) [] [] (He.fAd K ("Link", some "note_failure")) fd := T.df 65 rfl
theorem Txt.d_Request_init (T : Txt w K mg) : ∃ fd, FunD K "__init__" "Request.__init__" (defArgs s_Request_init) (defBody s_Request_init) (defScope s_Request_init) [] [] (He.fAd K ("Request", some "__init__")) fd := T.df 66 rfl
theorem Txt.d_Run_init (T : Txt w K mg) : ∃ fd, FunD K "__init__" "Run.__init__" (defArgs s_Run_init) (defBody s_Run_init) (defScope s_Run_init) [] [] (He.fAd K ("Run", some "__init__")) fd := T.df 67 rfl
theorem Txt.d_Run_add_up (T : Txt w K mg) : ∃ fd, FunD K "add_up" "Run.add_up" (defArgs s_Run_add_up) (defBody s_Run_add_up) (defScope s_Run_add_up) [] [] (He.fAd K ("Run", some "add_up")) fd := T.df 68 rfl
theorem Txt.d_Run_put (T : Txt w K mg) : ∃ fd, FunD K "put" "Run.put" (defArgs s_Run_put) (defBody s_Run_put) (defScope s_Run_put) [] [] (He.fAd K ("Run", some "put")) fd := T.df 69 rfl
theorem Txt.d_Run_is_full (T : Txt w K mg) : ∃ fd, FunD K "is_full" "Run.is_full" (defArgs s_Run_is_full) (defBody s_Run_is_full) (defScope s_Run_is_full) [] [] (He.fAd K ("Run", some "is_full")) fd := T.df 70 rfl
theorem Txt.d_Run_create (T : Txt w K mg) : ∃ fd, FunD K "create" "Run.create" (defArgs s_Run_create) (defBody s_Run_create) (defScope s_Run_create) [] [] (He.fAd K ("Run", some "create")) fd := T.df 71 rfl
theorem Txt.d_Run_start_step (T : Txt w K mg) : ∃ fd, FunD K "start_step" "Run.start_step" (defArgs s_Run_start_step) (defBody s_Run_start_step) (defScope s_Run_start_step) [] [] (He.fAd K ("Run", some "start_step")) fd := T.df 72 rfl
theorem Txt.d_Run_start_next_step (T : Txt w K mg) : ∃ fd, FunD K "start_next_step" "Run.start_next_step" (defArgs s_Run_start_next_step) (defBody s_Run_start_next_step) (defScope s_Run_start_next_step) [] [] (He.fAd K ("Run", some "start_next_step")) fd := T.df 73 rfl
theorem Txt.d_Run_ask_of (T : Txt w K mg) : ∃ fd, FunD K "ask_of" "Run.ask_of" (defArgs s_Run_ask_of) (defBody s_Run_ask_of) (defScope s_Run_ask_of) [] [] (He.fAd K ("Run", some "ask_of")) fd := T.df 74 rfl
theorem Txt.d_Run_note_failure (T : Txt w K mg) : ∃ fd, FunD K "note_failure" "Run.note_failure" (defArgs s_Run_note_failure) (defBody s_Run_note_failure) (defScope s_Run_note_failure) [] [] (He.fAd K ("Run", some "note_failure")) fd := T.df 75 rfl
theorem Txt.d_Run_stop (T : Txt w K mg) : ∃ fd, FunD K "stop" "Run.stop" (defArgs s_Run_stop) (defBody s_Run_stop) (defScope s_Run_stop) [] [] (He.fAd K ("Run", some "stop")) fd := T.df 76 rfl
theorem Txt.d_Run_fail_try (T : Txt w K mg) : ∃ fd, FunD K "fail_try" "Run.fail_try" (defArgs s_Run_fail_try) (defBody s_Run_fail_try) (defScope s_Run_fail_try) [] [] (He.fAd K ("Run", some "fail_try")) fd := T.df 77 rfl
theorem Txt.d_Run_make_call (T : Txt w K mg) : ∃ fd, FunD K "make_call" "Run.make_call" (defArgs s_Run_make_call) (defBody s_Run_make_call) (defScope s_Run_make_call) [] [] (He.fAd K ("Run", some "make_call")) fd := T.df 78 rfl
theorem Txt.d_Run_look_back (T : Txt w K mg) : ∃ fd, FunD K "look_back" "Run.look_back" (defArgs s_Run_look_back) (defBody s_Run_look_back) (defScope s_Run_look_back) [] [] (He.fAd K ("Run", some "look_back")) fd := T.df 79 rfl
theorem Txt.d_Run_do_work (T : Txt w K mg) : ∃ fd, FunD K "do_work" "Run.do_work" (defArgs s_Run_do_work) (defBody s_Run_do_work) (defScope s_Run_do_work) [] [] (He.fAd K ("Run", some "do_work")) fd := T.df 80 rfl
theorem Txt.d_Run_go_on (T : Txt w K mg) : ∃ fd, FunD K "go_on" "Run.go_on" (defArgs s_Run_go_on) (defBody s_Run_go_on) (defScope s_Run_go_on) [] [] (He.fAd K ("Run", some "go_on")) fd := T.df 81 rfl
theorem Txt.d_Run_active (T : Txt w K mg) : ∃ fd, FunD K "active" "Run.active" (defArgs s_Run_active) (defBody s_Run_active) (defScope s_Run_active) [] [] (He.fAd K ("Run", some "active")) fd := T.df 82 rfl
theorem Txt.d_Run_tick (T : Txt w K mg) : ∃ fd, FunD K "tick" "Run.tick" (defArgs s_Run_tick) (defBody s_Run_tick) (defScope s_Run_tick) [] [] (He.fAd K ("Run", some "tick")) fd := T.df 83 rfl
theorem Txt.d_Run_do_ticks (T : Txt w K mg) : ∃ fd, FunD K "do_ticks" "Run.do_ticks" (defArgs s_Run_do_ticks) (defBody s_Run_do_ticks) (defScope s_Run_do_ticks) [] [] (He.fAd K ("Run", some "do_ticks")) fd := T.df 84 rfl
theorem Txt.b0 (T : Txt w K mg) : b_COUNTS K = true ∧ b_SERVICE_BOUNDS K = true ∧ b_SERVICE_BOUNDS_0 K = true ∧ b_SERVICE_BOUNDS_1 K = true ∧ b_WORK_BOUNDS K = true ∧ b_WORK_BOUNDS_0 K = true ∧ b_ASK_BOUNDS K = true ∧ b_ASK_BOUNDS_0 K = true ∧ b_ASK_BOUNDS_1 K = true ∧ b_ASK_BOUNDS_2 K = true ∧ b_BUDGET_BOUNDS K = true ∧ b_BUDGET_BOUNDS_0 K = true ∧ b_BREAKER_BOUNDS K = true ∧ b_BREAKER_BOUNDS_0 K = true ∧ b_BREAKER_BOUNDS_1 K = true ∧ b_ENTRY_BOUNDS K = true ∧ b_ENTRY_BOUNDS_0 K = true ∧ b_FORM_service K = true ∧ b_FORM_work K = true ∧ b_FORM_ask K = true ∧ b_FORM_may K = true ∧ b_FORM_budget K = true ∧ b_FORM_breaker K = true ∧ b_FORM_entry K = true ∧ b_FORMS K = true ∧ b_READERS K = true ∧ b_DEEDS K = true ∧ b_QUESTIONS K = true := by
  have h := T.x
  simp only [ex, Bool.and_eq_true] at h
  exact h
theorem Txt.t_COUNTS (T : Txt w K mg) (H : Hp) : SqT K H (He.ga K "COUNTS") [.int 0, .int 2, .int 1, .int 1, .int 1, .int 2, .int 1, .int 1, .int 1, .int 1, .int 1, .int 2, .int 2] := tupA_ok (T.b0.1) H
theorem Txt.t_SERVICE_BOUNDS (T : Txt w K mg) (H : Hp) : SqT K H (He.ga K "SERVICE_BOUNDS") [.ref (itAt (fun K => He.ga K "SERVICE_BOUNDS") 0 K), .ref (itAt (fun K => He.ga K "SERVICE_BOUNDS") 1 K)] := tupA_ok (T.b0.2.1) H
theorem Txt.t_SERVICE_BOUNDS_0 (T : Txt w K mg) (H : Hp) : SqT K H (itAt (fun K => He.ga K "SERVICE_BOUNDS") 0 K) [.int 1, .int 9] := tupA_ok (T.b0.2.2.1) H
theorem Txt.t_SERVICE_BOUNDS_1 (T : Txt w K mg) (H : Hp) : SqT K H (itAt (fun K => He.ga K "SERVICE_BOUNDS") 1 K) [.int 0, .int 20] := tupA_ok (T.b0.2.2.2.1) H
theorem Txt.t_WORK_BOUNDS (T : Txt w K mg) (H : Hp) : SqT K H (He.ga K "WORK_BOUNDS") [.ref (itAt (fun K => He.ga K "WORK_BOUNDS") 0 K)] := tupA_ok (T.b0.2.2.2.2.1) H
theorem Txt.t_WORK_BOUNDS_0 (T : Txt w K mg) (H : Hp) : SqT K H (itAt (fun K => He.ga K "WORK_BOUNDS") 0 K) [.int 1, .int 50] := tupA_ok (T.b0.2.2.2.2.2.1) H
theorem Txt.t_ASK_BOUNDS (T : Txt w K mg) (H : Hp) : SqT K H (He.ga K "ASK_BOUNDS") [.ref (itAt (fun K => He.ga K "ASK_BOUNDS") 0 K), .ref (itAt (fun K => He.ga K "ASK_BOUNDS") 1 K), .ref (itAt (fun K => He.ga K "ASK_BOUNDS") 2 K)] := tupA_ok (T.b0.2.2.2.2.2.2.1) H
theorem Txt.t_ASK_BOUNDS_0 (T : Txt w K mg) (H : Hp) : SqT K H (itAt (fun K => He.ga K "ASK_BOUNDS") 0 K) [.int 1, .int 200] := tupA_ok (T.b0.2.2.2.2.2.2.2.1) H
theorem Txt.t_ASK_BOUNDS_1 (T : Txt w K mg) (H : Hp) : SqT K H (itAt (fun K => He.ga K "ASK_BOUNDS") 1 K) [.int 1, .int 4] := tupA_ok (T.b0.2.2.2.2.2.2.2.2.1) H
theorem Txt.t_ASK_BOUNDS_2 (T : Txt w K mg) (H : Hp) : SqT K H (itAt (fun K => He.ga K "ASK_BOUNDS") 2 K) [.int 0, .int 20] := tupA_ok (T.b0.2.2.2.2.2.2.2.2.2.1) H
theorem Txt.t_BUDGET_BOUNDS (T : Txt w K mg) (H : Hp) : SqT K H (He.ga K "BUDGET_BOUNDS") [.ref (itAt (fun K => He.ga K "BUDGET_BOUNDS") 0 K)] := tupA_ok (T.b0.2.2.2.2.2.2.2.2.2.2.1) H
theorem Txt.t_BUDGET_BOUNDS_0 (T : Txt w K mg) (H : Hp) : SqT K H (itAt (fun K => He.ga K "BUDGET_BOUNDS") 0 K) [.int 1, .int 20] := tupA_ok (T.b0.2.2.2.2.2.2.2.2.2.2.2.1) H
theorem Txt.t_BREAKER_BOUNDS (T : Txt w K mg) (H : Hp) : SqT K H (He.ga K "BREAKER_BOUNDS") [.ref (itAt (fun K => He.ga K "BREAKER_BOUNDS") 0 K), .ref (itAt (fun K => He.ga K "BREAKER_BOUNDS") 1 K)] := tupA_ok (T.b0.2.2.2.2.2.2.2.2.2.2.2.2.1) H
theorem Txt.t_BREAKER_BOUNDS_0 (T : Txt w K mg) (H : Hp) : SqT K H (itAt (fun K => He.ga K "BREAKER_BOUNDS") 0 K) [.int 1, .int 20] := tupA_ok (T.b0.2.2.2.2.2.2.2.2.2.2.2.2.2.1) H
theorem Txt.t_BREAKER_BOUNDS_1 (T : Txt w K mg) (H : Hp) : SqT K H (itAt (fun K => He.ga K "BREAKER_BOUNDS") 1 K) [.int 1, .int 100] := tupA_ok (T.b0.2.2.2.2.2.2.2.2.2.2.2.2.2.2.1) H
theorem Txt.t_ENTRY_BOUNDS (T : Txt w K mg) (H : Hp) : SqT K H (He.ga K "ENTRY_BOUNDS") [.ref (itAt (fun K => He.ga K "ENTRY_BOUNDS") 0 K)] := tupA_ok (T.b0.2.2.2.2.2.2.2.2.2.2.2.2.2.2.2.1) H
theorem Txt.t_ENTRY_BOUNDS_0 (T : Txt w K mg) (H : Hp) : SqT K H (itAt (fun K => He.ga K "ENTRY_BOUNDS") 0 K) [.int 1, .int 200] := tupA_ok (T.b0.2.2.2.2.2.2.2.2.2.2.2.2.2.2.2.2.1) H
theorem Txt.t_FORM_service (T : Txt w K mg) (H : Hp) : SqT K H (keyAt "FORMS" "service" K) [.str "S", .str "workers", .str "N", .str "queue", .str "N"] := tupA_ok (T.b0.2.2.2.2.2.2.2.2.2.2.2.2.2.2.2.2.2.1) H
theorem Txt.t_FORM_work (T : Txt w K mg) (H : Hp) : SqT K H (keyAt "FORMS" "work" K) [.str "S", .str "N"] := tupA_ok (T.b0.2.2.2.2.2.2.2.2.2.2.2.2.2.2.2.2.2.2.1) H
theorem Txt.t_FORM_ask (T : Txt w K mg) (H : Hp) : SqT K H (keyAt "FORMS" "ask" K) [.str "S", .str "S", .str "within", .str "N", .str "tries", .str "N", .str "wait", .str "N"] := tupA_ok (T.b0.2.2.2.2.2.2.2.2.2.2.2.2.2.2.2.2.2.2.2.1) H
theorem Txt.t_FORM_may (T : Txt w K mg) (H : Hp) : SqT K H (keyAt "FORMS" "may" K) [.str "S", .str "fail"] := tupA_ok (T.b0.2.2.2.2.2.2.2.2.2.2.2.2.2.2.2.2.2.2.2.2.1) H
theorem Txt.t_FORM_budget (T : Txt w K mg) (H : Hp) : SqT K H (keyAt "FORMS" "budget" K) [.str "S", .str "N"] := tupA_ok (T.b0.2.2.2.2.2.2.2.2.2.2.2.2.2.2.2.2.2.2.2.2.2.1) H
theorem Txt.t_FORM_breaker (T : Txt w K mg) (H : Hp) : SqT K H (keyAt "FORMS" "breaker" K) [.str "S", .str "N", .str "for", .str "N"] := tupA_ok (T.b0.2.2.2.2.2.2.2.2.2.2.2.2.2.2.2.2.2.2.2.2.2.2.1) H
theorem Txt.t_FORM_entry (T : Txt w K mg) (H : Hp) : SqT K H (keyAt "FORMS" "entry" K) [.str "S", .str "to", .str "S", .str "within", .str "N"] := tupA_ok (T.b0.2.2.2.2.2.2.2.2.2.2.2.2.2.2.2.2.2.2.2.2.2.2.2.1) H
theorem Txt.t_FORMS (T : Txt w K mg) : b_FORMS K = true := T.b0.2.2.2.2.2.2.2.2.2.2.2.2.2.2.2.2.2.2.2.2.2.2.2.2.1
theorem Txt.t_READERS (T : Txt w K mg) : b_READERS K = true := T.b0.2.2.2.2.2.2.2.2.2.2.2.2.2.2.2.2.2.2.2.2.2.2.2.2.2.1
theorem Txt.t_DEEDS (T : Txt w K mg) : b_DEEDS K = true := T.b0.2.2.2.2.2.2.2.2.2.2.2.2.2.2.2.2.2.2.2.2.2.2.2.2.2.2.1
theorem Txt.t_QUESTIONS (T : Txt w K mg) : b_QUESTIONS K = true := T.b0.2.2.2.2.2.2.2.2.2.2.2.2.2.2.2.2.2.2.2.2.2.2.2.2.2.2.2
end
end Cc
end

/-! ## CcRun -/
section
set_option maxRecDepth 100000
set_option maxHeartbeats 0
/-! The run of the top in the kernel, at both answers of the world's one row; what is observed: the facts of CcTop. -/
namespace Cc
open PySem PySem.W PySem.Calls PyProof.Rows HandSHeadRun L2
abbrev R : OpenSpec := PySem.Challenge.rw_callchains_s01_answers
abbrev qv : Program := view R.prog [131]
noncomputable abbrev endR (w : World) (os : OsState) : Option SharedT := endF (stepQ (denQ tabQ) R.prog w) 5300 R.prog w os
/-- the written part: the objects in the order of their making -/
def kF (g : Addr → Option Obj) : PySem.W.Frag := He.frG g (List.range 720)
theorem kIn (h : Heap) : (kF h.get?).In h := He.frG_in
abbrev AlZ : Type := He.AlT × Bool
def obsZ (g : Addr → Option Obj) : AlZ := (He.obsT fa fn ts (kF g), ex (kF g))
def valZ (w : World) : AlZ := (He.valT fn ts w, true)
def hk : Hook where
  α := AlZ
  obs := fun s => obsZ s.heap.get?
  val := fun w => valZ w
  says := fun w h => ∃ K : PySem.W.Frag, K.In h ∧ He.SaysT fa fn ts w K ∧ ex K = true
  of := fun _ s e => ⟨_, kIn s.heap, congrArg (fun z : AlZ => z.1) e, congrArg (fun z : AlZ => z.2) e⟩
  keeps := fun _ _ _ ⟨K, hK, c⟩ k => ⟨K, PySem.W.Frag.In.keeps hK k, c⟩
def ob (s : SharedT) : AlZ := obsZ (getT s)
theorem ob_eq (s : SharedT) : ob s = hk.obs s.abs := by
  have e : getT s = s.abs.heap.get? := funext (getT_eq s)
  show obsZ (getT s) = obsZ s.abs.heap.get?
  rw [e]
end Cc
end

/-! ## CcRun2 -/
section
set_option maxRecDepth 100000
set_option maxHeartbeats 0
namespace Cc
open PySem PySem.W PySem.Calls PyProof.Rows HandSHeadRun L2
theorem run_cf (v : World) (os : OsState) : (fun w : World => (endR w os).map (fun s => ob s) = some (valZ w)) (v.withFollow "special-get-raises" false) := by
  show _ = _
  kernel_rfl
theorem run_ct (v : World) (os : OsState) : (fun w : World => (endR w os).map (fun s => ob s) = some (valZ w)) (v.withFollow "special-get-raises" true) := by
  show _ = _
  kernel_rfl
theorem run_af (v : World) (os : OsState) : (fun w : World => (endR w os).map (fun s => (looksF R.prog (boot_heap w.params) s.abs, seenQ qv nms (importedModules R.prog.main.body) (fun s => xlAt qv [] s && recOk [] s) s.abs)) = some (true, openGood qv nms)) (v.withFollow "special-get-raises" false) := by
  show _ = _
  kernel_rfl
theorem run_at (v : World) (os : OsState) : (fun w : World => (endR w os).map (fun s => (looksF R.prog (boot_heap w.params) s.abs, seenQ qv nms (importedModules R.prog.main.body) (fun s => xlAt qv [] s && recOk [] s) s.abs)) = some (true, openGood qv nms)) (v.withFollow "special-get-raises" true) := by
  show _ = _
  kernel_rfl
theorem run_join {α β γ δ : Type} {o : Option α} {f : α → β} {g : α → γ} {k : α → δ} {x : β} {y : γ} {z : δ} (h1 : o.map (fun s => (f s, g s)) = some (x, y)) (h2 : o.map k = some z) : o.map (fun s => (f s, g s, k s)) = some (x, y, z) := by
  cases o with
  | none => cases h2
  | some a =>
    have e1 := Option.some.inj h1
    have e2 := Option.some.inj h2
    obtain ⟨e3, e4⟩ := Prod.mk.inj e1
    show some (f a, g a, k a) = some (x, y, z)
    rw [e3, e4, show k a = z from e2]
theorem run_at_world (w : World) : RunEqS R qv hk ob 5300 nms w :=
  byRow2 "special-get-raises" (P := fun w => RunEqS R qv hk ob 5300 nms w) (fun v os => run_join (run_af v os) (run_cf v os)) (fun v os => run_join (run_at v os) (run_ct v os)) w
end Cc
end

/-! ## CcBase -/
section
set_option maxRecDepth 100000
set_option maxHeartbeats 4000000
/-! Words of the walk: a def's promise (Has), values of expressions, the objects' fields. -/
namespace Cc
open PySem PySem.Spec PyProof.Rows L2

/-! ### a def keeps its promise -/
/-- all but p stands as it was -/
def Fr1 (p : Addr) (H H' : Hp) : Prop := ∀ b o, H b = some o → b ≠ p → H' b = some o
theorem Fr1.refl {p : Addr} {H : Hp} : Fr1 p H H := fun _ _ h _ => h
theorem Fr1.trans {p : Addr} {H H1 H2 : Hp} (a : Fr1 p H H1) (b : Fr1 p H1 H2) : Fr1 p H H2 := fun c o h n => b c o (a c o h n) n
structure Has (P : Program) (w : World) (K : PySem.W.Frag) (mg : Str → Option Value) (base : Heap) (k : Nat) (f : Addr) (ps : List Str) (sp : Sp) : Prop where
  ex : ∃ fd, FnOk P w K mg base CX0 k f fd ps sp ∧ Binds K fd ps []
  kp : PySem.W.keepIn K (.ref f) = true
theorem Has.mono {P : Program} {w : World} {K : PySem.W.Frag} {mg : Str → Option Value} {base : Heap} {j k : Nat} {f : Addr} {ps : List Str} {sp : Sp} (h : Has P w K mg base j f ps sp) (hk : j ≤ k) : Has P w K mg base k f ps sp := by
  obtain ⟨⟨fd, F, b⟩, kp⟩ := h
  exact ⟨⟨fd, F.mono hk, b⟩, kp⟩
section
variable {P : Program} {w : World} {K : PySem.W.Frag} {mg : Str → Option Value} {base : Heap}
theorem Has.of {x qual : Str} {st : Stmt} {f : Addr} {N ps : List Str} {k : Nat} {sp : Sp} (F : ∃ fd, FunD K x qual (defArgs st) (defBody st) (defScope st) [] [] f fd) (S : FnScope N ps (defScope st))
    (bind : ∀ (kV doc pm : Value) (an : Option Addr) (cdv ct : Value) (us : List Value), us.length = ps.length → bindArgs (PySem.W.fnOf x qual (defArgs st) (defBody st) (defScope st) .none kV doc pm an cdv ct) ⟨us, []⟩ = pure (ps.zip us))
    (len : ∀ vs H Q E, sp vs H Q E → vs.length = ps.length) (t : TS)
    (body : ∀ (cdv : Value) (A : Around) (outer : List Env) (s : Shared) (H : Hp) (E : XK), Room k (A.deeper (envOfC qual (defScope st) s.heap.objs.size f cdv)) → PSs (cxOf CX0 P w K mg base N qual (defScope st) f cdv A outer s H E).nox (defBody st) t)
    (pure_ : ∀ vs H Q E, sp vs H Q E → t { nx := fun _ H' => Q .non H', rt := Q } (start N vs) H) : Has P w K mg base (k + 1) f ps sp := by
  obtain ⟨fd, F⟩ := F
  refine ⟨⟨fd, F.ok S len fun cdv A outer s H vs Q E hr h => ⟨t, PSs.nox (body cdv A outer s H E hr), pure_ vs H Q E h⟩, F.bindsN bind⟩, F.kp⟩
end

/-! ### calls by Has -/
section
variable {X : Cx} {k : Nat} {f C : Addr} {ps : List Str} {sp : Sp} {x m : Str} {p pos apos : Pos} {e o : Expr} {es : List Expr} {t : TA} {ta : TE}
theorem pe_fn (F : Has X.prog X.w X.K X.mg X.base k f ps sp) (hr : Room k X.A) (hg : Gl X x) (hm : X.mg x = some (.ref f)) (ha : PA X (e :: es) t)
    (hdb : (x == ("__debug__" : Str)) = false := by decide +kernel) (he : starEach (e :: es) X.env = (false, eval e X.env) :: starEach es X.env := by rfl) (hpl : (backTo pos (starEach es X.env)).any (·.1) = false := by rfl) :
    PE X (.Call (.Name x p) (e :: es) [] pos) (tCall sp [] E0 t) := by
  obtain ⟨⟨fd, G, b⟩, kp⟩ := F
  exact pe_call G hr hg hm kp b .nil pass0 ha hdb he hpl
theorem pe_mt {pl : Sem Bool} (he : PE X o ta) (c : Cls X.K C) (hm : Meth X.K C m f) (F : Has X.prog X.w X.K X.mg X.base k f ps sp) (hr : Room k X.A) (ha : PA X (e :: es) t)
    (hst : starEach (e :: es) X.env = (false, eval e X.env) :: starEach es X.env := by rfl) (hpl : (backTo pos (starEach es X.env)).any (·.1) = false := by rfl)
    (ht : eval (.Call (.Attribute o m apos) (e :: es) [] pos) X.env = (do
      let ov ← eval o X.env
      standAt apos.atName
      let (f, first) ← holding [ov] (getMethod ov m pl)
      callWith pos f first (backTo pos (starEach (e :: es) X.env)) (backToKw pos (keywordEach [] X.env))) := by rfl) :
    PE X (.Call (.Attribute o m apos) (e :: es) [] pos) (tMeth C m sp [] E0 ta t) := by
  obtain ⟨⟨fd, G, b⟩, kp⟩ := F
  exact pe_meth he c hm G hr b .nil pass0 ha hst hpl ht
theorem pe_mt0 {pl : Sem Bool} (he : PE X o ta) (c : Cls X.K C) (hm : Meth X.K C m f) (F : Has X.prog X.w X.K X.mg X.base k f ps sp) (hr : Room k X.A)
    (ht : eval (.Call (.Attribute o m apos) [] [] pos) X.env = (do
      let ov ← eval o X.env
      standAt apos.atName
      let (f, first) ← holding [ov] (getMethod ov m pl)
      callWith pos f first (backTo pos (starEach [] X.env)) (backToKw pos (keywordEach [] X.env))) := by rfl) :
    PE X (.Call (.Attribute o m apos) [] [] pos) (tMeth C m sp [] E0 ta tNil) := by
  obtain ⟨⟨fd, G, b⟩, kp⟩ := F
  exact pe_meth0 he c hm G hr b .nil pass0 ht
theorem pe_mk (M : Mk X.K C f) (F : Has X.prog X.w X.K X.mg X.base k f ps sp) (hr : Room (k + 1) X.A) (hg : Gl X x) (hm : X.mg x = some (.ref C)) (ha : PA X (e :: es) t)
    (hdb : (x == ("__debug__" : Str)) = false := by decide +kernel) (he : starEach (e :: es) X.env = (false, eval e X.env) :: starEach es X.env := by rfl) (hpl : (backTo pos (starEach es X.env)).any (·.1) = false := by rfl) :
    PE X (.Call (.Name x p) (e :: es) [] pos) (tMake C sp [] E0 t) := by
  obtain ⟨⟨fd, G, b⟩, kp⟩ := F
  exact pe_make M G hr hg hm b .nil pass0 ha hdb he hpl
theorem pe_mk0 (M : Mk X.K C f) (F : Has X.prog X.w X.K X.mg X.base k f ps sp) (hr : Room (k + 1) X.A) (hg : Gl X x) (hm : X.mg x = some (.ref C))
    (hdb : (x == ("__debug__" : Str)) = false := by decide +kernel) : PE X (.Call (.Name x p) [] [] pos) (tMake C sp [] E0 tNil) := by
  obtain ⟨⟨fd, G, b⟩, kp⟩ := F
  exact pe_make0 M G hr hg hm b .nil pass0 hdb
/-- a module's whole number -/
theorem pe_gi {i : Int} (hg : Gl X x) (hm : ∃ t, X.mg x = some (.int i t)) (hd : (x == ("__debug__" : Str)) = false := by decide +kernel) : PE X (.Name x pos) (tC (.int i)) := by
  obtain ⟨t, h⟩ := hm
  exact pe_glob hg h ⟨t, rfl⟩ hd
/-- a module's object -/
theorem pe_gr {a : Addr} (hg : Gl X x) (hm : X.mg x = some (.ref a)) (hd : (x == ("__debug__" : Str)) = false := by decide +kernel) : PE X (.Name x pos) (tC (.ref a)) := pe_glob hg hm rfl hd
/-- a name of the def, its slot -/
theorem pw (i : Nat) {x : Str} {pos : Pos} (hN : X.N[i]? = some x := by rfl) (hv : Vis X.env.scope x := by first | exact Or.inl rfl | exact Or.inr (Or.inl rfl) | exact Or.inr (Or.inr rfl)) (hd : (x == ("__debug__" : Str)) = false := by decide +kernel)
    (hcd : (x == ("__classdict__" : Str)) = false := by decide +kernel) : PE X (.Name x pos) (tVar i) := pe_var hN hv hd hcd
/-- xs[i], read for an operator's store -/
def rGetL (K : PySem.W.Frag) : V → V → Hp → VK → Prop := fun x y H Q => ∃ p xs i v, x = .ref p ∧ y = .int i ∧ SqL K H p xs ∧ 0 ≤ i ∧ xs[i.toNat]? = some v ∧ Q v H
theorem get_list : PGet X (rGetL X.K) := by
  intro pins s σ H x y v u Q I rx ry h
  obtain ⟨p, xs, i, z, rfl, rfl, hq, h0, he, q⟩ := h
  cases rx
  obtain ⟨t, rfl⟩ := ry
  obtain ⟨its, r, pl, hz⟩ := I.list hq
  obtain ⟨w, ew, rw'⟩ := r.get he
  have hl := r.length
  have hn := line63
  have hlt : i.toNat < xs.length := (List.getElem?_eq_some_iff.mp he).1
  exact wpAny_getItem_list pl.isList h0 (by omega) (by simpa using ew) ⟨z, H, I, rw', q⟩
end
/-! ### short words for operations -/
abbrev rLtI : R2 := rI0 fun i j => .bl (decide (i < j))
abbrev rLeI : R2 := rI0 fun i j => .bl (decide (i ≤ j))
abbrev rGtI : R2 := rI0 fun i j => .bl (decide (j < i))
abbrev rGeI : R2 := rI0 fun i j => .bl (decide (j ≤ i))
abbrev rAddI : R2 := rI0 fun i j => .int (i + j)
abbrev rSubI : R2 := rI0 fun i j => .int (i - j)
abbrev rMulI : R2 := rI CMul fun i j => .int (i * j)
abbrev rNegI : V → Hp → VK → Prop := rU fun i => .int (-i)
abbrev rLenQ (K : PySem.W.Frag) : List V → Hp → VK → Prop := fun xs H Q => ∃ p ys, xs = [.ref p] ∧ (SqL K H p ys ∨ SqT K H p ys) ∧ Q (.int ys.length) H
abbrev rMinI : List V → Hp → VK → Prop := fun xs H Q => ∃ i j, xs = [.int i, .int j] ∧ Q (.int (if j < i then j else i)) H
abbrev rListQ (K : PySem.W.Frag) : List V → Hp → VK → Prop := fun xs H Q => ∃ p ys, xs = [.ref p] ∧ (SqL K H p ys ∨ SqT K H p ys) ∧ ∀ l, H l = none → Q (.ref l) (upd H l (.lst ys))
abbrev rOrd : List V → Hp → VK → Prop := fun xs H Q => ∃ x, xs = [.str x] ∧ x.length = 1 ∧ Q (.int (x.cps.getD 0 0 : Nat)) H
abbrev ipAdd : TIp := ipI fun i j => i + j

/-! ### values -/
section
variable {σ : L2.St} {H : Hp} {v x y z : V} {ta tb te : TE} {t u : TT} {b c : Bool} {K : PySem.W.Frag} {a C dx : Addr} {fs : List (Str × V)} {f m : Str} {i j : Int}
def VA (t : TA) (σ : L2.St) (H : Hp) (vs : List V) : Prop := ∀ Q : List V → Hp → Prop, Q vs H → t σ H Q
theorem val_to (h : Val te σ H x) (e : x = y) : Val te σ H y := e ▸ h
theorem va_nil : VA tNil σ H [] := fun _ q => q
theorem va_cons {r : TA} {vs : List V} (h : Val ta σ H v) (hr : VA r σ H vs) : VA (tCons ta r) σ H (v :: vs) := fun _ q => h _ (hr _ q)
theorem val_gt (ha : Val ta σ H (.int i)) (hb : Val tb σ H (.int j)) : Val (tOp rGtI ta tb) σ H (.bl (decide (j < i))) := val_op ha hb fun _ q => ⟨i, j, rfl, rfl, q⟩
theorem val_lt (ha : Val ta σ H (.int i)) (hb : Val tb σ H (.int j)) : Val (tOp rLtI ta tb) σ H (.bl (decide (i < j))) := val_op ha hb fun _ q => ⟨i, j, rfl, rfl, q⟩
theorem val_le (ha : Val ta σ H (.int i)) (hb : Val tb σ H (.int j)) : Val (tOp rLeI ta tb) σ H (.bl (decide (i ≤ j))) := val_op ha hb fun _ q => ⟨i, j, rfl, rfl, q⟩
theorem val_ge (ha : Val ta σ H (.int i)) (hb : Val tb σ H (.int j)) : Val (tOp rGeI ta tb) σ H (.bl (decide (j ≤ i))) := val_op ha hb fun _ q => ⟨i, j, rfl, rfl, q⟩
theorem val_add (ha : Val ta σ H (.int i)) (hb : Val tb σ H (.int j)) : Val (tOp rAddI ta tb) σ H (.int (i + j)) := val_op ha hb fun _ q => ⟨i, j, rfl, rfl, q⟩
theorem val_sub (ha : Val ta σ H (.int i)) (hb : Val tb σ H (.int j)) : Val (tOp rSubI ta tb) σ H (.int (i - j)) := val_op ha hb fun _ q => ⟨i, j, rfl, rfl, q⟩
theorem val_neg (ha : Val ta σ H (.int i)) : Val (tUn rNegI ta) σ H (.int (-i)) := fun _ q => ha _ ⟨i, rfl, q⟩
theorem val_mul (ha : Val ta σ H (.int i)) (hb : Val tb σ H (.int j)) (hc : CMul i j) : Val (tOp rMulI ta tb) σ H (.int (i * j)) := val_op ha hb fun _ q => ⟨i, j, rfl, rfl, hc, q⟩
theorem val_eq (ha : Val ta σ H x) (hb : Val tb σ H y) (hs : scal x y = true := by rfl) : Val (tOp rEq ta tb) σ H (.bl (decide (x = y))) := val_op ha hb fun _ q => ⟨hs, q⟩
theorem val_ne (ha : Val ta σ H x) (hb : Val tb σ H y) (hs : scal x y = true := by rfl) : Val (tOp rNe ta tb) σ H (.bl (!decide (x = y))) := val_op ha hb fun _ q => ⟨hs, q⟩
theorem val_ix {p : Addr} {xs : List V} {n : Nat} (ha : Val ta σ H (.ref p)) (hb : Val tb σ H (.int i)) (hx : SqL K H p xs) (hi : i = (n : Int)) (hv : xs[n]? = some v) : Val (tOp (rIxL K) ta tb) σ H v :=
  val_op ha hb fun _ q => ⟨p, xs, i, v, rfl, rfl, hx, at_of hi hv, q⟩
theorem val_ixT {p : Addr} {xs : List V} {n : Nat} (ha : Val ta σ H (.ref p)) (hb : Val tb σ H (.int i)) (hx : SqT K H p xs) (hi : i = (n : Int)) (hv : xs[n]? = some v) : Val (tOp (rIxT K) ta tb) σ H v :=
  val_op ha hb fun _ q => ⟨p, xs, i, v, rfl, rfl, hx, at_of hi hv, q⟩
theorem val_len {p : Addr} {xs : List V} (ha : Val ta σ H (.ref p)) (hx : SqL K H p xs) : Val (tCB (rLenQ K) (tCons ta tNil)) σ H (.int (xs.length : Nat)) := fun _ q => ha _ ⟨p, xs, rfl, .inl hx, q⟩
theorem val_lenT {p : Addr} {xs : List V} (ha : Val ta σ H (.ref p)) (hx : SqT K H p xs) : Val (tCB (rLenQ K) (tCons ta tNil)) σ H (.int (xs.length : Nat)) := fun _ q => ha _ ⟨p, xs, rfl, .inr hx, q⟩
theorem val_min (ha : Val ta σ H (.int i)) (hb : Val tb σ H (.int j)) : Val (tCB rMinI (tCons ta (tCons tb tNil))) σ H (.int (if j < i then j else i)) := fun _ q => ha _ (hb _ ⟨i, j, rfl, q⟩)
theorem val_ord {s : Str} (ha : Val ta σ H (.str s)) (hl : s.length = 1) : Val (tCB rOrd (tCons ta tNil)) σ H (.int (s.cps.getD 0 0 : Nat)) := fun _ q => ha _ ⟨s, rfl, hl, q⟩
theorem val_isN (ha : Val ta σ H x) : Val (tOp rIsN ta (tC .non)) σ H (.bl (decide (x = .non))) := fun _ q => ha _ ⟨rfl, q⟩
theorem val_notN (ha : Val ta σ H x) : Val (tOp rNotN ta (tC .non)) σ H (.bl (!decide (x = .non))) := fun _ q => ha _ ⟨rfl, q⟩
theorem val_and {k : Bool} (ha : Val ta σ H (.bl b)) (hb : b = true → Val tb σ H (.bl c)) (hk : k = (b && c)) : Val (tAndV ta tb) σ H (.bl k) := fun Q q => ha _ ⟨b, rfl, by
  subst hk
  cases b with
  | true => exact iteT (hb rfl _ q)
  | false => exact iteF q⟩
theorem val_or {k : Bool} (ha : Val ta σ H (.bl b)) (hb : b = false → Val tb σ H (.bl c)) (hk : k = (b || c)) : Val (tOrV ta tb) σ H (.bl k) := fun Q q => ha _ ⟨b, rfl, by
  subst hk
  cases b with
  | true => exact iteT q
  | false => exact iteF (hb rfl _ q)⟩
theorem val_not (ha : Val ta σ H (.bl b)) : Val (tNotV ta) σ H (.bl (!b)) := fun _ q => ha _ ⟨b, rfl, q⟩
theorem val_if (hc : Ans t σ H b) (h1 : b = true → Val ta σ H v) (h2 : b = false → Val tb σ H v) : Val (tIf t ta tb) σ H v := fun Q q => hc _ (by
  cases b with
  | true => exact iteT (h1 rfl _ q)
  | false => exact iteF (h2 rfl _ q))
theorem ans_t (h : Val te σ H (.bl b)) : Ans (tTest te) σ H b := fun _ q => h _ ⟨b, rfl, q⟩
theorem ans_b (h : Val te σ H (.bl b)) : Ans (tB te) σ H b := fun _ q => h _ ⟨b, rfl, q⟩
theorem ans_or2 {b1 b2 : Bool} (h1 : Ans t σ H b1) (h2 : b1 = false → Ans u σ H b2) : Ans (tOr t u) σ H (b1 || b2) := by
  cases b1 with
  | true => exact ans_or1 h1
  | false => exact ans_or h1 (h2 rfl)
theorem ans_and3 {b1 b2 : Bool} (h1 : Ans t σ H b1) (h2 : b1 = true → Ans u σ H b2) : Ans (tAnd t u) σ H (b1 && b2) := by
  cases b1 with
  | true => exact ans_and h1 (h2 rfl)
  | false => exact ans_and0 h1
/-! ### statements -/
variable {D : Ends} {t1 t2 : TS}
theorem st_app {to : TE} {p : Addr} {xs : List V} (ho : Val to σ H (.ref p)) (hv : Val te σ H v) (hx : H p = some (.lst xs)) (hl : xs.length < sizeLine) (q : D.nx σ (upd H p (.lst (xs ++ [v])))) : tDrop (tBM K "list" rAppend to (tCons te tNil)) D σ H :=
  ho _ ⟨.inl ⟨rfl, _, SqL.of hx⟩, hv _ ⟨p, xs, v, rfl, rfl, hx, hl, q⟩⟩
theorem st_if (h : Ans t σ H b) (h1 : b = true → t1 D σ H) (h2 : b = false → t2 D σ H) : tIfS t t1 t2 D σ H := h _ (by
  cases b with
  | true => exact iteT (h1 rfl)
  | false => exact iteF (h2 rfl))
theorem st_ifd {p : Prop} [Decidable p] (h : Ans t σ H (decide p)) (h1 : p → t1 D σ H) (h2 : ¬ p → t2 D σ H) : tIfS t t1 t2 D σ H := st_if h (fun e => h1 (of_decide_eq_true e)) (fun e => h2 (of_decide_eq_false e))
theorem st_ifn {p : Prop} [Decidable p] (h : Ans t σ H (!decide p)) (h1 : ¬ p → t1 D σ H) (h2 : p → t2 D σ H) : tIfS t t1 t2 D σ H := st_if h (fun e => h1 (fun q => by rw [decide_eq_true q] at e; cases e)) (fun e => h2 (by
  cases q : decide p with
  | true => exact of_decide_eq_true q
  | false => rw [q] at e; cases e))
/-- an if without more behind it than one continuation: Mid is what holds behind it -/
theorem st_ifj {u : TS} {Mid : Hp → Prop} (h : Ans t σ H b) (h1 : b = true → ∀ N : L2.St → Hp → Prop, (∀ H', Mid H' → N σ H') → t1 { D with nx := N } σ H) (h2 : b = false → ∀ N : L2.St → Hp → Prop, (∀ H', Mid H' → N σ H') → t2 { D with nx := N } σ H)
    (k : ∀ H', Mid H' → u D σ H') : tSeq (tIfS t t1 t2) u D σ H := st_if h (fun e => h1 e _ k) (fun e => h2 e _ k)
theorem st_ifjd {u : TS} {Mid : Hp → Prop} {p : Prop} [Decidable p] (h : Ans t σ H (decide p)) (h1 : p → ∀ N : L2.St → Hp → Prop, (∀ H', Mid H' → N σ H') → t1 { D with nx := N } σ H) (h2 : ¬ p → ∀ N : L2.St → Hp → Prop, (∀ H', Mid H' → N σ H') → t2 { D with nx := N } σ H)
    (k : ∀ H', Mid H' → u D σ H') : tSeq (tIfS t t1 t2) u D σ H := st_ifd h (fun e => h1 e _ k) (fun e => h2 e _ k)
/-- kind, number = a tuple of two -/
theorem st_tup2 {i j : Nat} {p : Addr} (h : Val te σ H (.ref p)) (ht : SqT K H p [x, y]) (q : D.nx ((σ.set i (some x)).set j (some y)) H) : tAsg te (gTup K 2 (gCons (gName i) (gCons (gName j) gNil))) D σ H :=
  h _ ⟨p, _, rfl, ht, rfl, x, _, rfl, y, _, rfl, rfl, q⟩
/-- if n in (a, b, ..): a tuple is made on the way -/
theorem st_in {n : Int} {xs : List V} {r : TA} (ha : Val ta σ H (.int n)) (hb : VA r σ H xs) (hl : xs.length ≤ sizeLine) (hf : xs.all flatV = true)
    (k1 : inV (.int n) xs = true → ∀ p, H p = none → t1 D σ (upd H p (.tup xs))) (k2 : inV (.int n) xs = false → ∀ p, H p = none → t2 D σ (upd H p (.tup xs))) : tIfS (tTest (tOp (rIn K false) ta (tTup r))) t1 t2 D σ H := by
  refine ha _ (hb _ ⟨hl, fun p hp => ⟨p, xs, rfl, .inr (SqT.of upd_same), rfl, hf, _, rfl, ?_⟩⟩)
  show if inV (.int n) xs = true then _ else _
  cases e : inV (.int n) xs with
  | true => exact iteT (k1 e p hp)
  | false => exact iteF (k2 e p hp)
theorem vi_eq {i j : Int} : (V.int i = V.int j) ↔ i = j := ⟨fun z => by injection z, fun z => by rw [z]⟩
theorem vb_eq {i j : Bool} : (V.bl i = V.bl j) ↔ i = j := ⟨fun z => by injection z, fun z => by rw [z]⟩
theorem st_mt {sp : Sp} {r : TA} {vs : List V} {E : XK} (ha : Val ta σ H (.ref a)) (ho : H a = some (.ins C dx fs)) (hm : fs.lookup m = none) (hv : VA r σ H vs) (q : sp (.ref a :: vs) H (fun _ H' => D.nx σ H') E) : tDrop (tMeth C m sp [] E ta r) D σ H := by
  refine ha _ ⟨a, dx, fs, rfl, ho, hm, hv _ ?_⟩
  show sp (.ref a :: vs ++ []) H _ E
  rw [List.append_nil]
  exact q
theorem e_mt {sp : Sp} {r : TA} {vs : List V} {E : XK} {Q : VK} (ha : Val ta σ H (.ref a)) (ho : H a = some (.ins C dx fs)) (hm : fs.lookup m = none) (hv : VA r σ H vs) (q : sp (.ref a :: vs) H Q E) : tMeth C m sp [] E ta r σ H Q := by
  refine ha _ ⟨a, dx, fs, rfl, ho, hm, hv _ ?_⟩
  show sp (.ref a :: vs ++ []) H _ E
  rw [List.append_nil]
  exact q
theorem e_fn {sp : Sp} {r : TA} {vs : List V} {E : XK} {Q : VK} (hv : VA r σ H vs) (q : sp vs H Q E) : tCall sp [] E r σ H Q := by
  refine hv _ ?_
  show sp (vs ++ []) H _ E
  rw [List.append_nil]
  exact q
/-- x = C(..) -/
theorem st_mkset {sp : Sp} {r : TA} {vs : List V} {E : XK} {i : Nat} (hv : VA r σ H vs) (q : ∀ x dx, H x = none → H dx = none → dx ≠ x → sp (.ref x :: vs) (upd (upd H dx (.own x)) x (.ins C dx [])) (fun v H2 => v = .non ∧ D.nx (σ.set i (some (.ref x))) H2) E) : tAsg (tMake C sp [] E r) (gName i) D σ H := by
  refine hv _ fun x dx h1 h2 h3 => ?_
  show sp (.ref x :: (vs ++ [])) _ _ E
  rw [List.append_nil]
  exact q x dx h1 h2 h3
theorem st_setL {tv to ti : TE} {p : Addr} {xs : List V} {n : Nat} (hv : Val tv σ H y) (ho : Val to σ H (.ref p)) (hi : Val ti σ H (.int i)) (hx : H p = some (.lst xs)) (hn : i = (n : Int)) (hl : n < xs.length) (q : D.nx σ (upd H p (.lst (xs.set n y)))) : tAsg tv (gSub to ti rSetL) D σ H :=
  hv _ (ho _ (hi _ ⟨p, xs, i, n, rfl, rfl, hx, by
    subst hn
    unfold ixN
    rw [if_pos (by omega), if_pos (by omega)]
    simp, q⟩))
theorem st_augL {to ti te : TE} {p : Addr} {xs : List V} {n : Nat} {k d : Int} (ho : Val to σ H (.ref p)) (hi : Val ti σ H (.int i)) (he : Val te σ H (.int d)) (hx : H p = some (.lst xs)) (hn : i = (n : Int)) (hv : xs[n]? = some (.int k)) (q : D.nx σ (upd H p (.lst (xs.set n (.int (k + d)))))) : tAugS to ti te (rGetL K) ipAdd rSetL D σ H := by
  have hl : n < xs.length := (List.getElem?_eq_some_iff.mp hv).1
  refine ho _ (hi _ ⟨p, xs, i, .int k, rfl, rfl, SqL.of hx, by omega, ?_, he _ ⟨k, d, rfl, rfl, p, xs, i, n, rfl, rfl, hx, ?_, q⟩⟩)
  · subst hn
    simpa using hv
  · subst hn
    unfold ixN
    rw [if_pos (by omega), if_pos (by omega)]
    simp
end
end Cc
end

/-! ## CcComp -/
section
set_option maxRecDepth 100000
set_option maxHeartbeats 4000000
/-! Comprehensions and loops in the forms that the program has. -/
namespace Cc
open PySem PySem.Spec PyProof.Rows L2
theorem take_more {α : Type} {l : List α} {i : Nat} {x : α} (h : l[i]? = some x) : l.take (i + 1) = l.take i ++ [x] := by
  rw [List.take_add_one, h] <;> rfl
theorem same_put {H H' : Hp} {D : Addr} {o : HO} (e : ∀ b u, H b = some u → H' b = some u) (hD : H D = none) : ∀ b u, H b = some u → upd H' D o b = some u := fun b u h => by
  rw [upd_ne (ne_of_none h hD)]
  exact e b u h
section
variable {σ : L2.St} {H : Hp} {K : PySem.W.Frag} {Q : VK}
theorem ans_yes : Ans tYes σ H true := fun _ q => q
/-- a comprehension over a list whose turns change nothing -/
theorem e_lc {α : Type} {tl te : TE} {tt : TT} {a : Addr} {j : Nat} {vs : List Nat} (l : List α) (enc out : α → V) (p : α → Bool) (ha : Val tl σ H (.ref a)) (hx : SqL K H a (l.map enc)) (hz : l.length ≤ 1000000) (hw : ∀ v, wipe ((wipe σ vs).set j (some v)) vs = wipe σ vs)
    (ht : ∀ x ∈ l, ∀ H', Same H H' → Ans tt ((wipe σ vs).set j (some (enc x))) H' (p x)) (he : ∀ x ∈ l, p x = true → ∀ H', Same H H' → Val te ((wipe σ vs).set j (some (enc x))) H' (out x))
    (q : ∀ D H', H D = none → Same H H' → H' D = some (.lst ((l.filter p).map out)) → Q (.ref D) H') : tLc (iList K tl) (gName j) tt te vs σ H Q := by
  refine ha _ ⟨a, rfl, ⟨_, hx⟩, fun D hD => lc_list (xs := l.map enc) (fun i H' => Same H H' ∧ H' D = some (.lst (((l.take i).filter p).map out))) ⟨same_put (Same.refl H) hD, upd_same⟩ (fun i H' _ h => h.1.seq hx) ?_ ?_⟩
  · rintro i y H' hi ⟨s, hd⟩
    obtain ⟨x, hxi, rfl⟩ : ∃ x, l[i]? = some x ∧ y = enc x := by
      rw [List.getElem?_map] at hi
      cases e : l[i]? with
      | none => rw [e] at hi; cases hi
      | some x => rw [e] at hi; exact ⟨x, rfl, (Option.some.inj hi).symm⟩
    have mx := List.mem_of_getElem? hxi
    refine ⟨hw _, ht x mx H' s _ ?_⟩
    cases hp : p x with
    | true =>
      refine iteT (he x mx hp H' s _ ⟨_, hd, ?_, same_put s hD, ?_⟩)
      · rw [List.length_map]
        have h1 := List.length_filter_le p (l.take i)
        have h2 : (l.take i).length ≤ l.length := by rw [List.length_take]; exact Nat.min_le_right _ _
        exact Nat.lt_of_le_of_lt (Nat.le_trans h1 (Nat.le_trans h2 hz)) (by decide)
      · rw [upd_same, take_more hxi, List.filter_append, List.map_append, List.filter_cons, hp] <;> rfl
    | false =>
      refine iteF ⟨s, ?_⟩
      rw [hd, take_more hxi, List.filter_append, List.map_append, List.filter_cons, hp, if_neg Bool.false_ne_true]
      simp
  · rintro H' ⟨s, hd⟩
    rw [List.length_map, List.take_length] at hd
    exact q D H' hD s hd
/-- a comprehension over range(n) whose turns change nothing -/
theorem e_lcR {te : TE} {ta : TA} {j n : Nat} {vs : List Nat} (out : Nat → V) (ha : VA ta σ H [.int (n : Int)]) (hz : n ≤ 1000000) (hw : ∀ v, wipe ((wipe σ vs).set j (some v)) vs = wipe σ vs)
    (he : ∀ i, i < n → ∀ H', Same H H' → Val te ((wipe σ vs).set j (some (.int (i : Int)))) H' (out i))
    (q : ∀ D H', H D = none → Same H H' → H' D = some (.lst ((List.range n).map out)) → Q (.ref D) H') : tLc (iRng1 ta) (gName j) tYes te vs σ H Q := by
  refine ha _ ⟨(n : Int), rfl, by omega, by omega, fun D hD => lc_range (lo := 0) (n := n) (fun i H' => Same H H' ∧ H' D = some (.lst ((List.range i).map out))) ⟨same_put (Same.refl H) hD, upd_same⟩ ?_ ?_⟩
  · rintro i H' hi ⟨s, hd⟩
    refine ⟨hw _, ans_yes _ ?_⟩
    have e0 : (0 : Int) + (i : Int) = (i : Int) := Int.zero_add _
    simp only [if_true, e0]
    refine he i hi H' s _ ⟨_, hd, by rw [List.length_map, List.length_range]; exact Nat.lt_of_lt_of_le hi (Nat.le_trans hz (by decide)), same_put s hD, ?_⟩
    rw [upd_same, List.range_succ, List.map_append] <;> rfl
  · rintro H' ⟨s, hd⟩
    exact q D H' hD s hd
/-! ### loops -/
variable {D : Ends} {g : TG} {tb : TS}
theorem st_range1 {ta : TA} {n : Nat} (ha : VA ta σ H [.int (n : Int)]) (hz : n ≤ 1000000) (Pv : Nat → L2.St → Hp → Prop) (h0 : Pv 0 σ H)
    (hs : ∀ i σ' H', i < n → Pv i σ' H' → g (.int (i : Int)) σ' H' fun σ2 H2 => tb { D with nx := Pv (i + 1), ct := Pv (i + 1), bk := D.nx } σ2 H2) (hd : ∀ σ' H', Pv n σ' H' → D.nx σ' H') : tFor (iRng1 ta) g tb D σ H :=
  ha _ ⟨(n : Int), rfl, by omega, by omega, for_range (lo := 0) (n := n) Pv h0 (fun i σ' H' hi p => by
    have e0 : (0 : Int) + (i : Int) = (i : Int) := Int.zero_add _
    rw [e0]
    exact hs i σ' H' hi p) hd⟩
theorem st_range2 {ta : TA} {lo n : Nat} (ha : VA ta σ H [.int (lo : Int), .int (n : Int)]) (hz : n ≤ 1000000) (hz2 : lo ≤ 1000000) (Pv : Nat → L2.St → Hp → Prop) (h0 : Pv 0 σ H)
    (hs : ∀ i σ' H', lo + i < n → Pv i σ' H' → g (.int ((lo + i : Nat) : Int)) σ' H' fun σ2 H2 => tb { D with nx := Pv (i + 1), ct := Pv (i + 1), bk := D.nx } σ2 H2) (hd : ∀ σ' H', Pv (n - lo) σ' H' → D.nx σ' H') : tFor (iRng2 ta) g tb D σ H :=
  ha _ ⟨(lo : Int), (n : Int), rfl, ⟨by omega, by omega, by omega, by omega⟩, for_range (lo := (lo : Int)) (n := ((n : Int) - (lo : Int)).toNat) Pv h0 (fun i σ' H' hi p => hs i σ' H' (by omega) p) fun σ' H' p => hd σ' H' (by rw [show n - lo = ((n : Int) - (lo : Int)).toNat by omega]; exact p)⟩
/-- over a list, by its items -/
theorem st_list {α : Type} {tl : TE} {a : Addr} (l : List α) (enc : α → V) (ha : Val tl σ H (.ref a)) (hx : SqL K H a (l.map enc)) (Pv : Nat → L2.St → Hp → Prop) (h0 : Pv 0 σ H) (hl : ∀ i σ' H', Pv i σ' H' → SqL K H' a (l.map enc))
    (hs : ∀ i x σ' H', l[i]? = some x → Pv i σ' H' → g (enc x) σ' H' fun σ2 H2 => tb { D with nx := Pv (i + 1), ct := Pv (i + 1), bk := D.nx } σ2 H2) (hd : ∀ σ' H', Pv l.length σ' H' → D.nx σ' H') : tFor (iList K tl) g tb D σ H :=
  ha _ ⟨a, rfl, ⟨_, hx⟩, for_list (xs := l.map enc) Pv h0 (fun i σ' H' _ p => hl i σ' H' p) (fun i y σ' H' hi p => by
    rw [List.getElem?_map] at hi
    cases e : l[i]? with
    | none => rw [e] at hi; cases hi
    | some x =>
      rw [e] at hi
      cases hi
      exact hs i x σ' H' e p) (fun σ' H' p => hd σ' H' (by rw [List.length_map] at p; exact p))⟩
end
end Cc
end

/-! ## CcObj -/
section
set_option maxRecDepth 100000
set_option maxHeartbeats 4000000
/-! The objects of the program: their attributes in the order of __init__ (printed by genobj.py). -/
namespace Cc
open PySem PySem.Spec PyProof.Rows L2
/-- the addresses of a run: its plan, its lists; the requests, the calls' states -/
structure Ad where
  pl : Addr
  rq : Addr
  lk : Addr
  op : Addr
  dn : Addr
  fa : Addr
  wa : Addr
  oc : Addr
  rs : List Addr
  ls : List Addr
def prV : Option Nat → V
  | none => .non
  | some n => .int (n : Int)
abbrev cService (K : PySem.W.Frag) : Addr := He.ga K "Service"
def svF (nm : Addr) (s : Gp27.Service) (st : Addr) : List (Str × V) := [("name", .ref nm), ("workers", .int (s.workers : Int)), ("queue", .int (s.queue : Int)), ("steps", .ref st)]
/-- a Service stands at p -/
def AtService (K : PySem.W.Frag) (H : Hp) (p : Addr) (nm : Addr) (s : Gp27.Service) (st : Addr) : Prop := ∃ dx, H p = some (.ins (cService K) dx (svF nm s st))
theorem svF_name (nm : Addr) (s : Gp27.Service) (st : Addr) : (svF nm s st).lookup ("name" : Str) = some (.ref nm) := by kernel_rfl
theorem svF_workers (nm : Addr) (s : Gp27.Service) (st : Addr) : (svF nm s st).lookup ("workers" : Str) = some (.int (s.workers : Int)) := by kernel_rfl
theorem svF_queue (nm : Addr) (s : Gp27.Service) (st : Addr) : (svF nm s st).lookup ("queue" : Str) = some (.int (s.queue : Int)) := by kernel_rfl
theorem svF_steps (nm : Addr) (s : Gp27.Service) (st : Addr) : (svF nm s st).lookup ("steps" : Str) = some (.ref st) := by kernel_rfl
theorem vsv_name {w : World} {K : PySem.W.Frag} {mg : Str → Option Value} (T : Txt w K mg) {σ : L2.St} {H : Hp} {te : TE} {p : Addr} {nm : Addr} {s : Gp27.Service} {st : Addr} (h : Val te σ H (.ref p)) (o : AtService K H p nm s st) : Val (tFld K te "name") σ H (.ref nm) := by
  obtain ⟨dx, e⟩ := o
  exact val_fld h e T.c_Service T.n_Service_name (svF_name nm s st)
theorem vsv_workers {w : World} {K : PySem.W.Frag} {mg : Str → Option Value} (T : Txt w K mg) {σ : L2.St} {H : Hp} {te : TE} {p : Addr} {nm : Addr} {s : Gp27.Service} {st : Addr} (h : Val te σ H (.ref p)) (o : AtService K H p nm s st) : Val (tFld K te "workers") σ H (.int (s.workers : Int)) := by
  obtain ⟨dx, e⟩ := o
  exact val_fld h e T.c_Service T.n_Service_workers (svF_workers nm s st)
theorem vsv_queue {w : World} {K : PySem.W.Frag} {mg : Str → Option Value} (T : Txt w K mg) {σ : L2.St} {H : Hp} {te : TE} {p : Addr} {nm : Addr} {s : Gp27.Service} {st : Addr} (h : Val te σ H (.ref p)) (o : AtService K H p nm s st) : Val (tFld K te "queue") σ H (.int (s.queue : Int)) := by
  obtain ⟨dx, e⟩ := o
  exact val_fld h e T.c_Service T.n_Service_queue (svF_queue nm s st)
theorem vsv_steps {w : World} {K : PySem.W.Frag} {mg : Str → Option Value} (T : Txt w K mg) {σ : L2.St} {H : Hp} {te : TE} {p : Addr} {nm : Addr} {s : Gp27.Service} {st : Addr} (h : Val te σ H (.ref p)) (o : AtService K H p nm s st) : Val (tFld K te "steps") σ H (.ref st) := by
  obtain ⟨dx, e⟩ := o
  exact val_fld h e T.c_Service T.n_Service_steps (svF_steps nm s st)
abbrev cAsk (K : PySem.W.Frag) : Addr := He.ga K "Ask"
def akF (a : Gp27.Ask) (may : Bool) : List (Str × V) := [("target", .int (a.whom : Int)), ("timeout", .int (a.most : Int)), ("tries", .int (a.tries : Int)), ("wait", .int (a.wait : Int)), ("is_optional", .bl may), ("cost", .int (a.cost : Int)), ("limit", .int (a.fails : Int)), ("span", .int (a.open_ : Int))]
/-- a Ask stands at p -/
def AtAsk (K : PySem.W.Frag) (H : Hp) (p : Addr) (a : Gp27.Ask) (may : Bool) : Prop := ∃ dx, H p = some (.ins (cAsk K) dx (akF a may))
theorem akF_target (a : Gp27.Ask) (may : Bool) : (akF a may).lookup ("target" : Str) = some (.int (a.whom : Int)) := by kernel_rfl
theorem akF_timeout (a : Gp27.Ask) (may : Bool) : (akF a may).lookup ("timeout" : Str) = some (.int (a.most : Int)) := by kernel_rfl
theorem akF_tries (a : Gp27.Ask) (may : Bool) : (akF a may).lookup ("tries" : Str) = some (.int (a.tries : Int)) := by kernel_rfl
theorem akF_wait (a : Gp27.Ask) (may : Bool) : (akF a may).lookup ("wait" : Str) = some (.int (a.wait : Int)) := by kernel_rfl
theorem akF_is_optional (a : Gp27.Ask) (may : Bool) : (akF a may).lookup ("is_optional" : Str) = some (.bl may) := by kernel_rfl
theorem akF_cost (a : Gp27.Ask) (may : Bool) : (akF a may).lookup ("cost" : Str) = some (.int (a.cost : Int)) := by kernel_rfl
theorem akF_limit (a : Gp27.Ask) (may : Bool) : (akF a may).lookup ("limit" : Str) = some (.int (a.fails : Int)) := by kernel_rfl
theorem akF_span (a : Gp27.Ask) (may : Bool) : (akF a may).lookup ("span" : Str) = some (.int (a.open_ : Int)) := by kernel_rfl
theorem akF_put_is_optional (a : Gp27.Ask) (may : Bool) (b : Bool) : putF "is_optional" (.bl b) (akF a may) = akF a b := by kernel_rfl
theorem akF_put_cost (a : Gp27.Ask) (may : Bool) (n : Nat) : putF "cost" (.int (n : Int)) (akF a may) = akF { a with cost := n } may := by kernel_rfl
theorem akF_put_limit (a : Gp27.Ask) (may : Bool) (n : Nat) : putF "limit" (.int (n : Int)) (akF a may) = akF { a with fails := n } may := by kernel_rfl
theorem akF_put_span (a : Gp27.Ask) (may : Bool) (n : Nat) : putF "span" (.int (n : Int)) (akF a may) = akF { a with open_ := n } may := by kernel_rfl
theorem vak_target {w : World} {K : PySem.W.Frag} {mg : Str → Option Value} (T : Txt w K mg) {σ : L2.St} {H : Hp} {te : TE} {p : Addr} {a : Gp27.Ask} {may : Bool} (h : Val te σ H (.ref p)) (o : AtAsk K H p a may) : Val (tFld K te "target") σ H (.int (a.whom : Int)) := by
  obtain ⟨dx, e⟩ := o
  exact val_fld h e T.c_Ask T.n_Ask_target (akF_target a may)
theorem vak_timeout {w : World} {K : PySem.W.Frag} {mg : Str → Option Value} (T : Txt w K mg) {σ : L2.St} {H : Hp} {te : TE} {p : Addr} {a : Gp27.Ask} {may : Bool} (h : Val te σ H (.ref p)) (o : AtAsk K H p a may) : Val (tFld K te "timeout") σ H (.int (a.most : Int)) := by
  obtain ⟨dx, e⟩ := o
  exact val_fld h e T.c_Ask T.n_Ask_timeout (akF_timeout a may)
theorem vak_tries {w : World} {K : PySem.W.Frag} {mg : Str → Option Value} (T : Txt w K mg) {σ : L2.St} {H : Hp} {te : TE} {p : Addr} {a : Gp27.Ask} {may : Bool} (h : Val te σ H (.ref p)) (o : AtAsk K H p a may) : Val (tFld K te "tries") σ H (.int (a.tries : Int)) := by
  obtain ⟨dx, e⟩ := o
  exact val_fld h e T.c_Ask T.n_Ask_tries (akF_tries a may)
theorem vak_wait {w : World} {K : PySem.W.Frag} {mg : Str → Option Value} (T : Txt w K mg) {σ : L2.St} {H : Hp} {te : TE} {p : Addr} {a : Gp27.Ask} {may : Bool} (h : Val te σ H (.ref p)) (o : AtAsk K H p a may) : Val (tFld K te "wait") σ H (.int (a.wait : Int)) := by
  obtain ⟨dx, e⟩ := o
  exact val_fld h e T.c_Ask T.n_Ask_wait (akF_wait a may)
theorem vak_is_optional {w : World} {K : PySem.W.Frag} {mg : Str → Option Value} (T : Txt w K mg) {σ : L2.St} {H : Hp} {te : TE} {p : Addr} {a : Gp27.Ask} {may : Bool} (h : Val te σ H (.ref p)) (o : AtAsk K H p a may) : Val (tFld K te "is_optional") σ H (.bl may) := by
  obtain ⟨dx, e⟩ := o
  exact val_fld h e T.c_Ask T.n_Ask_is_optional (akF_is_optional a may)
theorem vak_cost {w : World} {K : PySem.W.Frag} {mg : Str → Option Value} (T : Txt w K mg) {σ : L2.St} {H : Hp} {te : TE} {p : Addr} {a : Gp27.Ask} {may : Bool} (h : Val te σ H (.ref p)) (o : AtAsk K H p a may) : Val (tFld K te "cost") σ H (.int (a.cost : Int)) := by
  obtain ⟨dx, e⟩ := o
  exact val_fld h e T.c_Ask T.n_Ask_cost (akF_cost a may)
theorem vak_limit {w : World} {K : PySem.W.Frag} {mg : Str → Option Value} (T : Txt w K mg) {σ : L2.St} {H : Hp} {te : TE} {p : Addr} {a : Gp27.Ask} {may : Bool} (h : Val te σ H (.ref p)) (o : AtAsk K H p a may) : Val (tFld K te "limit") σ H (.int (a.fails : Int)) := by
  obtain ⟨dx, e⟩ := o
  exact val_fld h e T.c_Ask T.n_Ask_limit (akF_limit a may)
theorem vak_span {w : World} {K : PySem.W.Frag} {mg : Str → Option Value} (T : Txt w K mg) {σ : L2.St} {H : Hp} {te : TE} {p : Addr} {a : Gp27.Ask} {may : Bool} (h : Val te σ H (.ref p)) (o : AtAsk K H p a may) : Val (tFld K te "span") σ H (.int (a.open_ : Int)) := by
  obtain ⟨dx, e⟩ := o
  exact val_fld h e T.c_Ask T.n_Ask_span (akF_span a may)
theorem sak_is_optional {w : World} {K : PySem.W.Frag} {mg : Str → Option Value} (T : Txt w K mg) {σ : L2.St} {H : Hp} {D : Ends} {ta tv : TE} {p : Addr} {a : Gp27.Ask} {may : Bool} {b : Bool} (hv : Val tv σ H (.bl b)) (h : Val ta σ H (.ref p)) (o : AtAsk K H p a may)
    (q : ∀ H1 : Hp, AtAsk K H1 p a b → (∀ b u, H b = some u → b ≠ p → H1 b = some u) → (∀ b, H b = none → H1 b = none) → D.nx σ H1) : sFld K ta tv "is_optional" D σ H := by
  obtain ⟨dx, e⟩ := o
  refine st_fld hv h e T.c_Ask T.n_Ask_is_optional (by show 8 < 1000; decide) (q _ ⟨dx, upd_same.trans (congrArg (fun z => some (HO.ins (cAsk K) dx z)) (akF_put_is_optional a may b))⟩ (fun b u hb n => (upd_ne n).trans hb) fun b hb => (upd_ne (by rintro rfl; rw [hb] at e; cases e)).trans hb)
theorem sak_cost {w : World} {K : PySem.W.Frag} {mg : Str → Option Value} (T : Txt w K mg) {σ : L2.St} {H : Hp} {D : Ends} {ta tv : TE} {p : Addr} {a : Gp27.Ask} {may : Bool} {n : Nat} (hv : Val tv σ H (.int (n : Int))) (h : Val ta σ H (.ref p)) (o : AtAsk K H p a may)
    (q : ∀ H1 : Hp, AtAsk K H1 p { a with cost := n } may → (∀ b u, H b = some u → b ≠ p → H1 b = some u) → (∀ b, H b = none → H1 b = none) → D.nx σ H1) : sFld K ta tv "cost" D σ H := by
  obtain ⟨dx, e⟩ := o
  refine st_fld hv h e T.c_Ask T.n_Ask_cost (by show 8 < 1000; decide) (q _ ⟨dx, upd_same.trans (congrArg (fun z => some (HO.ins (cAsk K) dx z)) (akF_put_cost a may n))⟩ (fun b u hb n => (upd_ne n).trans hb) fun b hb => (upd_ne (by rintro rfl; rw [hb] at e; cases e)).trans hb)
theorem sak_limit {w : World} {K : PySem.W.Frag} {mg : Str → Option Value} (T : Txt w K mg) {σ : L2.St} {H : Hp} {D : Ends} {ta tv : TE} {p : Addr} {a : Gp27.Ask} {may : Bool} {n : Nat} (hv : Val tv σ H (.int (n : Int))) (h : Val ta σ H (.ref p)) (o : AtAsk K H p a may)
    (q : ∀ H1 : Hp, AtAsk K H1 p { a with fails := n } may → (∀ b u, H b = some u → b ≠ p → H1 b = some u) → (∀ b, H b = none → H1 b = none) → D.nx σ H1) : sFld K ta tv "limit" D σ H := by
  obtain ⟨dx, e⟩ := o
  refine st_fld hv h e T.c_Ask T.n_Ask_limit (by show 8 < 1000; decide) (q _ ⟨dx, upd_same.trans (congrArg (fun z => some (HO.ins (cAsk K) dx z)) (akF_put_limit a may n))⟩ (fun b u hb n => (upd_ne n).trans hb) fun b hb => (upd_ne (by rintro rfl; rw [hb] at e; cases e)).trans hb)
theorem sak_span {w : World} {K : PySem.W.Frag} {mg : Str → Option Value} (T : Txt w K mg) {σ : L2.St} {H : Hp} {D : Ends} {ta tv : TE} {p : Addr} {a : Gp27.Ask} {may : Bool} {n : Nat} (hv : Val tv σ H (.int (n : Int))) (h : Val ta σ H (.ref p)) (o : AtAsk K H p a may)
    (q : ∀ H1 : Hp, AtAsk K H1 p { a with open_ := n } may → (∀ b u, H b = some u → b ≠ p → H1 b = some u) → (∀ b, H b = none → H1 b = none) → D.nx σ H1) : sFld K ta tv "span" D σ H := by
  obtain ⟨dx, e⟩ := o
  refine st_fld hv h e T.c_Ask T.n_Ask_span (by show 8 < 1000; decide) (q _ ⟨dx, upd_same.trans (congrArg (fun z => some (HO.ins (cAsk K) dx z)) (akF_put_span a may n))⟩ (fun b u hb n => (upd_ne n).trans hb) fun b hb => (upd_ne (by rintro rfl; rw [hb] at e; cases e)).trans hb)
abbrev cGate (K : PySem.W.Frag) : Addr := He.ga K "Gate"
def gtF (nm : Addr) (g : Gp27.Entry) : List (Str × V) := [("name", .ref nm), ("service", .int (g.service : Int)), ("timeout", .int (g.most : Int))]
/-- a Gate stands at p -/
def AtGate (K : PySem.W.Frag) (H : Hp) (p : Addr) (nm : Addr) (g : Gp27.Entry) : Prop := ∃ dx, H p = some (.ins (cGate K) dx (gtF nm g))
theorem gtF_name (nm : Addr) (g : Gp27.Entry) : (gtF nm g).lookup ("name" : Str) = some (.ref nm) := by kernel_rfl
theorem gtF_service (nm : Addr) (g : Gp27.Entry) : (gtF nm g).lookup ("service" : Str) = some (.int (g.service : Int)) := by kernel_rfl
theorem gtF_timeout (nm : Addr) (g : Gp27.Entry) : (gtF nm g).lookup ("timeout" : Str) = some (.int (g.most : Int)) := by kernel_rfl
theorem vgt_name {w : World} {K : PySem.W.Frag} {mg : Str → Option Value} (T : Txt w K mg) {σ : L2.St} {H : Hp} {te : TE} {p : Addr} {nm : Addr} {g : Gp27.Entry} (h : Val te σ H (.ref p)) (o : AtGate K H p nm g) : Val (tFld K te "name") σ H (.ref nm) := by
  obtain ⟨dx, e⟩ := o
  exact val_fld h e T.c_Gate T.n_Gate_name (gtF_name nm g)
theorem vgt_service {w : World} {K : PySem.W.Frag} {mg : Str → Option Value} (T : Txt w K mg) {σ : L2.St} {H : Hp} {te : TE} {p : Addr} {nm : Addr} {g : Gp27.Entry} (h : Val te σ H (.ref p)) (o : AtGate K H p nm g) : Val (tFld K te "service") σ H (.int (g.service : Int)) := by
  obtain ⟨dx, e⟩ := o
  exact val_fld h e T.c_Gate T.n_Gate_service (gtF_service nm g)
theorem vgt_timeout {w : World} {K : PySem.W.Frag} {mg : Str → Option Value} (T : Txt w K mg) {σ : L2.St} {H : Hp} {te : TE} {p : Addr} {nm : Addr} {g : Gp27.Entry} (h : Val te σ H (.ref p)) (o : AtGate K H p nm g) : Val (tFld K te "timeout") σ H (.int (g.most : Int)) := by
  obtain ⟨dx, e⟩ := o
  exact val_fld h e T.c_Gate T.n_Gate_timeout (gtF_timeout nm g)
abbrev cPlan (K : PySem.W.Frag) : Addr := He.ga K "Plan"
def plF (sv ak gt : Addr) : List (Str × V) := [("services", .ref sv), ("asks", .ref ak), ("gates", .ref gt)]
/-- a Plan stands at p -/
def AtPlan (K : PySem.W.Frag) (H : Hp) (p : Addr) (sv ak gt : Addr) : Prop := ∃ dx, H p = some (.ins (cPlan K) dx (plF sv ak gt))
theorem plF_services (sv ak gt : Addr) : (plF sv ak gt).lookup ("services" : Str) = some (.ref sv) := by kernel_rfl
theorem plF_asks (sv ak gt : Addr) : (plF sv ak gt).lookup ("asks" : Str) = some (.ref ak) := by kernel_rfl
theorem plF_gates (sv ak gt : Addr) : (plF sv ak gt).lookup ("gates" : Str) = some (.ref gt) := by kernel_rfl
theorem vpl_services {w : World} {K : PySem.W.Frag} {mg : Str → Option Value} (T : Txt w K mg) {σ : L2.St} {H : Hp} {te : TE} {p : Addr} {sv ak gt : Addr} (h : Val te σ H (.ref p)) (o : AtPlan K H p sv ak gt) : Val (tFld K te "services") σ H (.ref sv) := by
  obtain ⟨dx, e⟩ := o
  exact val_fld h e T.c_Plan T.n_Plan_services (plF_services sv ak gt)
theorem vpl_asks {w : World} {K : PySem.W.Frag} {mg : Str → Option Value} (T : Txt w K mg) {σ : L2.St} {H : Hp} {te : TE} {p : Addr} {sv ak gt : Addr} (h : Val te σ H (.ref p)) (o : AtPlan K H p sv ak gt) : Val (tFld K te "asks") σ H (.ref ak) := by
  obtain ⟨dx, e⟩ := o
  exact val_fld h e T.c_Plan T.n_Plan_asks (plF_asks sv ak gt)
theorem vpl_gates {w : World} {K : PySem.W.Frag} {mg : Str → Option Value} (T : Txt w K mg) {σ : L2.St} {H : Hp} {te : TE} {p : Addr} {sv ak gt : Addr} (h : Val te σ H (.ref p)) (o : AtPlan K H p sv ak gt) : Val (tFld K te "gates") σ H (.ref gt) := by
  obtain ⟨dx, e⟩ := o
  exact val_fld h e T.c_Plan T.n_Plan_gates (plF_gates sv ak gt)
abbrev cLink (K : PySem.W.Frag) : Addr := He.ga K "Link"
def lkF (l : Gp27.Link) : List (Str × V) := [("tokens", .int (l.tokens : Int)), ("failures", .int (l.failed : Int)), ("until", .int (l.openTill : Int)), ("probe", prV l.trial)]
/-- a Link stands at p -/
def AtLink (K : PySem.W.Frag) (H : Hp) (p : Addr) (l : Gp27.Link) : Prop := ∃ dx, H p = some (.ins (cLink K) dx (lkF l))
theorem lkF_tokens (l : Gp27.Link) : (lkF l).lookup ("tokens" : Str) = some (.int (l.tokens : Int)) := by kernel_rfl
theorem lkF_failures (l : Gp27.Link) : (lkF l).lookup ("failures" : Str) = some (.int (l.failed : Int)) := by kernel_rfl
theorem lkF_until (l : Gp27.Link) : (lkF l).lookup ("until" : Str) = some (.int (l.openTill : Int)) := by kernel_rfl
theorem lkF_probe (l : Gp27.Link) : (lkF l).lookup ("probe" : Str) = some (prV l.trial) := by kernel_rfl
theorem lkF_m_earn (l : Gp27.Link) : (lkF l).lookup ("earn" : Str) = none := by kernel_rfl
theorem lkF_m_pay (l : Gp27.Link) : (lkF l).lookup ("pay" : Str) = none := by kernel_rfl
theorem lkF_m_is_stopped (l : Gp27.Link) : (lkF l).lookup ("is_stopped" : Str) = none := by kernel_rfl
theorem lkF_m_note_made (l : Gp27.Link) : (lkF l).lookup ("note_made" : Str) = none := by kernel_rfl
theorem lkF_m_note_success (l : Gp27.Link) : (lkF l).lookup ("note_success" : Str) = none := by kernel_rfl
theorem lkF_m_note_failure (l : Gp27.Link) : (lkF l).lookup ("note_failure" : Str) = none := by kernel_rfl
theorem lkF_put_tokens (l : Gp27.Link) (n : Nat) : putF "tokens" (.int (n : Int)) (lkF l) = lkF { l with tokens := n } := by kernel_rfl
theorem lkF_put_failures (l : Gp27.Link) (n : Nat) : putF "failures" (.int (n : Int)) (lkF l) = lkF { l with failed := n } := by kernel_rfl
theorem lkF_put_until (l : Gp27.Link) (n : Nat) : putF "until" (.int (n : Int)) (lkF l) = lkF { l with openTill := n } := by kernel_rfl
theorem lkF_put_probe (l : Gp27.Link) (c : Option Nat) : putF "probe" (prV c) (lkF l) = lkF { l with trial := c } := by kernel_rfl
theorem vlk_tokens {w : World} {K : PySem.W.Frag} {mg : Str → Option Value} (T : Txt w K mg) {σ : L2.St} {H : Hp} {te : TE} {p : Addr} {l : Gp27.Link} (h : Val te σ H (.ref p)) (o : AtLink K H p l) : Val (tFld K te "tokens") σ H (.int (l.tokens : Int)) := by
  obtain ⟨dx, e⟩ := o
  exact val_fld h e T.c_Link T.n_Link_tokens (lkF_tokens l)
theorem vlk_failures {w : World} {K : PySem.W.Frag} {mg : Str → Option Value} (T : Txt w K mg) {σ : L2.St} {H : Hp} {te : TE} {p : Addr} {l : Gp27.Link} (h : Val te σ H (.ref p)) (o : AtLink K H p l) : Val (tFld K te "failures") σ H (.int (l.failed : Int)) := by
  obtain ⟨dx, e⟩ := o
  exact val_fld h e T.c_Link T.n_Link_failures (lkF_failures l)
theorem vlk_until {w : World} {K : PySem.W.Frag} {mg : Str → Option Value} (T : Txt w K mg) {σ : L2.St} {H : Hp} {te : TE} {p : Addr} {l : Gp27.Link} (h : Val te σ H (.ref p)) (o : AtLink K H p l) : Val (tFld K te "until") σ H (.int (l.openTill : Int)) := by
  obtain ⟨dx, e⟩ := o
  exact val_fld h e T.c_Link T.n_Link_until (lkF_until l)
theorem vlk_probe {w : World} {K : PySem.W.Frag} {mg : Str → Option Value} (T : Txt w K mg) {σ : L2.St} {H : Hp} {te : TE} {p : Addr} {l : Gp27.Link} (h : Val te σ H (.ref p)) (o : AtLink K H p l) : Val (tFld K te "probe") σ H (prV l.trial) := by
  obtain ⟨dx, e⟩ := o
  exact val_fld h e T.c_Link T.n_Link_probe (lkF_probe l)
theorem slk_tokens {w : World} {K : PySem.W.Frag} {mg : Str → Option Value} (T : Txt w K mg) {σ : L2.St} {H : Hp} {D : Ends} {ta tv : TE} {p : Addr} {l : Gp27.Link} {n : Nat} (hv : Val tv σ H (.int (n : Int))) (h : Val ta σ H (.ref p)) (o : AtLink K H p l)
    (q : ∀ H1 : Hp, AtLink K H1 p { l with tokens := n } → (∀ b u, H b = some u → b ≠ p → H1 b = some u) → (∀ b, H b = none → H1 b = none) → D.nx σ H1) : sFld K ta tv "tokens" D σ H := by
  obtain ⟨dx, e⟩ := o
  refine st_fld hv h e T.c_Link T.n_Link_tokens (by show 4 < 1000; decide) (q _ ⟨dx, upd_same.trans (congrArg (fun z => some (HO.ins (cLink K) dx z)) (lkF_put_tokens l n))⟩ (fun b u hb n => (upd_ne n).trans hb) fun b hb => (upd_ne (by rintro rfl; rw [hb] at e; cases e)).trans hb)
theorem slk_failures {w : World} {K : PySem.W.Frag} {mg : Str → Option Value} (T : Txt w K mg) {σ : L2.St} {H : Hp} {D : Ends} {ta tv : TE} {p : Addr} {l : Gp27.Link} {n : Nat} (hv : Val tv σ H (.int (n : Int))) (h : Val ta σ H (.ref p)) (o : AtLink K H p l)
    (q : ∀ H1 : Hp, AtLink K H1 p { l with failed := n } → (∀ b u, H b = some u → b ≠ p → H1 b = some u) → (∀ b, H b = none → H1 b = none) → D.nx σ H1) : sFld K ta tv "failures" D σ H := by
  obtain ⟨dx, e⟩ := o
  refine st_fld hv h e T.c_Link T.n_Link_failures (by show 4 < 1000; decide) (q _ ⟨dx, upd_same.trans (congrArg (fun z => some (HO.ins (cLink K) dx z)) (lkF_put_failures l n))⟩ (fun b u hb n => (upd_ne n).trans hb) fun b hb => (upd_ne (by rintro rfl; rw [hb] at e; cases e)).trans hb)
theorem slk_until {w : World} {K : PySem.W.Frag} {mg : Str → Option Value} (T : Txt w K mg) {σ : L2.St} {H : Hp} {D : Ends} {ta tv : TE} {p : Addr} {l : Gp27.Link} {n : Nat} (hv : Val tv σ H (.int (n : Int))) (h : Val ta σ H (.ref p)) (o : AtLink K H p l)
    (q : ∀ H1 : Hp, AtLink K H1 p { l with openTill := n } → (∀ b u, H b = some u → b ≠ p → H1 b = some u) → (∀ b, H b = none → H1 b = none) → D.nx σ H1) : sFld K ta tv "until" D σ H := by
  obtain ⟨dx, e⟩ := o
  refine st_fld hv h e T.c_Link T.n_Link_until (by show 4 < 1000; decide) (q _ ⟨dx, upd_same.trans (congrArg (fun z => some (HO.ins (cLink K) dx z)) (lkF_put_until l n))⟩ (fun b u hb n => (upd_ne n).trans hb) fun b hb => (upd_ne (by rintro rfl; rw [hb] at e; cases e)).trans hb)
theorem slk_probe {w : World} {K : PySem.W.Frag} {mg : Str → Option Value} (T : Txt w K mg) {σ : L2.St} {H : Hp} {D : Ends} {ta tv : TE} {p : Addr} {l : Gp27.Link} {c : Option Nat} (hv : Val tv σ H (prV c)) (h : Val ta σ H (.ref p)) (o : AtLink K H p l)
    (q : ∀ H1 : Hp, AtLink K H1 p { l with trial := c } → (∀ b u, H b = some u → b ≠ p → H1 b = some u) → (∀ b, H b = none → H1 b = none) → D.nx σ H1) : sFld K ta tv "probe" D σ H := by
  obtain ⟨dx, e⟩ := o
  refine st_fld hv h e T.c_Link T.n_Link_probe (by show 4 < 1000; decide) (q _ ⟨dx, upd_same.trans (congrArg (fun z => some (HO.ins (cLink K) dx z)) (lkF_put_probe l c))⟩ (fun b u hb n => (upd_ne n).trans hb) fun b hb => (upd_ne (by rintro rfl; rw [hb] at e; cases e)).trans hb)
abbrev cRequest (K : PySem.W.Frag) : Addr := He.ga K "Request"
def rqF (r : Raw) : List (Str × V) := [("service", .int (r.service : Int)), ("entry", .int (r.entry : Int)), ("deadline", .int (r.deadline : Int)), ("step", .int (r.step : Int)), ("status", .int (r.status : Int)), ("first", .int (r.first : Int)), ("second", .int (r.second : Int))]
/-- a Request stands at p -/
def AtRequest (K : PySem.W.Frag) (H : Hp) (p : Addr) (r : Raw) : Prop := ∃ dx, H p = some (.ins (cRequest K) dx (rqF r))
theorem rqF_service (r : Raw) : (rqF r).lookup ("service" : Str) = some (.int (r.service : Int)) := by kernel_rfl
theorem rqF_entry (r : Raw) : (rqF r).lookup ("entry" : Str) = some (.int (r.entry : Int)) := by kernel_rfl
theorem rqF_deadline (r : Raw) : (rqF r).lookup ("deadline" : Str) = some (.int (r.deadline : Int)) := by kernel_rfl
theorem rqF_step (r : Raw) : (rqF r).lookup ("step" : Str) = some (.int (r.step : Int)) := by kernel_rfl
theorem rqF_status (r : Raw) : (rqF r).lookup ("status" : Str) = some (.int (r.status : Int)) := by kernel_rfl
theorem rqF_first (r : Raw) : (rqF r).lookup ("first" : Str) = some (.int (r.first : Int)) := by kernel_rfl
theorem rqF_second (r : Raw) : (rqF r).lookup ("second" : Str) = some (.int (r.second : Int)) := by kernel_rfl
theorem rqF_put_step (r : Raw) (n : Nat) : putF "step" (.int (n : Int)) (rqF r) = rqF { r with step := n } := by kernel_rfl
theorem rqF_put_status (r : Raw) (n : Nat) : putF "status" (.int (n : Int)) (rqF r) = rqF { r with status := n } := by kernel_rfl
theorem rqF_put_first (r : Raw) (n : Nat) : putF "first" (.int (n : Int)) (rqF r) = rqF { r with first := n } := by kernel_rfl
theorem rqF_put_second (r : Raw) (n : Nat) : putF "second" (.int (n : Int)) (rqF r) = rqF { r with second := n } := by kernel_rfl
theorem vrq_service {w : World} {K : PySem.W.Frag} {mg : Str → Option Value} (T : Txt w K mg) {σ : L2.St} {H : Hp} {te : TE} {p : Addr} {r : Raw} (h : Val te σ H (.ref p)) (o : AtRequest K H p r) : Val (tFld K te "service") σ H (.int (r.service : Int)) := by
  obtain ⟨dx, e⟩ := o
  exact val_fld h e T.c_Request T.n_Request_service (rqF_service r)
theorem vrq_entry {w : World} {K : PySem.W.Frag} {mg : Str → Option Value} (T : Txt w K mg) {σ : L2.St} {H : Hp} {te : TE} {p : Addr} {r : Raw} (h : Val te σ H (.ref p)) (o : AtRequest K H p r) : Val (tFld K te "entry") σ H (.int (r.entry : Int)) := by
  obtain ⟨dx, e⟩ := o
  exact val_fld h e T.c_Request T.n_Request_entry (rqF_entry r)
theorem vrq_deadline {w : World} {K : PySem.W.Frag} {mg : Str → Option Value} (T : Txt w K mg) {σ : L2.St} {H : Hp} {te : TE} {p : Addr} {r : Raw} (h : Val te σ H (.ref p)) (o : AtRequest K H p r) : Val (tFld K te "deadline") σ H (.int (r.deadline : Int)) := by
  obtain ⟨dx, e⟩ := o
  exact val_fld h e T.c_Request T.n_Request_deadline (rqF_deadline r)
theorem vrq_step {w : World} {K : PySem.W.Frag} {mg : Str → Option Value} (T : Txt w K mg) {σ : L2.St} {H : Hp} {te : TE} {p : Addr} {r : Raw} (h : Val te σ H (.ref p)) (o : AtRequest K H p r) : Val (tFld K te "step") σ H (.int (r.step : Int)) := by
  obtain ⟨dx, e⟩ := o
  exact val_fld h e T.c_Request T.n_Request_step (rqF_step r)
theorem vrq_status {w : World} {K : PySem.W.Frag} {mg : Str → Option Value} (T : Txt w K mg) {σ : L2.St} {H : Hp} {te : TE} {p : Addr} {r : Raw} (h : Val te σ H (.ref p)) (o : AtRequest K H p r) : Val (tFld K te "status") σ H (.int (r.status : Int)) := by
  obtain ⟨dx, e⟩ := o
  exact val_fld h e T.c_Request T.n_Request_status (rqF_status r)
theorem vrq_first {w : World} {K : PySem.W.Frag} {mg : Str → Option Value} (T : Txt w K mg) {σ : L2.St} {H : Hp} {te : TE} {p : Addr} {r : Raw} (h : Val te σ H (.ref p)) (o : AtRequest K H p r) : Val (tFld K te "first") σ H (.int (r.first : Int)) := by
  obtain ⟨dx, e⟩ := o
  exact val_fld h e T.c_Request T.n_Request_first (rqF_first r)
theorem vrq_second {w : World} {K : PySem.W.Frag} {mg : Str → Option Value} (T : Txt w K mg) {σ : L2.St} {H : Hp} {te : TE} {p : Addr} {r : Raw} (h : Val te σ H (.ref p)) (o : AtRequest K H p r) : Val (tFld K te "second") σ H (.int (r.second : Int)) := by
  obtain ⟨dx, e⟩ := o
  exact val_fld h e T.c_Request T.n_Request_second (rqF_second r)
theorem srq_step {w : World} {K : PySem.W.Frag} {mg : Str → Option Value} (T : Txt w K mg) {σ : L2.St} {H : Hp} {D : Ends} {ta tv : TE} {p : Addr} {r : Raw} {n : Nat} (hv : Val tv σ H (.int (n : Int))) (h : Val ta σ H (.ref p)) (o : AtRequest K H p r)
    (q : ∀ H1 : Hp, AtRequest K H1 p { r with step := n } → (∀ b u, H b = some u → b ≠ p → H1 b = some u) → (∀ b, H b = none → H1 b = none) → D.nx σ H1) : sFld K ta tv "step" D σ H := by
  obtain ⟨dx, e⟩ := o
  refine st_fld hv h e T.c_Request T.n_Request_step (by show 7 < 1000; decide) (q _ ⟨dx, upd_same.trans (congrArg (fun z => some (HO.ins (cRequest K) dx z)) (rqF_put_step r n))⟩ (fun b u hb n => (upd_ne n).trans hb) fun b hb => (upd_ne (by rintro rfl; rw [hb] at e; cases e)).trans hb)
theorem srq_status {w : World} {K : PySem.W.Frag} {mg : Str → Option Value} (T : Txt w K mg) {σ : L2.St} {H : Hp} {D : Ends} {ta tv : TE} {p : Addr} {r : Raw} {n : Nat} (hv : Val tv σ H (.int (n : Int))) (h : Val ta σ H (.ref p)) (o : AtRequest K H p r)
    (q : ∀ H1 : Hp, AtRequest K H1 p { r with status := n } → (∀ b u, H b = some u → b ≠ p → H1 b = some u) → (∀ b, H b = none → H1 b = none) → D.nx σ H1) : sFld K ta tv "status" D σ H := by
  obtain ⟨dx, e⟩ := o
  refine st_fld hv h e T.c_Request T.n_Request_status (by show 7 < 1000; decide) (q _ ⟨dx, upd_same.trans (congrArg (fun z => some (HO.ins (cRequest K) dx z)) (rqF_put_status r n))⟩ (fun b u hb n => (upd_ne n).trans hb) fun b hb => (upd_ne (by rintro rfl; rw [hb] at e; cases e)).trans hb)
theorem srq_first {w : World} {K : PySem.W.Frag} {mg : Str → Option Value} (T : Txt w K mg) {σ : L2.St} {H : Hp} {D : Ends} {ta tv : TE} {p : Addr} {r : Raw} {n : Nat} (hv : Val tv σ H (.int (n : Int))) (h : Val ta σ H (.ref p)) (o : AtRequest K H p r)
    (q : ∀ H1 : Hp, AtRequest K H1 p { r with first := n } → (∀ b u, H b = some u → b ≠ p → H1 b = some u) → (∀ b, H b = none → H1 b = none) → D.nx σ H1) : sFld K ta tv "first" D σ H := by
  obtain ⟨dx, e⟩ := o
  refine st_fld hv h e T.c_Request T.n_Request_first (by show 7 < 1000; decide) (q _ ⟨dx, upd_same.trans (congrArg (fun z => some (HO.ins (cRequest K) dx z)) (rqF_put_first r n))⟩ (fun b u hb n => (upd_ne n).trans hb) fun b hb => (upd_ne (by rintro rfl; rw [hb] at e; cases e)).trans hb)
theorem srq_second {w : World} {K : PySem.W.Frag} {mg : Str → Option Value} (T : Txt w K mg) {σ : L2.St} {H : Hp} {D : Ends} {ta tv : TE} {p : Addr} {r : Raw} {n : Nat} (hv : Val tv σ H (.int (n : Int))) (h : Val ta σ H (.ref p)) (o : AtRequest K H p r)
    (q : ∀ H1 : Hp, AtRequest K H1 p { r with second := n } → (∀ b u, H b = some u → b ≠ p → H1 b = some u) → (∀ b, H b = none → H1 b = none) → D.nx σ H1) : sFld K ta tv "second" D σ H := by
  obtain ⟨dx, e⟩ := o
  refine st_fld hv h e T.c_Request T.n_Request_second (by show 7 < 1000; decide) (q _ ⟨dx, upd_same.trans (congrArg (fun z => some (HO.ins (cRequest K) dx z)) (rqF_put_second r n))⟩ (fun b u hb n => (upd_ne n).trans hb) fun b hb => (upd_ne (by rintro rfl; rw [hb] at e; cases e)).trans hb)
abbrev cRun (K : PySem.W.Frag) : Addr := He.ga K "Run"
def rnF (A : Ad) (t : Nat) : List (Str × V) := [("plan", .ref A.pl), ("time", .int (t : Int)), ("requests", .ref A.rq), ("links", .ref A.lk), ("optional", .ref A.op), ("down", .ref A.dn), ("factors", .ref A.fa), ("waiting", .ref A.wa), ("occupied", .ref A.oc)]
/-- a Run stands at p -/
def AtRun (K : PySem.W.Frag) (H : Hp) (p : Addr) (A : Ad) (t : Nat) : Prop := ∃ dx, H p = some (.ins (cRun K) dx (rnF A t))
theorem rnF_plan (A : Ad) (t : Nat) : (rnF A t).lookup ("plan" : Str) = some (.ref A.pl) := by kernel_rfl
theorem rnF_time (A : Ad) (t : Nat) : (rnF A t).lookup ("time" : Str) = some (.int (t : Int)) := by kernel_rfl
theorem rnF_requests (A : Ad) (t : Nat) : (rnF A t).lookup ("requests" : Str) = some (.ref A.rq) := by kernel_rfl
theorem rnF_links (A : Ad) (t : Nat) : (rnF A t).lookup ("links" : Str) = some (.ref A.lk) := by kernel_rfl
theorem rnF_optional (A : Ad) (t : Nat) : (rnF A t).lookup ("optional" : Str) = some (.ref A.op) := by kernel_rfl
theorem rnF_down (A : Ad) (t : Nat) : (rnF A t).lookup ("down" : Str) = some (.ref A.dn) := by kernel_rfl
theorem rnF_factors (A : Ad) (t : Nat) : (rnF A t).lookup ("factors" : Str) = some (.ref A.fa) := by kernel_rfl
theorem rnF_waiting (A : Ad) (t : Nat) : (rnF A t).lookup ("waiting" : Str) = some (.ref A.wa) := by kernel_rfl
theorem rnF_occupied (A : Ad) (t : Nat) : (rnF A t).lookup ("occupied" : Str) = some (.ref A.oc) := by kernel_rfl
theorem rnF_m_add_up (A : Ad) (t : Nat) : (rnF A t).lookup ("add_up" : Str) = none := by kernel_rfl
theorem rnF_m_put (A : Ad) (t : Nat) : (rnF A t).lookup ("put" : Str) = none := by kernel_rfl
theorem rnF_m_is_full (A : Ad) (t : Nat) : (rnF A t).lookup ("is_full" : Str) = none := by kernel_rfl
theorem rnF_m_create (A : Ad) (t : Nat) : (rnF A t).lookup ("create" : Str) = none := by kernel_rfl
theorem rnF_m_start_step (A : Ad) (t : Nat) : (rnF A t).lookup ("start_step" : Str) = none := by kernel_rfl
theorem rnF_m_start_next_step (A : Ad) (t : Nat) : (rnF A t).lookup ("start_next_step" : Str) = none := by kernel_rfl
theorem rnF_m_ask_of (A : Ad) (t : Nat) : (rnF A t).lookup ("ask_of" : Str) = none := by kernel_rfl
theorem rnF_m_note_failure (A : Ad) (t : Nat) : (rnF A t).lookup ("note_failure" : Str) = none := by kernel_rfl
theorem rnF_m_stop (A : Ad) (t : Nat) : (rnF A t).lookup ("stop" : Str) = none := by kernel_rfl
theorem rnF_m_fail_try (A : Ad) (t : Nat) : (rnF A t).lookup ("fail_try" : Str) = none := by kernel_rfl
theorem rnF_m_make_call (A : Ad) (t : Nat) : (rnF A t).lookup ("make_call" : Str) = none := by kernel_rfl
theorem rnF_m_look_back (A : Ad) (t : Nat) : (rnF A t).lookup ("look_back" : Str) = none := by kernel_rfl
theorem rnF_m_do_work (A : Ad) (t : Nat) : (rnF A t).lookup ("do_work" : Str) = none := by kernel_rfl
theorem rnF_m_go_on (A : Ad) (t : Nat) : (rnF A t).lookup ("go_on" : Str) = none := by kernel_rfl
theorem rnF_m_active (A : Ad) (t : Nat) : (rnF A t).lookup ("active" : Str) = none := by kernel_rfl
theorem rnF_m_tick (A : Ad) (t : Nat) : (rnF A t).lookup ("tick" : Str) = none := by kernel_rfl
theorem rnF_m_do_ticks (A : Ad) (t : Nat) : (rnF A t).lookup ("do_ticks" : Str) = none := by kernel_rfl
theorem rnF_put_time (A : Ad) (t : Nat) (n : Nat) : putF "time" (.int (n : Int)) (rnF A t) = rnF A n := by kernel_rfl
theorem rnF_put_optional (A : Ad) (t : Nat) (x : Addr) : putF "optional" (.ref x) (rnF A t) = rnF { A with op := x } t := by kernel_rfl
theorem rnF_put_down (A : Ad) (t : Nat) (x : Addr) : putF "down" (.ref x) (rnF A t) = rnF { A with dn := x } t := by kernel_rfl
theorem vrn_plan {w : World} {K : PySem.W.Frag} {mg : Str → Option Value} (T : Txt w K mg) {σ : L2.St} {H : Hp} {te : TE} {p : Addr} {A : Ad} {t : Nat} (h : Val te σ H (.ref p)) (o : AtRun K H p A t) : Val (tFld K te "plan") σ H (.ref A.pl) := by
  obtain ⟨dx, e⟩ := o
  exact val_fld h e T.c_Run T.n_Run_plan (rnF_plan A t)
theorem vrn_time {w : World} {K : PySem.W.Frag} {mg : Str → Option Value} (T : Txt w K mg) {σ : L2.St} {H : Hp} {te : TE} {p : Addr} {A : Ad} {t : Nat} (h : Val te σ H (.ref p)) (o : AtRun K H p A t) : Val (tFld K te "time") σ H (.int (t : Int)) := by
  obtain ⟨dx, e⟩ := o
  exact val_fld h e T.c_Run T.n_Run_time (rnF_time A t)
theorem vrn_requests {w : World} {K : PySem.W.Frag} {mg : Str → Option Value} (T : Txt w K mg) {σ : L2.St} {H : Hp} {te : TE} {p : Addr} {A : Ad} {t : Nat} (h : Val te σ H (.ref p)) (o : AtRun K H p A t) : Val (tFld K te "requests") σ H (.ref A.rq) := by
  obtain ⟨dx, e⟩ := o
  exact val_fld h e T.c_Run T.n_Run_requests (rnF_requests A t)
theorem vrn_links {w : World} {K : PySem.W.Frag} {mg : Str → Option Value} (T : Txt w K mg) {σ : L2.St} {H : Hp} {te : TE} {p : Addr} {A : Ad} {t : Nat} (h : Val te σ H (.ref p)) (o : AtRun K H p A t) : Val (tFld K te "links") σ H (.ref A.lk) := by
  obtain ⟨dx, e⟩ := o
  exact val_fld h e T.c_Run T.n_Run_links (rnF_links A t)
theorem vrn_optional {w : World} {K : PySem.W.Frag} {mg : Str → Option Value} (T : Txt w K mg) {σ : L2.St} {H : Hp} {te : TE} {p : Addr} {A : Ad} {t : Nat} (h : Val te σ H (.ref p)) (o : AtRun K H p A t) : Val (tFld K te "optional") σ H (.ref A.op) := by
  obtain ⟨dx, e⟩ := o
  exact val_fld h e T.c_Run T.n_Run_optional (rnF_optional A t)
theorem vrn_down {w : World} {K : PySem.W.Frag} {mg : Str → Option Value} (T : Txt w K mg) {σ : L2.St} {H : Hp} {te : TE} {p : Addr} {A : Ad} {t : Nat} (h : Val te σ H (.ref p)) (o : AtRun K H p A t) : Val (tFld K te "down") σ H (.ref A.dn) := by
  obtain ⟨dx, e⟩ := o
  exact val_fld h e T.c_Run T.n_Run_down (rnF_down A t)
theorem vrn_factors {w : World} {K : PySem.W.Frag} {mg : Str → Option Value} (T : Txt w K mg) {σ : L2.St} {H : Hp} {te : TE} {p : Addr} {A : Ad} {t : Nat} (h : Val te σ H (.ref p)) (o : AtRun K H p A t) : Val (tFld K te "factors") σ H (.ref A.fa) := by
  obtain ⟨dx, e⟩ := o
  exact val_fld h e T.c_Run T.n_Run_factors (rnF_factors A t)
theorem vrn_waiting {w : World} {K : PySem.W.Frag} {mg : Str → Option Value} (T : Txt w K mg) {σ : L2.St} {H : Hp} {te : TE} {p : Addr} {A : Ad} {t : Nat} (h : Val te σ H (.ref p)) (o : AtRun K H p A t) : Val (tFld K te "waiting") σ H (.ref A.wa) := by
  obtain ⟨dx, e⟩ := o
  exact val_fld h e T.c_Run T.n_Run_waiting (rnF_waiting A t)
theorem vrn_occupied {w : World} {K : PySem.W.Frag} {mg : Str → Option Value} (T : Txt w K mg) {σ : L2.St} {H : Hp} {te : TE} {p : Addr} {A : Ad} {t : Nat} (h : Val te σ H (.ref p)) (o : AtRun K H p A t) : Val (tFld K te "occupied") σ H (.ref A.oc) := by
  obtain ⟨dx, e⟩ := o
  exact val_fld h e T.c_Run T.n_Run_occupied (rnF_occupied A t)
theorem srn_time {w : World} {K : PySem.W.Frag} {mg : Str → Option Value} (T : Txt w K mg) {σ : L2.St} {H : Hp} {D : Ends} {ta tv : TE} {p : Addr} {A : Ad} {t : Nat} {n : Nat} (hv : Val tv σ H (.int (n : Int))) (h : Val ta σ H (.ref p)) (o : AtRun K H p A t)
    (q : ∀ H1 : Hp, AtRun K H1 p A n → (∀ b u, H b = some u → b ≠ p → H1 b = some u) → (∀ b, H b = none → H1 b = none) → D.nx σ H1) : sFld K ta tv "time" D σ H := by
  obtain ⟨dx, e⟩ := o
  refine st_fld hv h e T.c_Run T.n_Run_time (by show 9 < 1000; decide) (q _ ⟨dx, upd_same.trans (congrArg (fun z => some (HO.ins (cRun K) dx z)) (rnF_put_time A t n))⟩ (fun b u hb n => (upd_ne n).trans hb) fun b hb => (upd_ne (by rintro rfl; rw [hb] at e; cases e)).trans hb)
theorem srn_optional {w : World} {K : PySem.W.Frag} {mg : Str → Option Value} (T : Txt w K mg) {σ : L2.St} {H : Hp} {D : Ends} {ta tv : TE} {p : Addr} {A : Ad} {t : Nat} {x : Addr} (hv : Val tv σ H (.ref x)) (h : Val ta σ H (.ref p)) (o : AtRun K H p A t)
    (q : ∀ H1 : Hp, AtRun K H1 p { A with op := x } t → (∀ b u, H b = some u → b ≠ p → H1 b = some u) → (∀ b, H b = none → H1 b = none) → D.nx σ H1) : sFld K ta tv "optional" D σ H := by
  obtain ⟨dx, e⟩ := o
  refine st_fld hv h e T.c_Run T.n_Run_optional (by show 9 < 1000; decide) (q _ ⟨dx, upd_same.trans (congrArg (fun z => some (HO.ins (cRun K) dx z)) (rnF_put_optional A t x))⟩ (fun b u hb n => (upd_ne n).trans hb) fun b hb => (upd_ne (by rintro rfl; rw [hb] at e; cases e)).trans hb)
theorem srn_down {w : World} {K : PySem.W.Frag} {mg : Str → Option Value} (T : Txt w K mg) {σ : L2.St} {H : Hp} {D : Ends} {ta tv : TE} {p : Addr} {A : Ad} {t : Nat} {x : Addr} (hv : Val tv σ H (.ref x)) (h : Val ta σ H (.ref p)) (o : AtRun K H p A t)
    (q : ∀ H1 : Hp, AtRun K H1 p { A with dn := x } t → (∀ b u, H b = some u → b ≠ p → H1 b = some u) → (∀ b, H b = none → H1 b = none) → D.nx σ H1) : sFld K ta tv "down" D σ H := by
  obtain ⟨dx, e⟩ := o
  refine st_fld hv h e T.c_Run T.n_Run_down (by show 9 < 1000; decide) (q _ ⟨dx, upd_same.trans (congrArg (fun z => some (HO.ins (cRun K) dx z)) (rnF_put_down A t x))⟩ (fun b u hb n => (upd_ne n).trans hb) fun b hb => (upd_ne (by rintro rfl; rw [hb] at e; cases e)).trans hb)
end Cc
end

/-! ## CcLink -/
section
set_option maxRecDepth 100000
set_option maxHeartbeats 4000000
/-! The states of calls: the methods of Link. -/
namespace Cc
open PySem PySem.Spec PyProof.Rows L2
open Cw (lkFail lkWon lkStopped)
def sp_Link_init (K : PySem.W.Frag) : Sp := fun vs H Q _ => ∃ (p dx : Addr), vs = [.ref p] ∧ H p = some (.ins (cLink K) dx []) ∧ ∀ H' : Hp, AtLink K H' p ⟨0, 0, 0, none⟩ → Fr1 p H H' → Q .non H'
def sp_Link_earn (K : PySem.W.Frag) : Sp := fun vs H Q _ => ∃ (p : Addr) (l : Gp27.Link), vs = [.ref p] ∧ AtLink K H p l ∧ ∀ H' : Hp, AtLink K H' p { l with tokens := min 20 (l.tokens + 1) } → Fr1 p H H' → Q .non H'
def sp_Link_pay (K : PySem.W.Frag) : Sp := fun vs H Q _ => ∃ (p : Addr) (l : Gp27.Link) (c : Nat), vs = [.ref p, .int (c : Int)] ∧ AtLink K H p l ∧
  (l.tokens < c → Q (.bl false) H) ∧ (c ≤ l.tokens → ∀ H' : Hp, AtLink K H' p { l with tokens := l.tokens - c } → Fr1 p H H' → Q (.bl true) H')
def sp_Link_is_stopped (K : PySem.W.Frag) : Sp := fun vs H Q _ => ∃ (p : Addr) (l : Gp27.Link) (t : Nat), vs = [.ref p, .int (t : Int)] ∧ AtLink K H p l ∧ Q (.bl (lkStopped l t)) H
def sp_Link_note_made (K : PySem.W.Frag) : Sp := fun vs H Q _ => ∃ (p : Addr) (l : Gp27.Link) (c : Nat), vs = [.ref p, .int (c : Int)] ∧ AtLink K H p l ∧ ∀ H' : Hp, AtLink K H' p (if l.openTill = 0 then l else { l with trial := some c }) → Fr1 p H H' → Q .non H'
def sp_Link_note_success (K : PySem.W.Frag) : Sp := fun vs H Q _ => ∃ (p : Addr) (l : Gp27.Link) (c : Nat), vs = [.ref p, .int (c : Int)] ∧ AtLink K H p l ∧ ∀ H' : Hp, AtLink K H' p (lkWon l c) → Fr1 p H H' → Q .non H'
def sp_Link_note_failure (K : PySem.W.Frag) : Sp := fun vs H Q _ => ∃ (p : Addr) (l : Gp27.Link) (c lim till : Nat), vs = [.ref p, .int (c : Int), .int (lim : Int), .int (till : Int)] ∧ AtLink K H p l ∧ ∀ H' : Hp, AtLink K H' p (lkFail l c lim till) → Fr1 p H H' → Q .non H'
theorem len_Link_init {K : PySem.W.Frag} : ∀ vs H Q E, sp_Link_init K vs H Q E → vs.length = (["self"] : List Str).length := by rintro _ _ _ _ ⟨_, _, rfl, _⟩; rfl
theorem len_Link_earn {K : PySem.W.Frag} : ∀ vs H Q E, sp_Link_earn K vs H Q E → vs.length = (["self"] : List Str).length := by rintro _ _ _ _ ⟨_, _, rfl, _⟩; rfl
theorem len_Link_pay {K : PySem.W.Frag} : ∀ vs H Q E, sp_Link_pay K vs H Q E → vs.length = (["self", "cost"] : List Str).length := by rintro _ _ _ _ ⟨_, _, _, rfl, _⟩; rfl
theorem len_Link_is_stopped {K : PySem.W.Frag} : ∀ vs H Q E, sp_Link_is_stopped K vs H Q E → vs.length = (["self", "time"] : List Str).length := by rintro _ _ _ _ ⟨_, _, _, rfl, _⟩; rfl
theorem len_Link_note_made {K : PySem.W.Frag} : ∀ vs H Q E, sp_Link_note_made K vs H Q E → vs.length = (["self", "number"] : List Str).length := by rintro _ _ _ _ ⟨_, _, _, rfl, _⟩; rfl
theorem len_Link_note_success {K : PySem.W.Frag} : ∀ vs H Q E, sp_Link_note_success K vs H Q E → vs.length = (["self", "number"] : List Str).length := by rintro _ _ _ _ ⟨_, _, _, rfl, _⟩; rfl
theorem len_Link_note_failure {K : PySem.W.Frag} : ∀ vs H Q E, sp_Link_note_failure K vs H Q E → vs.length = (["self", "number", "limit", "end"] : List Str).length := by rintro _ _ _ _ ⟨_, _, _, _, _, rfl, _⟩; rfl
abbrev N_Link_init : List Str := ["self"]
theorem sc_Link_init : FnScope N_Link_init ["self"] (defScope s_Link_init) := ⟨rfl, rfl, rfl, by decide +kernel, rfl, by decide +kernel, by decide +kernel⟩
def t_Link_init (K : PySem.W.Frag) : TS := (tSeq (sFld K (tVar 0) (tC (.int 0)) "tokens")
  (tSeq (sFld K (tVar 0) (tC (.int 0)) "failures")
  (tSeq (sFld K (tVar 0) (tC (.int 0)) "until")
  (sFld K (tVar 0) (tC .non) "probe"))))
abbrev N_Link_earn : List Str := ["self"]
theorem sc_Link_earn : FnScope N_Link_earn ["self"] (defScope s_Link_earn) := ⟨rfl, rfl, rfl, by decide +kernel, rfl, by decide +kernel, by decide +kernel⟩
def t_Link_earn (K : PySem.W.Frag) : TS := (sFld K (tVar 0) (tCB rMinI (tCons (tC (.int (20))) (tCons (tOp rAddI (tFld K (tVar 0) "tokens") (tC (.int 1))) tNil))) "tokens")
abbrev N_Link_pay : List Str := ["self", "cost"]
theorem sc_Link_pay : FnScope N_Link_pay ["self", "cost"] (defScope s_Link_pay) := ⟨rfl, rfl, rfl, by decide +kernel, rfl, by decide +kernel, by decide +kernel⟩
def t_Link_pay (K : PySem.W.Frag) : TS := (tSeq (tIfS (tTest (tOp rLtI (tFld K (tVar 0) "tokens") (tVar 1))) (tRet (tC (.bl false))) tNext)
  (tSeq (sFld K (tVar 0) (tOp rSubI (tFld K (tVar 0) "tokens") (tVar 1)) "tokens")
  (tRet (tC (.bl true)))))
abbrev N_Link_is_stopped : List Str := ["self", "time"]
theorem sc_Link_is_stopped : FnScope N_Link_is_stopped ["self", "time"] (defScope s_Link_is_stopped) := ⟨rfl, rfl, rfl, by decide +kernel, rfl, by decide +kernel, by decide +kernel⟩
def t_Link_is_stopped (K : PySem.W.Frag) : TS := (tRet (tAndV (tOp rGtI (tFld K (tVar 0) "until") (tC (.int 0))) (tOrV (tOp rGtI (tFld K (tVar 0) "until") (tVar 1)) (tOp rNotN (tFld K (tVar 0) "probe") (tC .non)))))
abbrev N_Link_note_made : List Str := ["self", "number"]
theorem sc_Link_note_made : FnScope N_Link_note_made ["self", "number"] (defScope s_Link_note_made) := ⟨rfl, rfl, rfl, by decide +kernel, rfl, by decide +kernel, by decide +kernel⟩
def t_Link_note_made (K : PySem.W.Frag) : TS := (tIfS (tTest (tOp rGtI (tFld K (tVar 0) "until") (tC (.int 0)))) (sFld K (tVar 0) (tVar 1) "probe") tNext)
abbrev N_Link_note_success : List Str := ["self", "number"]
theorem sc_Link_note_success : FnScope N_Link_note_success ["self", "number"] (defScope s_Link_note_success) := ⟨rfl, rfl, rfl, by decide +kernel, rfl, by decide +kernel, by decide +kernel⟩
def t_Link_note_success (K : PySem.W.Frag) : TS := (tIfS (tOr (tTest (tOp rEq (tFld K (tVar 0) "until") (tC (.int 0)))) (tTest (tOp rEq (tFld K (tVar 0) "probe") (tVar 1)))) (tSeq (sFld K (tVar 0) (tC (.int 0)) "until")
  (tSeq (sFld K (tVar 0) (tC (.int 0)) "failures")
  (sFld K (tVar 0) (tC .non) "probe"))) tNext)
abbrev N_Link_note_failure : List Str := ["self", "number", "limit", "end"]
theorem sc_Link_note_failure : FnScope N_Link_note_failure ["self", "number", "limit", "end"] (defScope s_Link_note_failure) := ⟨rfl, rfl, rfl, by decide +kernel, rfl, by decide +kernel, by decide +kernel⟩
def t_Link_note_failure (K : PySem.W.Frag) : TS := (tSeq (tIfS (tTest (tOp rEq (tVar 2) (tC (.int 0)))) tRetN tNext)
  (tSeq (tIfS (tTest (tOp rGtI (tFld K (tVar 0) "until") (tC (.int 0)))) (tSeq (tIfS (tTest (tOp rEq (tFld K (tVar 0) "probe") (tVar 1))) (tSeq (sFld K (tVar 0) (tVar 3) "until")
  (sFld K (tVar 0) (tC .non) "probe")) tNext)
  tRetN) tNext)
  (tSeq (sFld K (tVar 0) (tOp rAddI (tFld K (tVar 0) "failures") (tC (.int 1))) "failures")
  (tIfS (tTest (tOp rEq (tFld K (tVar 0) "failures") (tVar 2))) (tSeq (sFld K (tVar 0) (tVar 3) "until")
  (tSeq (sFld K (tVar 0) (tC (.int 0)) "failures")
  (sFld K (tVar 0) (tC .non) "probe"))) tNext))))
section
variable {P : Program} {w : World} {K : PySem.W.Frag} {mg : Str → Option Value} {base : Heap}
theorem pure_Link_init (T : Txt w K mg) (vs : List V) (H : Hp) (Q : VK) (E : XK) (h : sp_Link_init K vs H Q E) : t_Link_init K { nx := fun _ H' => Q .non H', rt := Q } (start N_Link_init vs) H := by
  obtain ⟨p, dx, rfl, hp, k⟩ := h
  refine ⟨_, rfl, p, _, dx, [], rfl, hp, T.c_Link, T.n_Link_tokens, (by show 0 < 1000; decide), ?_⟩
  refine ⟨_, rfl, p, _, dx, _, rfl, upd_same, T.c_Link, T.n_Link_failures, (by show 1 < 1000; decide), ?_⟩
  refine ⟨_, rfl, p, _, dx, _, rfl, upd_same, T.c_Link, T.n_Link_until, (by show 2 < 1000; decide), ?_⟩
  refine ⟨_, rfl, p, _, dx, _, rfl, upd_same, T.c_Link, T.n_Link_probe, (by show 3 < 1000; decide), ?_⟩
  refine k _ ⟨dx, upd_same.trans ?_⟩ fun b o e hb => by rw [upd_ne hb, upd_ne hb, upd_ne hb, upd_ne hb]; exact e
  have e : putF "probe" V.non (putF "until" (.int 0) (putF "failures" (.int 0) (putF "tokens" (.int 0) []))) = lkF ⟨0, 0, 0, none⟩ := by kernel_rfl
  rw [e]
theorem pure_Link_earn (T : Txt w K mg) (vs : List V) (H : Hp) (Q : VK) (E : XK) (h : sp_Link_earn K vs H Q E) : t_Link_earn K { nx := fun _ H' => Q .non H', rt := Q } (start N_Link_earn vs) H := by
  obtain ⟨p, l, rfl, hl, k⟩ := h
  refine slk_tokens T (n := min 20 (l.tokens + 1)) (val_to (val_min val_c (val_add (vlk_tokens T (val_var rfl) hl) val_c)) ?_) (val_var rfl) hl fun H1 h1 f _ => k H1 h1 f
  congr 1
  split <;> omega
theorem pure_Link_pay (T : Txt w K mg) (vs : List V) (H : Hp) (Q : VK) (E : XK) (h : sp_Link_pay K vs H Q E) : t_Link_pay K { nx := fun _ H' => Q .non H', rt := Q } (start N_Link_pay vs) H := by
  obtain ⟨p, l, c, rfl, hl, k1, k2⟩ := h
  refine st_ifd (ans_t (val_lt (vlk_tokens T (val_var rfl) hl) (val_var rfl))) (fun hc => ?_) (fun hc => ?_)
  · exact k1 (by omega)
  · refine slk_tokens T (n := l.tokens - c) (val_to (val_sub (vlk_tokens T (val_var rfl) hl) (val_var rfl)) ?_) (val_var rfl) hl fun H1 h1 f _ => k2 (by omega) H1 h1 f
    congr 1
    omega
theorem pure_Link_is_stopped (T : Txt w K mg) (vs : List V) (H : Hp) (Q : VK) (E : XK) (h : sp_Link_is_stopped K vs H Q E) : t_Link_is_stopped K { nx := fun _ H' => Q .non H', rt := Q } (start N_Link_is_stopped vs) H := by
  obtain ⟨p, l, t, rfl, hl, k⟩ := h
  refine (val_and (val_gt (vlk_until T (val_var rfl) hl) val_c) (fun _ => val_or (val_gt (vlk_until T (val_var rfl) hl) (val_var rfl)) (fun _ => val_notN (vlk_probe T (val_var rfl) hl)) rfl) ?_ : Val _ _ _ (.bl (lkStopped l t))) _ k
  unfold lkStopped
  have e1 : decide ((0 : Int) < (l.openTill : Int)) = decide (0 < l.openTill) := decide_eq_decide.mpr (by omega)
  have e2 : decide ((t : Int) < (l.openTill : Int)) = decide (t < l.openTill) := decide_eq_decide.mpr (by omega)
  rw [e1, e2]
  cases l.trial with
  | none => rfl
  | some c => rfl
theorem prV_eq {o : Option Nat} {c : Nat} : (prV o = V.int (c : Int)) ↔ o = some c := by
  cases o with
  | none => exact ⟨fun z => (nomatch z), fun z => (nomatch z)⟩
  | some d =>
    show V.int (d : Int) = V.int (c : Int) ↔ _
    constructor
    · intro z
      injection z with z
      rw [Int.ofNat.inj z]
    · intro z
      injection z with z
      rw [z]
theorem pure_Link_note_made (T : Txt w K mg) (vs : List V) (H : Hp) (Q : VK) (E : XK) (h : sp_Link_note_made K vs H Q E) : t_Link_note_made K { nx := fun _ H' => Q .non H', rt := Q } (start N_Link_note_made vs) H := by
  obtain ⟨p, l, c, rfl, hl, k⟩ := h
  refine st_ifd (ans_t (val_gt (vlk_until T (val_var rfl) hl) val_c)) (fun hc => ?_) (fun hc => ?_)
  · rw [if_neg (by omega)] at k
    exact slk_probe T (c := some c) (val_var rfl) (val_var rfl) hl fun H1 h1 f _ => k H1 h1 f
  · rw [if_pos (by omega)] at k
    exact k H hl Fr1.refl
theorem pure_Link_note_success (T : Txt w K mg) (vs : List V) (H : Hp) (Q : VK) (E : XK) (h : sp_Link_note_success K vs H Q E) : t_Link_note_success K { nx := fun _ H' => Q .non H', rt := Q } (start N_Link_note_success vs) H := by
  obtain ⟨p, l, c, rfl, hl, k⟩ := h
  unfold lkWon at k
  refine st_if (b := decide (l.openTill = 0 ∨ l.trial = some c)) ?_ (fun hc => ?_) (fun hc => ?_)
  · have e2 : ∀ b, scal (prV l.trial) (V.int b) = true := fun b => by cases l.trial <;> rfl
    refine Ans.to (ans_or2 (ans_t (val_eq (vlk_until T (val_var rfl) hl) val_c)) fun _ => ans_t (val_eq (vlk_probe T (val_var rfl) hl) (val_var rfl) (e2 _))) ?_
    rw [Bool.eq_iff_iff, Bool.or_eq_true, decide_eq_true_iff, decide_eq_true_iff, decide_eq_true_iff, prV_eq]
    constructor
    · rintro (h | h)
      · injection h with h
        exact .inl (by omega)
      · exact .inr h
    · rintro (h | h)
      · exact .inl (by rw [h]; rfl)
      · exact .inr h
  · rw [if_pos (of_decide_eq_true hc)] at k
    refine slk_until T (n := 0) val_c (val_var rfl) hl fun H1 h1 f1 _ => ?_
    refine slk_failures T (n := 0) val_c (val_var rfl) h1 fun H2 h2 f2 _ => ?_
    exact slk_probe T (c := none) val_c (val_var rfl) h2 fun H3 h3 f3 _ => k H3 h3 (Fr1.trans (Fr1.trans f1 f2) f3)
  · rw [if_neg (of_decide_eq_false hc)] at k
    exact k H hl Fr1.refl
theorem pure_Link_note_failure (T : Txt w K mg) (vs : List V) (H : Hp) (Q : VK) (E : XK) (h : sp_Link_note_failure K vs H Q E) : t_Link_note_failure K { nx := fun _ H' => Q .non H', rt := Q } (start N_Link_note_failure vs) H := by
  obtain ⟨p, l, c, lim, till, rfl, hl, k⟩ := h
  unfold lkFail at k
  refine st_ifd (ans_t (val_eq (val_var rfl) val_c)) (fun hc => ?_) (fun hc => ?_)
  · rw [if_pos (by injection hc with hc; omega)] at k
    exact k H hl Fr1.refl
  rw [if_neg (by intro z; exact hc (by rw [z]; rfl))] at k
  refine st_ifd (ans_t (val_gt (vlk_until T (val_var rfl) hl) val_c)) (fun hu => ?_) (fun hu => ?_)
  · rw [if_pos (by omega)] at k
    have e2 : ∀ b, scal (prV l.trial) (V.int b) = true := fun b => by cases l.trial <;> rfl
    refine st_ifd (ans_t (val_eq (vlk_probe T (val_var rfl) hl) (val_var rfl) (e2 _))) (fun hp => ?_) (fun hp => ?_)
    · rw [if_pos (prV_eq.mp hp)] at k
      refine slk_until T (n := till) (val_var rfl) (val_var rfl) hl fun H1 h1 f1 _ => ?_
      exact slk_probe T (c := none) val_c (val_var rfl) h1 fun H2 h2 f2 _ => k H2 h2 (Fr1.trans f1 f2)
    · rw [if_neg (fun z => hp (prV_eq.mpr z))] at k
      exact k H hl Fr1.refl
  · rw [if_neg (by omega)] at k
    refine slk_failures T (n := l.failed + 1) (val_to (val_add (vlk_failures T (val_var rfl) hl) val_c) rfl) (val_var rfl) hl fun H1 h1 f1 _ => ?_
    refine st_ifd (ans_t (val_eq (vlk_failures T (val_var rfl) h1) (val_var rfl))) (fun hp => ?_) (fun hp => ?_)
    · rw [if_pos (by injection hp with hp; exact Int.ofNat.inj hp)] at k
      refine slk_until T (n := till) (val_var rfl) (val_var rfl) h1 fun H2 h2 f2 _ => ?_
      refine slk_failures T (n := 0) val_c (val_var rfl) h2 fun H3 h3 f3 _ => ?_
      exact slk_probe T (c := none) val_c (val_var rfl) h3 fun H4 h4 f4 _ => k H4 h4 (Fr1.trans (Fr1.trans (Fr1.trans f1 f2) f3) f4)
    · rw [if_neg (fun z => hp (by show V.int ((l.failed + 1 : Nat) : Int) = _; rw [z]))] at k
      exact k H1 h1 f1
theorem ok_Link_init (T : Txt w K mg) : Has P w K mg base 1 (He.fAd K ("Link", some "__init__")) ["self"] (sp_Link_init K) := by
  refine Has.of (T.d_Link_init) sc_Link_init (fun _ _ _ _ _ _ us hl => match us, hl with | [_], _ => rfl) len_Link_init (t_Link_init K) (fun cdv A outer s H E hr => ?_) (pure_Link_init T)
  have nd := sc_Link_init.nd
  exact (pss_cons (ps_fld (pw 0) pe_int rfl)
      (pss_cons (ps_fld (pw 0) pe_int rfl)
      (pss_cons (ps_fld (pw 0) pe_int rfl)
      (pss_one (ps_fld (pw 0) pe_non rfl)))))
theorem ok_Link_earn (T : Txt w K mg) : Has P w K mg base 1 (He.fAd K ("Link", some "earn")) ["self"] (sp_Link_earn K) := by
  refine Has.of (T.d_Link_earn) sc_Link_earn (fun _ _ _ _ _ _ us hl => match us, hl with | [_], _ => rfl) len_Link_earn (t_Link_earn K) (fun cdv A outer s H E hr => ?_) (pure_Link_earn T)
  have nd := sc_Link_earn.nd
  exact (pss_one (ps_fld (pw 0) (pe_callB (call_min2 rfl) (by rfl) T.b_min (by decide +kernel) (pa_cons (pe_gi rfl T.i_MOST_TOKENS) (pa_cons (pe_op op_add (pe_fld (pw 0) rfl) pe_int) pa_nil))) rfl))
theorem ok_Link_pay (T : Txt w K mg) : Has P w K mg base 1 (He.fAd K ("Link", some "pay")) ["self", "cost"] (sp_Link_pay K) := by
  refine Has.of (T.d_Link_pay) sc_Link_pay (fun _ _ _ _ _ _ us hl => match us, hl with | [_, _], _ => rfl) len_Link_pay (t_Link_pay K) (fun cdv A outer s H E hr => ?_) (pure_Link_pay T)
  have nd := sc_Link_pay.nd
  exact (pss_cons (ps_if (pt_cmpR op_lt (pe_fld (pw 0) rfl) (pw 1) (nomark _)) (pss_one (ps_ret pe_bl)) pss_nil)
      (pss_cons (ps_fld (pw 0) (pe_op op_sub (pe_fld (pw 0) rfl) (pw 1)) rfl)
      (pss_one (ps_ret pe_bl))))
theorem ok_Link_is_stopped (T : Txt w K mg) : Has P w K mg base 1 (He.fAd K ("Link", some "is_stopped")) ["self", "time"] (sp_Link_is_stopped K) := by
  refine Has.of (T.d_Link_is_stopped) sc_Link_is_stopped (fun _ _ _ _ _ _ us hl => match us, hl with | [_, _], _ => rfl) len_Link_is_stopped (t_Link_is_stopped K) (fun cdv A outer s H E hr => ?_) (pure_Link_is_stopped T)
  have nd := sc_Link_is_stopped.nd
  exact (pss_one (ps_ret (pe_and (pe_cmpR op_gt (pe_fld (pw 0) rfl) pe_int (nomark _)) (pe_one (pe_or (pe_cmpR op_gt (pe_fld (pw 0) rfl) (pw 1) (nomark _)) (pe_one (pe_cmpR op_notN1 (pe_fld (pw 0) rfl) pe_non (nomark _))))))))
theorem ok_Link_note_made (T : Txt w K mg) : Has P w K mg base 1 (He.fAd K ("Link", some "note_made")) ["self", "number"] (sp_Link_note_made K) := by
  refine Has.of (T.d_Link_note_made) sc_Link_note_made (fun _ _ _ _ _ _ us hl => match us, hl with | [_, _], _ => rfl) len_Link_note_made (t_Link_note_made K) (fun cdv A outer s H E hr => ?_) (pure_Link_note_made T)
  have nd := sc_Link_note_made.nd
  exact (pss_one (ps_if (pt_cmpR op_gt (pe_fld (pw 0) rfl) pe_int (nomark _)) (pss_one (ps_fld (pw 0) (pw 1) rfl)) pss_nil))
theorem ok_Link_note_success (T : Txt w K mg) : Has P w K mg base 1 (He.fAd K ("Link", some "note_success")) ["self", "number"] (sp_Link_note_success K) := by
  refine Has.of (T.d_Link_note_success) sc_Link_note_success (fun _ _ _ _ _ _ us hl => match us, hl with | [_, _], _ => rfl) len_Link_note_success (t_Link_note_success K) (fun cdv A outer s H E hr => ?_) (pure_Link_note_success T)
  have nd := sc_Link_note_success.nd
  exact (pss_one (ps_if (PW.pt (pw_or (pt_cmpR op_eq (pe_fld (pw 0) rfl) pe_int (nomark _)) (pw_or1 (pt_cmpR op_eq (pe_fld (pw 0) rfl) (pw 1) (nomark _))))) (pss_cons (ps_fld (pw 0) pe_int rfl)
      (pss_cons (ps_fld (pw 0) pe_int rfl)
      (pss_one (ps_fld (pw 0) pe_non rfl)))) pss_nil))
theorem ok_Link_note_failure (T : Txt w K mg) : Has P w K mg base 1 (He.fAd K ("Link", some "note_failure")) ["self", "number", "limit", "end"] (sp_Link_note_failure K) := by
  refine Has.of (T.d_Link_note_failure) sc_Link_note_failure (fun _ _ _ _ _ _ us hl => match us, hl with | [_, _, _, _], _ => rfl) len_Link_note_failure (t_Link_note_failure K) (fun cdv A outer s H E hr => ?_) (pure_Link_note_failure T)
  have nd := sc_Link_note_failure.nd
  exact (pss_cons (ps_if (pt_cmpR op_eq (pw 2) pe_int (nomark _)) (pss_one ps_retN) pss_nil)
      (pss_cons (ps_if (pt_cmpR op_gt (pe_fld (pw 0) rfl) pe_int (nomark _)) (pss_cons (ps_if (pt_cmpR op_eq (pe_fld (pw 0) rfl) (pw 1) (nomark _)) (pss_cons (ps_fld (pw 0) (pw 3) rfl)
      (pss_one (ps_fld (pw 0) pe_non rfl))) pss_nil)
      (pss_one ps_retN)) pss_nil)
      (pss_cons (ps_fld (pw 0) (pe_op op_add (pe_fld (pw 0) rfl) pe_int) rfl)
      (pss_one (ps_if (pt_cmpR op_eq (pe_fld (pw 0) rfl) (pw 2) (nomark _)) (pss_cons (ps_fld (pw 0) (pw 3) rfl)
      (pss_cons (ps_fld (pw 0) pe_int rfl)
      (pss_one (ps_fld (pw 0) pe_non rfl)))) pss_nil)))))
end
end Cc
end

/-! ## CcAt -/
section
set_option maxRecDepth 100000
set_option maxHeartbeats 4000000
/-! How a plan and a run lie in the heap; what a store makes of that. -/
namespace Cc
open PySem PySem.Spec PyProof.Rows L2
/-! ### the plan -/
def byV (l : List Nat) : List V := l.map fun (b : Nat) => V.int (b : Int)
def stepV : Gp27.Step → List V
  | .work n => [.int 0, .int (n : Int)]
  | .ask i => [.int 1, .int (i : Int)]
def StepsAt (F : Hp) (st : Addr) (steps : List Gp27.Step) : Prop := ∃ ts : List Addr, F st = some (.lst (ts.map V.ref)) ∧ ts.length = steps.length ∧ ∀ (j : Nat) x, steps[j]? = some x → ∃ t, ts[j]? = some t ∧ F t = some (.tup (stepV x))
/-- the addresses of a plan -/
structure PAd where
  sv : Addr
  ak : Addr
  gt : Addr
  ss : List Addr
  sts : List Addr
  as : List Addr
  gs : List Addr
structure PlanAt (K : PySem.W.Frag) (F : Hp) (pl : Addr) (P : PAd) (h : Gp27.House) (mays : List Bool) : Prop where
  at_ : AtPlan K F pl P.sv P.ak P.gt
  sv : F P.sv = some (.lst (P.ss.map V.ref))
  ak : F P.ak = some (.lst (P.as.map V.ref))
  gt : F P.gt = some (.lst (P.gs.map V.ref))
  ls : P.ss.length = h.services.length
  lt : P.sts.length = h.services.length
  la : P.as.length = h.asks.length
  lm : mays.length = h.asks.length
  lg : P.gs.length = h.entries.length
  svs : ∀ (i : Nat) s, h.services[i]? = some s → ∃ p nm st, P.ss[i]? = some p ∧ P.sts[i]? = some st ∧ AtService K F p nm s st ∧ F nm = some (.lst (byV s.name)) ∧ StepsAt F st s.steps
  aks : ∀ (i : Nat) a, h.asks[i]? = some a → ∃ p b, P.as[i]? = some p ∧ mays[i]? = some b ∧ AtAsk K F p a b
  gts : ∀ (i : Nat) e, h.entries[i]? = some e → ∃ p nm, P.gs[i]? = some p ∧ AtGate K F p nm e ∧ F nm = some (.lst (byV e.name))
theorem StepsAt.mono {F H : Hp} (e : ∀ b o, F b = some o → H b = some o) {st : Addr} {l : List Gp27.Step} (h : StepsAt F st l) : StepsAt H st l := by
  obtain ⟨ts, h1, h2, h3⟩ := h
  refine ⟨ts, e _ _ h1, h2, fun j x hx => ?_⟩
  obtain ⟨t, e1, e2⟩ := h3 j x hx
  exact ⟨t, e1, e _ _ e2⟩
theorem PlanAt.mono {K : PySem.W.Frag} {F H : Hp} (e : ∀ b o, F b = some o → H b = some o) {pl : Addr} {P : PAd} {h : Gp27.House} {m : List Bool} (x : PlanAt K F pl P h m) : PlanAt K H pl P h m := by
  refine ⟨?_, e _ _ x.sv, e _ _ x.ak, e _ _ x.gt, x.ls, x.lt, x.la, x.lm, x.lg, fun i s hs => ?_, fun i a ha => ?_, fun i g hg => ?_⟩
  · obtain ⟨dx, q⟩ := x.at_
    exact ⟨dx, e _ _ q⟩
  · obtain ⟨p, nm, st, h1, h2, ⟨dx, h3⟩, h4, h5⟩ := x.svs i s hs
    exact ⟨p, nm, st, h1, h2, ⟨dx, e _ _ h3⟩, e _ _ h4, h5.mono e⟩
  · obtain ⟨p, b, h1, h2, ⟨dx, h3⟩⟩ := x.aks i a ha
    exact ⟨p, b, h1, h2, ⟨dx, e _ _ h3⟩⟩
  · obtain ⟨p, nm, h1, ⟨dx, h3⟩, h4⟩ := x.gts i g hg
    exact ⟨p, nm, h1, ⟨dx, e _ _ h3⟩, e _ _ h4⟩
/-! ### the run -/
def Own (a : Addr) (A : Ad) (b : Addr) : Prop := b = a ∨ b ∈ [A.rq, A.lk, A.op, A.dn, A.fa, A.wa, A.oc] ∨ b ∈ A.rs ∨ b ∈ A.ls
def downV (w : Gp27.World) : List V := (List.range w.house.services.length).map fun s => V.bl (w.down.contains s)
def slowV (w : Gp27.World) : List V := (List.range w.house.services.length).map fun s => V.int (Gp27.slowness w s : Nat)
def mayV (h : Gp27.House) : List V := h.asks.map fun a => V.bl a.may
/-- a run stands at a; F: the heap ahead of its making, its plan in it -/
structure RunAt (K : PySem.W.Frag) (F H : Hp) (a : Addr) (A : Ad) (w : Gp27.World) (raws : List Raw) (wt oc : List Int) : Prop where
  pl : ∃ P m, PlanAt K F A.pl P w.house m
  fz : ∀ b o, F b = some o → H b = some o
  out : ∀ b, Own a A b → F b = none
  run : AtRun K H a A w.now
  rq : H A.rq = some (.lst (A.rs.map V.ref))
  lk : H A.lk = some (.lst (A.ls.map V.ref))
  op : H A.op = some (.lst (mayV w.house))
  dn : H A.dn = some (.lst (downV w))
  fa : H A.fa = some (.lst (slowV w))
  wa : H A.wa = some (.lst (wt.map V.int))
  oc_ : H A.oc = some (.lst (oc.map V.int))
  lrs : A.rs.length = raws.length
  lls : A.ls.length = w.links.length
  lwt : wt.length = w.house.services.length
  loc : oc.length = w.house.services.length
  rqs : ∀ (i : Nat) p r, A.rs[i]? = some p → raws[i]? = some r → AtRequest K H p r
  lks : ∀ (i : Nat) p l, A.ls[i]? = some p → w.links[i]? = some l → AtLink K H p l
  nd : [A.rq, A.lk, A.op, A.dn, A.fa, A.wa, A.oc].Nodup
  ndr : A.rs.Nodup
  ndl : A.ls.Nodup
section
variable {K : PySem.W.Frag} {F H H' : Hp} {a : Addr} {A : Ad} {w : Gp27.World} {raws : List Raw} {wt oc : List Int}
theorem head_ne {k g : Str} (h : k ≠ g) {C C' d d' : Addr} {v v' : V} {r r' : List (Str × V)} : HO.ins C d ((k, v) :: r) ≠ HO.ins C' d' ((g, v') :: r') := fun e => by
  injection e with _ _ e
  injection e with e _
  injection e with e _
  exact h e
theorem rn_rq : ("plan" : Str) ≠ "service" := by decide +kernel
theorem rn_lk : ("plan" : Str) ≠ "tokens" := by decide +kernel
theorem rq_lk : ("service" : Str) ≠ "tokens" := by decide +kernel
theorem ne_run_rq {p : Addr} {t : Nat} {r : Raw} (h1 : AtRun K H a A t) (h2 : AtRequest K H p r) : a ≠ p := by
  obtain ⟨_, e1⟩ := h1
  obtain ⟨_, e2⟩ := h2
  exact ne_of e1 e2 (head_ne rn_rq)
theorem ne_run_lk {p : Addr} {t : Nat} {r : Gp27.Link} (h1 : AtRun K H a A t) (h2 : AtLink K H p r) : a ≠ p := by
  obtain ⟨_, e1⟩ := h1
  obtain ⟨_, e2⟩ := h2
  exact ne_of e1 e2 (head_ne rn_lk)
theorem ne_rq_lk {p q : Addr} {t : Raw} {r : Gp27.Link} (h1 : AtRequest K H p t) (h2 : AtLink K H q r) : p ≠ q := by
  obtain ⟨_, e1⟩ := h1
  obtain ⟨_, e2⟩ := h2
  exact ne_of e1 e2 (head_ne rq_lk)
theorem ne_run_lst {p : Addr} {t : Nat} {xs : List V} (h1 : AtRun K H a A t) (h2 : H p = some (.lst xs)) : a ≠ p := by
  obtain ⟨_, e1⟩ := h1
  exact ne_of e1 h2 (fun z => nomatch z)
theorem ne_rq_lst {p q : Addr} {r : Raw} {xs : List V} (h1 : AtRequest K H q r) (h2 : H p = some (.lst xs)) : q ≠ p := by
  obtain ⟨_, e1⟩ := h1
  exact ne_of e1 h2 (fun z => nomatch z)
theorem ne_lk_lst {p q : Addr} {r : Gp27.Link} {xs : List V} (h1 : AtLink K H q r) (h2 : H p = some (.lst xs)) : q ≠ p := by
  obtain ⟨_, e1⟩ := h1
  exact ne_of e1 h2 (fun z => nomatch z)
theorem AtRun.fr {t : Nat} {p : Addr} (h : AtRun K H a A t) (f : Fr1 p H H') (n : a ≠ p) : AtRun K H' a A t := by
  obtain ⟨dx, e⟩ := h
  exact ⟨dx, f _ _ e n⟩
theorem AtRequest.fr {t : Raw} {p q : Addr} (h : AtRequest K H q t) (f : Fr1 p H H') (n : q ≠ p) : AtRequest K H' q t := by
  obtain ⟨dx, e⟩ := h
  exact ⟨dx, f _ _ e n⟩
theorem AtLink.fr {t : Gp27.Link} {p q : Addr} (h : AtLink K H q t) (f : Fr1 p H H') (n : q ≠ p) : AtLink K H' q t := by
  obtain ⟨dx, e⟩ := h
  exact ⟨dx, f _ _ e n⟩
theorem nd_ne {l : List Addr} (h : l.Nodup) {i j : Nat} {p q : Addr} (hi : l[i]? = some p) (hj : l[j]? = some q) (n : i ≠ j) : p ≠ q := fun e => n (nd_ix h hi (by rw [e]; exact hj))
theorem RunAt.req (R : RunAt K F H a A w raws wt oc) {i : Nat} {r : Raw} (hr : raws[i]? = some r) : ∃ p, A.rs[i]? = some p ∧ AtRequest K H p r := by
  have hi : i < A.rs.length := by rw [R.lrs]; exact (List.getElem?_eq_some_iff.mp hr).1
  exact ⟨A.rs[i], List.getElem?_eq_getElem hi, R.rqs i _ r (List.getElem?_eq_getElem hi) hr⟩
theorem RunAt.link (R : RunAt K F H a A w raws wt oc) {i : Nat} {l : Gp27.Link} (hr : w.links[i]? = some l) : ∃ p, A.ls[i]? = some p ∧ AtLink K H p l := by
  have hi : i < A.ls.length := by rw [R.lls]; exact (List.getElem?_eq_some_iff.mp hr).1
  exact ⟨A.ls[i], List.getElem?_eq_getElem hi, R.lks i _ l (List.getElem?_eq_getElem hi) hr⟩
theorem RunAt.raw_of (R : RunAt K F H a A w raws wt oc) {i : Nat} {p : Addr} (h : A.rs[i]? = some p) : ∃ r, raws[i]? = some r ∧ AtRequest K H p r := by
  have hi : i < raws.length := by rw [← R.lrs]; exact (List.getElem?_eq_some_iff.mp h).1
  exact ⟨raws[i], List.getElem?_eq_getElem hi, R.rqs i p _ h (List.getElem?_eq_getElem hi)⟩
theorem RunAt.link_of (R : RunAt K F H a A w raws wt oc) {i : Nat} {p : Addr} (h : A.ls[i]? = some p) : ∃ r, w.links[i]? = some r ∧ AtLink K H p r := by
  have hi : i < w.links.length := by rw [← R.lls]; exact (List.getElem?_eq_some_iff.mp h).1
  exact ⟨w.links[i], List.getElem?_eq_getElem hi, R.lks i p _ h (List.getElem?_eq_getElem hi)⟩
/-- the world may be another where it is the same to the heap -/
theorem RunAt.cong (R : RunAt K F H a A w raws wt oc) {w' : Gp27.World} (h1 : w'.house = w.house) (h2 : w'.now = w.now) (h3 : w'.links = w.links) (h4 : downV w' = downV w) (h5 : w'.slow = w.slow) : RunAt K F H a A w' raws wt oc := by
  have h6 : slowV w' = slowV w := by
    unfold slowV Gp27.slowness
    rw [h1, h5]
  obtain ⟨⟩ := R
  constructor <;> first | assumption | (rw [h1]; assumption) | (rw [h2]; assumption) | (rw [h3]; assumption) | (rw [h4]; assumption) | (rw [h6]; assumption)
theorem own_lst {i : Nat} {p : Addr} (h : [A.rq, A.lk, A.op, A.dn, A.fa, A.wa, A.oc][i]? = some p) : Own a A p := .inr (.inl (List.mem_of_getElem? h))
/-- the time -/
theorem RunAt.time (R : RunAt K F H a A w raws wt oc) {n : Nat} (h : AtRun K H' a A n) (f : Fr1 a H H') : RunAt K F H' a A { w with now := n } raws wt oc where
  pl := R.pl
  fz := fun b o e => f b o (R.fz b o e) (by rintro rfl; rw [R.out _ (.inl rfl)] at e; cases e)
  out := R.out
  run := h
  rq := f _ _ R.rq (ne_run_lst R.run R.rq).symm
  lk := f _ _ R.lk (ne_run_lst R.run R.lk).symm
  op := f _ _ R.op (ne_run_lst R.run R.op).symm
  dn := f _ _ R.dn (ne_run_lst R.run R.dn).symm
  fa := f _ _ R.fa (ne_run_lst R.run R.fa).symm
  wa := f _ _ R.wa (ne_run_lst R.run R.wa).symm
  oc_ := f _ _ R.oc_ (ne_run_lst R.run R.oc_).symm
  lrs := R.lrs
  lls := R.lls
  lwt := R.lwt
  loc := R.loc
  rqs := fun i p r h1 h2 => (R.rqs i p r h1 h2).fr f (ne_run_rq R.run (R.rqs i p r h1 h2)).symm
  lks := fun i p l h1 h2 => (R.lks i p l h1 h2).fr f (ne_run_lk R.run (R.lks i p l h1 h2)).symm
  nd := R.nd
  ndr := R.ndr
  ndl := R.ndl
/-- a call's state -/
theorem RunAt.setL (R : RunAt K F H a A w raws wt oc) {k : Nat} {q : Addr} {l : Gp27.Link} (hq : A.ls[k]? = some q) (h : AtLink K H' q l) (f : Fr1 q H H') : RunAt K F H' a A { w with links := w.links.set k l } raws wt oc := by
  obtain ⟨l0, hl0, h0⟩ := R.link_of hq
  have hk : k < w.links.length := (List.getElem?_eq_some_iff.mp hl0).1
  exact {
  pl := R.pl
  fz := fun b o e => f b o (R.fz b o e) (by rintro rfl; rw [R.out _ (.inr (.inr (.inr (List.mem_of_getElem? hq))))] at e; cases e)
  out := R.out
  run := R.run.fr f (ne_run_lk R.run h0)
  rq := f _ _ R.rq (ne_lk_lst h0 R.rq).symm
  lk := f _ _ R.lk (ne_lk_lst h0 R.lk).symm
  op := f _ _ R.op (ne_lk_lst h0 R.op).symm
  dn := f _ _ R.dn (ne_lk_lst h0 R.dn).symm
  fa := f _ _ R.fa (ne_lk_lst h0 R.fa).symm
  wa := f _ _ R.wa (ne_lk_lst h0 R.wa).symm
  oc_ := f _ _ R.oc_ (ne_lk_lst h0 R.oc_).symm
  lrs := R.lrs
  lls := by rw [R.lls]; exact List.length_set.symm
  lwt := R.lwt
  loc := R.loc
  rqs := fun i p r h1 h2 => (R.rqs i p r h1 h2).fr f (ne_rq_lk (R.rqs i p r h1 h2) h0)
  lks := fun i p l' h1 h2 => by
    have h2' : (w.links.set k l)[i]? = some l' := h2
    by_cases e : i = k
    · subst e
      rw [List.getElem?_set_self hk] at h2'
      cases h2'
      cases hq.symm.trans h1
      exact h
    · rw [List.getElem?_set_ne (fun z => e z.symm)] at h2'
      exact (R.lks i p l' h1 h2').fr f (nd_ne R.ndl h1 hq e)
  nd := R.nd
  ndr := R.ndr
  ndl := R.ndl }
/-- a request -/
theorem RunAt.setR (R : RunAt K F H a A w raws wt oc) {k : Nat} {q : Addr} {r : Raw} (hq : A.rs[k]? = some q) (h : AtRequest K H' q r) (f : Fr1 q H H') : RunAt K F H' a A w (raws.set k r) wt oc := by
  obtain ⟨r0, hr0, h0⟩ := R.raw_of hq
  have hk : k < raws.length := (List.getElem?_eq_some_iff.mp hr0).1
  exact {
  pl := R.pl
  fz := fun b o e => f b o (R.fz b o e) (by rintro rfl; rw [R.out _ (.inr (.inr (.inl (List.mem_of_getElem? hq))))] at e; cases e)
  out := R.out
  run := R.run.fr f (ne_run_rq R.run h0)
  rq := f _ _ R.rq (ne_rq_lst h0 R.rq).symm
  lk := f _ _ R.lk (ne_rq_lst h0 R.lk).symm
  op := f _ _ R.op (ne_rq_lst h0 R.op).symm
  dn := f _ _ R.dn (ne_rq_lst h0 R.dn).symm
  fa := f _ _ R.fa (ne_rq_lst h0 R.fa).symm
  wa := f _ _ R.wa (ne_rq_lst h0 R.wa).symm
  oc_ := f _ _ R.oc_ (ne_rq_lst h0 R.oc_).symm
  lrs := by rw [R.lrs, List.length_set]
  lls := R.lls
  lwt := R.lwt
  loc := R.loc
  rqs := fun i p r' h1 h2 => by
    by_cases e : i = k
    · subst e
      rw [List.getElem?_set_self hk] at h2
      cases h2
      cases hq.symm.trans h1
      exact h
    · rw [List.getElem?_set_ne (fun z => e z.symm)] at h2
      exact (R.rqs i p r' h1 h2).fr f (nd_ne R.ndr h1 hq e)
  lks := fun i p l h1 h2 => (R.lks i p l h1 h2).fr f (ne_rq_lk h0 (R.lks i p l h1 h2)).symm
  nd := R.nd
  ndr := R.ndr
  ndl := R.ndl }
/-- the list of the waiting -/
theorem RunAt.setW (R : RunAt K F H a A w raws wt oc) {l : List Int} (h : H' A.wa = some (.lst (l.map V.int))) (hl : l.length = wt.length) (f : Fr1 A.wa H H') : RunAt K F H' a A w raws l oc where
  pl := R.pl
  fz := fun b o e => f b o (R.fz b o e) (by rintro rfl; rw [R.out _ (own_lst (i := 5) rfl)] at e; cases e)
  out := R.out
  run := R.run.fr f (ne_run_lst R.run R.wa)
  rq := f _ _ R.rq (nd_ne R.nd (i := 0) (j := 5) rfl rfl (by decide))
  lk := f _ _ R.lk (nd_ne R.nd (i := 1) (j := 5) rfl rfl (by decide))
  op := f _ _ R.op (nd_ne R.nd (i := 2) (j := 5) rfl rfl (by decide))
  dn := f _ _ R.dn (nd_ne R.nd (i := 3) (j := 5) rfl rfl (by decide))
  fa := f _ _ R.fa (nd_ne R.nd (i := 4) (j := 5) rfl rfl (by decide))
  wa := h
  oc_ := f _ _ R.oc_ (nd_ne R.nd (i := 6) (j := 5) rfl rfl (by decide))
  lrs := R.lrs
  lls := R.lls
  lwt := hl.trans R.lwt
  loc := R.loc
  rqs := fun i p r h1 h2 => (R.rqs i p r h1 h2).fr f (ne_rq_lst (R.rqs i p r h1 h2) R.wa)
  lks := fun i p l h1 h2 => (R.lks i p l h1 h2).fr f (ne_lk_lst (R.lks i p l h1 h2) R.wa)
  nd := R.nd
  ndr := R.ndr
  ndl := R.ndl
/-- the list of the occupied -/
theorem RunAt.setO (R : RunAt K F H a A w raws wt oc) {l : List Int} (h : H' A.oc = some (.lst (l.map V.int))) (hl : l.length = oc.length) (f : Fr1 A.oc H H') : RunAt K F H' a A w raws wt l where
  pl := R.pl
  fz := fun b o e => f b o (R.fz b o e) (by rintro rfl; rw [R.out _ (own_lst (i := 6) rfl)] at e; cases e)
  out := R.out
  run := R.run.fr f (ne_run_lst R.run R.oc_)
  rq := f _ _ R.rq (nd_ne R.nd (i := 0) (j := 6) rfl rfl (by decide))
  lk := f _ _ R.lk (nd_ne R.nd (i := 1) (j := 6) rfl rfl (by decide))
  op := f _ _ R.op (nd_ne R.nd (i := 2) (j := 6) rfl rfl (by decide))
  dn := f _ _ R.dn (nd_ne R.nd (i := 3) (j := 6) rfl rfl (by decide))
  fa := f _ _ R.fa (nd_ne R.nd (i := 4) (j := 6) rfl rfl (by decide))
  wa := f _ _ R.wa (nd_ne R.nd (i := 5) (j := 6) rfl rfl (by decide))
  oc_ := h
  lrs := R.lrs
  lls := R.lls
  lwt := R.lwt
  loc := hl.trans R.loc
  rqs := fun i p r h1 h2 => (R.rqs i p r h1 h2).fr f (ne_rq_lst (R.rqs i p r h1 h2) R.oc_)
  lks := fun i p l h1 h2 => (R.lks i p l h1 h2).fr f (ne_lk_lst (R.lks i p l h1 h2) R.oc_)
  nd := R.nd
  ndr := R.ndr
  ndl := R.ndl
/-- the services that are down -/
theorem RunAt.setD (R : RunAt K F H a A w raws wt oc) {d : List Nat} (h : H' A.dn = some (.lst (downV { w with down := d }))) (f : Fr1 A.dn H H') : RunAt K F H' a A { w with down := d } raws wt oc where
  pl := R.pl
  fz := fun b o e => f b o (R.fz b o e) (by rintro rfl; rw [R.out _ (own_lst (i := 3) rfl)] at e; cases e)
  out := R.out
  run := R.run.fr f (ne_run_lst R.run R.dn)
  rq := f _ _ R.rq (nd_ne R.nd (i := 0) (j := 3) rfl rfl (by decide))
  lk := f _ _ R.lk (nd_ne R.nd (i := 1) (j := 3) rfl rfl (by decide))
  op := f _ _ R.op (nd_ne R.nd (i := 2) (j := 3) rfl rfl (by decide))
  dn := h
  fa := f _ _ R.fa (nd_ne R.nd (i := 4) (j := 3) rfl rfl (by decide))
  wa := f _ _ R.wa (nd_ne R.nd (i := 5) (j := 3) rfl rfl (by decide))
  oc_ := f _ _ R.oc_ (nd_ne R.nd (i := 6) (j := 3) rfl rfl (by decide))
  lrs := R.lrs
  lls := R.lls
  lwt := R.lwt
  loc := R.loc
  rqs := fun i p r h1 h2 => (R.rqs i p r h1 h2).fr f (ne_rq_lst (R.rqs i p r h1 h2) R.dn)
  lks := fun i p l h1 h2 => (R.lks i p l h1 h2).fr f (ne_lk_lst (R.lks i p l h1 h2) R.dn)
  nd := R.nd
  ndr := R.ndr
  ndl := R.ndl
/-- the factors -/
theorem RunAt.setF (R : RunAt K F H a A w raws wt oc) {d : List (Nat × Nat)} (h : H' A.fa = some (.lst (slowV { w with slow := d }))) (f : Fr1 A.fa H H') : RunAt K F H' a A { w with slow := d } raws wt oc where
  pl := R.pl
  fz := fun b o e => f b o (R.fz b o e) (by rintro rfl; rw [R.out _ (own_lst (i := 4) rfl)] at e; cases e)
  out := R.out
  run := R.run.fr f (ne_run_lst R.run R.fa)
  rq := f _ _ R.rq (nd_ne R.nd (i := 0) (j := 4) rfl rfl (by decide))
  lk := f _ _ R.lk (nd_ne R.nd (i := 1) (j := 4) rfl rfl (by decide))
  op := f _ _ R.op (nd_ne R.nd (i := 2) (j := 4) rfl rfl (by decide))
  dn := f _ _ R.dn (nd_ne R.nd (i := 3) (j := 4) rfl rfl (by decide))
  fa := h
  wa := f _ _ R.wa (nd_ne R.nd (i := 5) (j := 4) rfl rfl (by decide))
  oc_ := f _ _ R.oc_ (nd_ne R.nd (i := 6) (j := 4) rfl rfl (by decide))
  lrs := R.lrs
  lls := R.lls
  lwt := R.lwt
  loc := R.loc
  rqs := fun i p r h1 h2 => (R.rqs i p r h1 h2).fr f (ne_rq_lst (R.rqs i p r h1 h2) R.fa)
  lks := fun i p l h1 h2 => (R.lks i p l h1 h2).fr f (ne_lk_lst (R.lks i p l h1 h2) R.fa)
  nd := R.nd
  ndr := R.ndr
  ndl := R.ndl
/-- one request more: p is new -/
theorem RunAt.addR (R : RunAt K F H a A w raws wt oc) {p : Addr} {r : Raw} (hp : H p = none) (h : AtRequest K H' p r) (hq : H' A.rq = some (.lst ((A.rs ++ [p]).map V.ref))) (f : Fr1 A.rq H H') : RunAt K F H' a { A with rs := A.rs ++ [p] } w (raws ++ [r]) wt oc where
  pl := R.pl
  fz := fun b o e => f b o (R.fz b o e) (by rintro rfl; rw [R.out _ (own_lst (i := 0) rfl)] at e; cases e)
  out := fun b hb => by
    by_cases e : b = p
    · subst e
      cases q : F b with
      | none => rfl
      | some o => rw [R.fz b o q] at hp; cases hp
    · refine R.out b ?_
      rcases hb with hb | hb | hb | hb
      · exact .inl hb
      · exact .inr (.inl hb)
      · rcases List.mem_append.mp (show b ∈ A.rs ++ [p] from hb) with hb | hb
        · exact .inr (.inr (.inl hb))
        · exact absurd (List.mem_singleton.mp hb) e
      · exact .inr (.inr (.inr hb))
  run := by
    obtain ⟨dx, e⟩ := R.run.fr f (ne_run_lst R.run R.rq)
    exact ⟨dx, e⟩
  rq := hq
  lk := f _ _ R.lk (nd_ne R.nd (i := 1) (j := 0) rfl rfl (by decide))
  op := f _ _ R.op (nd_ne R.nd (i := 2) (j := 0) rfl rfl (by decide))
  dn := f _ _ R.dn (nd_ne R.nd (i := 3) (j := 0) rfl rfl (by decide))
  fa := f _ _ R.fa (nd_ne R.nd (i := 4) (j := 0) rfl rfl (by decide))
  wa := f _ _ R.wa (nd_ne R.nd (i := 5) (j := 0) rfl rfl (by decide))
  oc_ := f _ _ R.oc_ (nd_ne R.nd (i := 6) (j := 0) rfl rfl (by decide))
  lrs := by
    show (A.rs ++ [p]).length = (raws ++ [r]).length
    rw [List.length_append, List.length_append, R.lrs] <;> rfl
  lls := R.lls
  lwt := R.lwt
  loc := R.loc
  rqs := fun i q r' h1 h2 => by
    have h1' : (A.rs ++ [p])[i]? = some q := h1
    by_cases e : i < A.rs.length
    · rw [List.getElem?_append_left e] at h1'
      rw [List.getElem?_append_left (by rw [← R.lrs]; exact e)] at h2
      have h3 := R.rqs i q r' h1' h2
      exact h3.fr f (ne_rq_lst h3 R.rq)
    · have e1 : i = A.rs.length := by
        have := (List.getElem?_eq_some_iff.mp h1').1
        rw [List.length_append] at this
        have : ([p] : List Addr).length = 1 := rfl
        omega
      subst e1
      rw [List.getElem?_append_right (Nat.le_refl _), Nat.sub_self] at h1'
      rw [R.lrs, List.getElem?_append_right (Nat.le_refl _), Nat.sub_self] at h2
      cases h1'
      cases h2
      exact h
  lks := fun i p l h1 h2 => (R.lks i p l h1 h2).fr f (ne_lk_lst (R.lks i p l h1 h2) R.rq)
  nd := R.nd
  ndr := by
    show (A.rs ++ [p]).Nodup
    refine List.nodup_append.mpr ⟨R.ndr, by simp, fun x hx y hy e => ?_⟩
    rw [List.mem_singleton.mp hy] at e
    subst e
    obtain ⟨i, hi, e⟩ := List.mem_iff_getElem.mp hx
    obtain ⟨r0, _, ⟨_, h0⟩⟩ := R.raw_of (i := i) (p := x) (by rw [List.getElem?_eq_getElem hi, e])
    rw [h0] at hp
    cases hp
  ndl := R.ndl
end
/-! ### what a run's method may change -/
structure Ext (a : Addr) (A A' : Ad) (H H' : Hp) : Prop where
  keep : ∀ b o, H b = some o → ¬ Own a A b → H' b = some o ∧ ¬ Own a A' b
  fix : A'.pl = A.pl ∧ A'.rq = A.rq ∧ A'.lk = A.lk ∧ A'.ls = A.ls
  pre : ∃ l, A'.rs = A.rs ++ l
theorem Ext.refl {a : Addr} {A : Ad} {H : Hp} : Ext a A A H H := ⟨fun _ _ h n => ⟨h, n⟩, ⟨rfl, rfl, rfl, rfl⟩, [], (List.append_nil _).symm⟩
theorem Ext.trans {a : Addr} {A A1 A2 : Ad} {H H1 H2 : Hp} (x : Ext a A A1 H H1) (y : Ext a A1 A2 H1 H2) : Ext a A A2 H H2 := by
  refine ⟨fun b o h n => ?_, ?_, ?_⟩
  · obtain ⟨h1, n1⟩ := x.keep b o h n
    exact y.keep b o h1 n1
  · obtain ⟨e1, e2, e3, e4⟩ := x.fix
    obtain ⟨f1, f2, f3, f4⟩ := y.fix
    exact ⟨f1.trans e1, f2.trans e2, f3.trans e3, f4.trans e4⟩
  · obtain ⟨l, e⟩ := x.pre
    obtain ⟨m, f⟩ := y.pre
    exact ⟨l ++ m, by rw [f, e, List.append_assoc]⟩
theorem Ext.one {a p : Addr} {A : Ad} {H H' : Hp} (hp : Own a A p) (f : Fr1 p H H') : Ext a A A H H' := ⟨fun b o h n => ⟨f b o h (by rintro rfl; exact n hp), n⟩, ⟨rfl, rfl, rfl, rfl⟩, [], (List.append_nil _).symm⟩
theorem Ext.get {a : Addr} {A A' : Ad} {H H' : Hp} (x : Ext a A A' H H') {i : Nat} {p : Addr} (h : A.rs[i]? = some p) : A'.rs[i]? = some p := by
  obtain ⟨l, e⟩ := x.pre
  rw [e, List.getElem?_append_left (List.getElem?_eq_some_iff.mp h).1]
  exact h
end Cc
end

/-! ## CcRunA -/
section
set_option maxRecDepth 100000
set_option maxHeartbeats 4000000
/-! Run: add_up, put, is_full, create. -/
namespace Cc
open PySem PySem.Spec PyProof.Rows L2
open Cw (upW upO rawOf rawsOf waitsOf occsOf)
def putRaw (r : Raw) (st a b : Nat) : Raw := { r with status := st, first := a, second := b }
abbrev RunW (K : PySem.W.Frag) (F H : Hp) (a : Addr) (A : Ad) (w : Gp27.World) : Prop := RunAt K F H a A w (rawsOf w) (waitsOf w) (occsOf w)
def sp_Request_init (K : PySem.W.Frag) : Sp := fun vs H Q _ => ∃ (p dx : Addr) (s e d : Nat), vs = [.ref p, .int (s : Int), .int (e : Int), .int (d : Int)] ∧ H p = some (.ins (cRequest K) dx []) ∧ ∀ H' : Hp, AtRequest K H' p ⟨s, e, d, 0, 5, 0, 0⟩ → Fr1 p H H' → Q .non H'
def sp_Run_add_up (K : PySem.W.Frag) : Sp := fun vs H Q _ => ∃ (a q : Addr) (F : Hp) (A : Ad) (w : Gp27.World) (raws : List Raw) (wt oc : List Int) (k : Nat) (r : Raw) (d : Int), vs = [.ref a, .ref q, .int d] ∧ RunAt K F H a A w raws wt oc ∧ A.rs[k]? = some q ∧ raws[k]? = some r ∧
  r.service < w.house.services.length ∧ ∀ H' : Hp, RunAt K F H' a A w raws (upW r d wt) (upO r d oc) → Ext a A A H H' → Q .non H'
def sp_Run_put (K : PySem.W.Frag) : Sp := fun vs H Q _ => ∃ (a q : Addr) (F : Hp) (A : Ad) (w : Gp27.World) (raws : List Raw) (wt oc : List Int) (k : Nat) (r : Raw) (x y z : Nat), vs = [.ref a, .ref q, .int (x : Int), .int (y : Int), .int (z : Int)] ∧ RunAt K F H a A w raws wt oc ∧ A.rs[k]? = some q ∧ raws[k]? = some r ∧
  r.service < w.house.services.length ∧ ∀ H' : Hp, RunAt K F H' a A w (raws.set k (putRaw r x y z)) (upW (putRaw r x y z) 1 (upW r (-1) wt)) (upO (putRaw r x y z) 1 (upO r (-1) oc)) → Ext a A A H H' → Q .non H'
def sp_Run_is_full (K : PySem.W.Frag) : Sp := fun vs H Q _ => ∃ (a : Addr) (F : Hp) (A : Ad) (w : Gp27.World) (raws : List Raw) (s : Nat), vs = [.ref a, .int (s : Int)] ∧ RunAt K F H a A w raws (waitsOf w) (occsOf w) ∧ s < w.house.services.length ∧
  Q (.bl (decide ((Gp27.serviceAt w s).queue + (Gp27.serviceAt w s).workers ≤ Gp27.queued w s + Gp27.working w s))) H
def sp_Run_create (K : PySem.W.Frag) : Sp := fun vs H Q _ => ∃ (a : Addr) (F : Hp) (A : Ad) (w : Gp27.World) (s d : Nat) (e : Option Nat), vs = [.ref a, .int (s : Int), .int (Cw.entN e : Int), .int (d : Int)] ∧ RunW K F H a A w ∧ s < w.house.services.length ∧ w.requests.length ≤ 10000 ∧
  ∀ (H' : Hp) (A' : Ad), RunW K F H' a A' (Gp27.comes w s e d) → Ext a A A' H H' → Q (.int (w.requests.length : Nat)) H'
theorem len_Request_init {K : PySem.W.Frag} : ∀ vs H Q E, sp_Request_init K vs H Q E → vs.length = (["self", "service", "entry", "deadline"] : List Str).length := by rintro _ _ _ _ ⟨_, _, _, _, _, rfl, _⟩; rfl
theorem len_Run_add_up {K : PySem.W.Frag} : ∀ vs H Q E, sp_Run_add_up K vs H Q E → vs.length = (["self", "request", "change"] : List Str).length := by rintro _ _ _ _ ⟨_, _, _, _, _, _, _, _, _, _, _, rfl, _⟩; rfl
theorem len_Run_put {K : PySem.W.Frag} : ∀ vs H Q E, sp_Run_put K vs H Q E → vs.length = (["self", "request", "status", "first", "second"] : List Str).length := by rintro _ _ _ _ ⟨_, _, _, _, _, _, _, _, _, _, _, _, _, rfl, _⟩; rfl
theorem len_Run_is_full {K : PySem.W.Frag} : ∀ vs H Q E, sp_Run_is_full K vs H Q E → vs.length = (["self", "service"] : List Str).length := by rintro _ _ _ _ ⟨_, _, _, _, _, _, rfl, _⟩; rfl
theorem len_Run_create {K : PySem.W.Frag} : ∀ vs H Q E, sp_Run_create K vs H Q E → vs.length = (["self", "service", "entry", "deadline"] : List Str).length := by rintro _ _ _ _ ⟨_, _, _, _, _, _, _, rfl, _⟩; rfl
abbrev N_Request_init : List Str := ["self", "service", "entry", "deadline"]
theorem sc_Request_init : FnScope N_Request_init ["self", "service", "entry", "deadline"] (defScope s_Request_init) := ⟨rfl, rfl, rfl, by decide +kernel, rfl, by decide +kernel, by decide +kernel⟩
def t_Request_init (K : PySem.W.Frag) : TS := (tSeq (sFld K (tVar 0) (tVar 1) "service")
  (tSeq (sFld K (tVar 0) (tVar 2) "entry")
  (tSeq (sFld K (tVar 0) (tVar 3) "deadline")
  (tSeq (sFld K (tVar 0) (tC (.int 0)) "step")
  (tSeq (sFld K (tVar 0) (tC (.int (5))) "status")
  (tSeq (sFld K (tVar 0) (tC (.int 0)) "first")
  (sFld K (tVar 0) (tC (.int 0)) "second")))))))
abbrev N_Run_add_up : List Str := ["self", "request", "change"]
theorem sc_Run_add_up : FnScope N_Run_add_up ["self", "request", "change"] (defScope s_Run_add_up) := ⟨rfl, rfl, rfl, by decide +kernel, rfl, by decide +kernel, by decide +kernel⟩
def t_Run_add_up (K : PySem.W.Frag) : TS := (tSeq (tIfS (tTest (tOp rEq (tFld K (tVar 1) "status") (tC (.int (0))))) (tAugS (tFld K (tVar 0) "waiting") (tFld K (tVar 1) "service") (tVar 2) (rGetL K) ipAdd rSetL) tNext)
  (tIfS (tTest (tOp (rIn K false) (tFld K (tVar 1) "status") (tTup (tCons (tC (.int (1))) (tCons (tC (.int (2))) (tCons (tC (.int (3))) tNil)))))) (tAugS (tFld K (tVar 0) "occupied") (tFld K (tVar 1) "service") (tVar 2) (rGetL K) ipAdd rSetL) tNext))
abbrev N_Run_put : List Str := ["self", "request", "status", "first", "second"]
theorem sc_Run_put : FnScope N_Run_put ["self", "request", "status", "first", "second"] (defScope s_Run_put) := ⟨rfl, rfl, rfl, by decide +kernel, rfl, by decide +kernel, by decide +kernel⟩
def t_Run_put (K : PySem.W.Frag) : TS := (tSeq (tDrop (tMeth (cRun K) "add_up" (sp_Run_add_up K) [] E0 (tVar 0) (tCons (tVar 1) (tCons (tUn rNegI (tC (.int 1))) tNil))))
  (tSeq (sFld K (tVar 1) (tVar 2) "status")
  (tSeq (sFld K (tVar 1) (tVar 3) "first")
  (tSeq (sFld K (tVar 1) (tVar 4) "second")
  (tDrop (tMeth (cRun K) "add_up" (sp_Run_add_up K) [] E0 (tVar 0) (tCons (tVar 1) (tCons (tC (.int 1)) tNil))))))))
abbrev N_Run_is_full : List Str := ["self", "service", "told"]
theorem sc_Run_is_full : FnScope N_Run_is_full ["self", "service"] (defScope s_Run_is_full) := ⟨rfl, rfl, rfl, by decide +kernel, rfl, by decide +kernel, by decide +kernel⟩
def t_Run_is_full (K : PySem.W.Frag) : TS := (tSeq (tAsg (tOp (rIxL K) (tFld K (tFld K (tVar 0) "plan") "services") (tVar 1)) (gName 2))
  (tRet (tOp rGeI (tOp rAddI (tOp (rIxL K) (tFld K (tVar 0) "waiting") (tVar 1)) (tOp (rIxL K) (tFld K (tVar 0) "occupied") (tVar 1))) (tOp rAddI (tFld K (tVar 2) "workers") (tFld K (tVar 2) "queue")))))
abbrev N_Run_create : List Str := ["self", "service", "entry", "deadline", "request"]
theorem sc_Run_create : FnScope N_Run_create ["self", "service", "entry", "deadline"] (defScope s_Run_create) := ⟨rfl, rfl, rfl, by decide +kernel, rfl, by decide +kernel, by decide +kernel⟩
def t_Run_create (K : PySem.W.Frag) : TS := (tSeq (tAsg (tMake (cRequest K) (sp_Request_init K) [] E0 (tCons (tVar 1) (tCons (tVar 2) (tCons (tVar 3) tNil)))) (gName 4))
  (tSeq (tDrop (tBM K "list" rAppend (tFld K (tVar 0) "requests") (tCons (tVar 4) tNil)))
  (tSeq (tIfS (tB (tOp (rIxL K) (tFld K (tVar 0) "down") (tVar 1))) (tDrop (tMeth (cRun K) "put" (sp_Run_put K) [] E0 (tVar 0) (tCons (tVar 4) (tCons (tC (.int (4))) (tCons (tC (.int (4))) (tCons (tC (.int 0)) tNil)))))) (tIfS (tB (tMeth (cRun K) "is_full" (sp_Run_is_full K) [] E0 (tVar 0) (tCons (tVar 1) tNil))) (tDrop (tMeth (cRun K) "put" (sp_Run_put K) [] E0 (tVar 0) (tCons (tVar 4) (tCons (tC (.int (4))) (tCons (tC (.int (3))) (tCons (tC (.int 0)) tNil)))))) (tDrop (tMeth (cRun K) "put" (sp_Run_put K) [] E0 (tVar 0) (tCons (tVar 4) (tCons (tC (.int (0))) (tCons (tC (.int 0)) (tCons (tC (.int 0)) tNil))))))))
  (tRet (tOp rSubI (tCB (rLenQ K) (tCons (tFld K (tVar 0) "requests") tNil)) (tC (.int 1)))))))
section
variable {K : PySem.W.Frag} {F H H' : Hp} {a : Addr} {A : Ad} {w : Gp27.World} {raws : List Raw} {wt oc : List Int}
theorem RunAt.mono (R : RunAt K F H a A w raws wt oc) (e : ∀ b o, H b = some o → H' b = some o) : RunAt K F H' a A w raws wt oc where
  pl := R.pl
  fz := fun b o z => e b o (R.fz b o z)
  out := R.out
  run := by
    obtain ⟨dx, z⟩ := R.run
    exact ⟨dx, e _ _ z⟩
  rq := e _ _ R.rq
  lk := e _ _ R.lk
  op := e _ _ R.op
  dn := e _ _ R.dn
  fa := e _ _ R.fa
  wa := e _ _ R.wa
  oc_ := e _ _ R.oc_
  lrs := R.lrs
  lls := R.lls
  lwt := R.lwt
  loc := R.loc
  rqs := fun i p r h1 h2 => by
    obtain ⟨dx, z⟩ := R.rqs i p r h1 h2
    exact ⟨dx, e _ _ z⟩
  lks := fun i p r h1 h2 => by
    obtain ⟨dx, z⟩ := R.lks i p r h1 h2
    exact ⟨dx, e _ _ z⟩
  nd := R.nd
  ndr := R.ndr
  ndl := R.ndl
theorem RunAt.plan (R : RunAt K F H a A w raws wt oc) : ∃ P m, PlanAt K H A.pl P w.house m := by
  obtain ⟨P, m, h⟩ := R.pl
  exact ⟨P, m, h.mono R.fz⟩
/-- a service of the run's plan, its steps -/
theorem RunAt.svc (R : RunAt K F H a A w raws wt oc) {s : Nat} (hs : s < w.house.services.length) : ∃ sv ak gt ss p nm st, AtPlan K H A.pl sv ak gt ∧ H sv = some (.lst ss) ∧ ss[s]? = some (.ref p) ∧ AtService K H p nm (Cw.svc w.house s) st ∧ StepsAt H st (Cw.svc w.house s).steps := by
  obtain ⟨P, m, h⟩ := R.plan
  obtain ⟨p, nm, st, h1, _, h3, _, h5⟩ := h.svs s _ (Cw.svc_eq hs)
  exact ⟨_, _, _, _, p, nm, st, h.at_, h.sv, by rw [List.getElem?_map, h1]; rfl, h3, h5⟩
theorem RunAt.ask (R : RunAt K F H a A w raws wt oc) {s : Nat} (hs : s < w.house.asks.length) : ∃ sv ak gt ss p b, AtPlan K H A.pl sv ak gt ∧ H ak = some (.lst ss) ∧ ss[s]? = some (.ref p) ∧ AtAsk K H p (Cw.askOf w.house s) b := by
  obtain ⟨P, m, h⟩ := R.plan
  obtain ⟨p, b, h1, _, h3⟩ := h.aks s _ (Cw.askOf_eq hs)
  exact ⟨_, _, _, _, p, b, h.at_, h.ak, by rw [List.getElem?_map, h1]; rfl, h3⟩
theorem RunAt.gate (R : RunAt K F H a A w raws wt oc) {s : Nat} {e : Gp27.Entry} (hs : w.house.entries[s]? = some e) : ∃ sv ak gt ss p nm, AtPlan K H A.pl sv ak gt ∧ H gt = some (.lst ss) ∧ ss[s]? = some (.ref p) ∧ AtGate K H p nm e := by
  obtain ⟨P, m, h⟩ := R.plan
  obtain ⟨p, nm, h1, h3, _⟩ := h.gts s _ hs
  exact ⟨_, _, _, _, p, nm, h.at_, h.gt, by rw [List.getElem?_map, h1]; rfl, h3⟩
theorem map_at {α : Type} {l : List α} {i : Nat} {x : α} {f : α → V} (h : l[i]? = some x) : (l.map f)[i]? = some (f x) := by rw [List.getElem?_map, h]; rfl
theorem downV_at {s : Nat} (h : s < w.house.services.length) : (downV w)[s]? = some (.bl (w.down.contains s)) := by
  unfold downV
  exact map_at (List.getElem?_range h)
theorem slowV_at {s : Nat} (h : s < w.house.services.length) : (slowV w)[s]? = some (.int (Gp27.slowness w s : Nat)) := by
  unfold slowV
  exact map_at (List.getElem?_range h)
theorem map_bump {l : List Int} {s : Nat} {d : Int} : (Cw.bump l s d).map V.int = (l.map V.int).set s (V.int (l.getD s 0 + d)) := List.map_set
theorem getD_at {l : List Int} {s : Nat} (h : s < l.length) : (l.map V.int)[s]? = some (.int (l.getD s 0)) := by
  rw [List.getD_eq_getElem?_getD]
  exact map_at (by rw [List.getElem?_eq_getElem h]; rfl)
end
section
variable {P : Program} {w : World} {K : PySem.W.Frag} {mg : Str → Option Value} {base : Heap}
theorem pure_Request_init (T : Txt w K mg) (vs : List V) (H : Hp) (Q : VK) (E : XK) (h : sp_Request_init K vs H Q E) : t_Request_init K { nx := fun _ H' => Q .non H', rt := Q } (start N_Request_init vs) H := by
  obtain ⟨p, dx, s, e, d, rfl, hp, k⟩ := h
  refine ⟨_, rfl, _, rfl, p, _, dx, [], rfl, hp, T.c_Request, T.n_Request_service, (by show 0 < 1000; decide), ?_⟩
  refine ⟨_, rfl, _, rfl, p, _, dx, _, rfl, upd_same, T.c_Request, T.n_Request_entry, (by show 1 < 1000; decide), ?_⟩
  refine ⟨_, rfl, _, rfl, p, _, dx, _, rfl, upd_same, T.c_Request, T.n_Request_deadline, (by show 2 < 1000; decide), ?_⟩
  refine ⟨_, rfl, p, _, dx, _, rfl, upd_same, T.c_Request, T.n_Request_step, (by show 3 < 1000; decide), ?_⟩
  refine ⟨_, rfl, p, _, dx, _, rfl, upd_same, T.c_Request, T.n_Request_status, (by show 4 < 1000; decide), ?_⟩
  refine ⟨_, rfl, p, _, dx, _, rfl, upd_same, T.c_Request, T.n_Request_first, (by show 5 < 1000; decide), ?_⟩
  refine ⟨_, rfl, p, _, dx, _, rfl, upd_same, T.c_Request, T.n_Request_second, (by show 6 < 1000; decide), ?_⟩
  refine k _ ⟨dx, upd_same.trans ?_⟩ fun b o e hb => by rw [upd_ne hb, upd_ne hb, upd_ne hb, upd_ne hb, upd_ne hb, upd_ne hb, upd_ne hb]; exact e
  have e : putF "second" (V.int 0) (putF "first" (.int 0) (putF "status" (.int 5) (putF "step" (.int 0) (putF "deadline" (.int (d : Int)) (putF "entry" (.int (e : Int)) (putF "service" (.int (s : Int)) [])))))) = rqF ⟨s, e, d, 0, 5, 0, 0⟩ := by kernel_rfl
  rw [e]

theorem Ext.same {a : Addr} {A : Ad} {H H' : Hp} (e : ∀ b o, H b = some o → H' b = some o) : Ext a A A H H' := ⟨fun b o h n => ⟨e b o h, n⟩, ⟨rfl, rfl, rfl, rfl⟩, [], (List.append_nil _).symm⟩
theorem same_new {H : Hp} {p : Addr} {o : HO} (hp : H p = none) : ∀ b u, H b = some u → upd H p o b = some u := fun b u h => by
  rw [upd_ne (ne_of_none h hp)]
  exact h
theorem fr_upd {H : Hp} {p : Addr} {o : HO} : Fr1 p H (upd H p o) := fun b u h n => by
  rw [upd_ne n]
  exact h
theorem pure_Run_add_up (T : Txt w K mg) (vs : List V) (H : Hp) (Q : VK) (E : XK) (h : sp_Run_add_up K vs H Q E) : t_Run_add_up K { nx := fun _ H' => Q .non H', rt := Q } (start N_Run_add_up vs) H := by
  obtain ⟨a, q, F, A, w, raws, wt, oc, k, r, d, rfl, R, hq, hr, hs, kk⟩ := h
  have hq' := R.rqs k q r hq hr
  refine st_ifjd (Mid := fun H1 => RunAt K F H1 a A w raws (upW r d wt) oc ∧ Ext a A A H H1) (ans_t (val_eq (vrq_status T (val_var rfl) hq') val_c)) (fun hc N kN => ?_) (fun hc N kN => ?_) (fun H1 hM => ?_)
  · have h0 : r.status = 0 := by have := vi_eq.mp hc; omega
    refine st_augL (vrn_waiting T (val_var rfl) R.run) (vrq_service T (val_var rfl) hq') (val_var rfl) R.wa rfl (getD_at (by rw [R.lwt]; exact hs)) (kN _ ⟨R.setW (upd_same.trans ?_) Cw.upW_len fr_upd, Ext.one (own_lst (i := 5) rfl) fr_upd⟩)
    unfold upW
    rw [if_pos h0, map_bump]
  · refine kN H ⟨?_, Ext.refl⟩
    unfold upW
    rw [if_neg (fun z => hc (by rw [z]; rfl))]
    exact R
  · obtain ⟨R1, x1⟩ := hM
    have hq1 := R1.rqs k q r hq hr
    refine st_in (vrq_status T (val_var rfl) hq1) (va_cons val_c (va_cons val_c (va_cons val_c va_nil))) (by show 3 ≤ sizeLine; decide) rfl (fun hc p hp => ?_) (fun hc p hp => ?_)
    · have h0 : r.status = 1 ∨ r.status = 2 ∨ r.status = 3 := by
        have h1 : ((1 : Int) == (r.status : Int) || ((2 : Int) == (r.status : Int) || ((3 : Int) == (r.status : Int) || false))) = true := hc
        simp only [Bool.or_eq_true, beq_iff_eq, Bool.or_false] at h1
        omega
      have R2 := R1.mono (same_new (o := .tup [.int 1, .int 2, .int 3]) hp)
      have hq2 := R2.rqs k q r hq hr
      refine st_augL (vrn_occupied T (val_var rfl) R2.run) (vrq_service T (val_var rfl) hq2) (val_var rfl) R2.oc_ rfl (getD_at (by rw [R2.loc]; exact hs)) (kk _ (R2.setO (upd_same.trans ?_) Cw.upO_len fr_upd) ((x1.trans (Ext.same (same_new hp))).trans (Ext.one (own_lst (i := 6) rfl) fr_upd)))
      unfold upO
      rw [if_pos h0, map_bump]
    · refine kk _ ?_ (x1.trans (Ext.same (same_new hp)))
      have h0 : ¬ (r.status = 1 ∨ r.status = 2 ∨ r.status = 3) := by
        have h1 : ((1 : Int) == (r.status : Int) || ((2 : Int) == (r.status : Int) || ((3 : Int) == (r.status : Int) || false))) = false := hc
        simp only [Bool.or_eq_false_iff, beq_eq_false_iff_ne] at h1
        omega
      unfold upO
      rw [if_neg h0]
      exact R1.mono (same_new hp)
theorem pure_Run_put (T : Txt w K mg) (vs : List V) (H : Hp) (Q : VK) (E : XK) (h : sp_Run_put K vs H Q E) : t_Run_put K { nx := fun _ H' => Q .non H', rt := Q } (start N_Run_put vs) H := by
  obtain ⟨a, q, F, A, w, raws, wt, oc, k, r, x, y, z, rfl, R, hq, hr, hs, kk⟩ := h
  obtain ⟨dx, e⟩ := id R.run
  have hk : k < raws.length := (List.getElem?_eq_some_iff.mp hr).1
  have ow : Own a A q := .inr (.inr (.inl (List.mem_of_getElem? hq)))
  refine st_mt (val_var rfl) e (rnF_m_add_up _ _) (va_cons (val_var rfl) (va_cons (val_neg val_c) va_nil)) ⟨a, q, F, A, w, raws, wt, oc, k, r, -1, rfl, R, hq, hr, hs, fun H1 R1 x1 => ?_⟩
  refine srq_status T (n := x) (val_var rfl) (val_var rfl) (R1.rqs k q r hq hr) fun H2 h2 f2 _ => ?_
  refine srq_first T (n := y) (val_var rfl) (val_var rfl) h2 fun H3 h3 f3 _ => ?_
  refine srq_second T (n := z) (val_var rfl) (val_var rfl) h3 fun H4 h4 f4 _ => ?_
  have f := Fr1.trans (Fr1.trans f2 f3) f4
  have R4 := R1.setR hq h4 f
  obtain ⟨dx4, e4⟩ := id R4.run
  refine st_mt (val_var rfl) e4 (rnF_m_add_up _ _) (va_cons (val_var rfl) (va_cons val_c va_nil)) ⟨a, q, F, A, w, _, _, _, k, putRaw r x y z, 1, rfl, R4, hq, List.getElem?_set_self hk, hs, fun H5 R5 x5 => ?_⟩
  exact kk H5 R5 ((x1.trans (Ext.one ow f)).trans x5)
theorem pure_Run_is_full (T : Txt w K mg) (vs : List V) (H : Hp) (Q : VK) (E : XK) (h : sp_Run_is_full K vs H Q E) : t_Run_is_full K { nx := fun _ H' => Q .non H', rt := Q } (start N_Run_is_full vs) H := by
  obtain ⟨a, F, A, w, raws, s, rfl, R, hs, kk⟩ := h
  obtain ⟨sv, ak, gt, ss, p, nm, st, h1, h2, h3, h4, h5⟩ := R.svc hs
  refine st_set (val_ix (vpl_services T (vrn_plan T (val_var rfl) R.run) h1) (val_var rfl) (SqL.of h2) rfl h3) ?_
  refine (val_to (val_ge (val_add (val_ix (vrn_waiting T (val_var rfl) R.run) (val_var rfl) (SqL.of R.wa) rfl (map_at (Cw.waitsOf_at hs))) (val_ix (vrn_occupied T (val_var rfl) R.run) (val_var rfl) (SqL.of R.oc_) rfl (map_at (Cw.occsOf_at hs))))
    (val_add (vsv_workers T (val_var rfl) h4) (vsv_queue T (val_var rfl) h4))) ?_) _ kk
  refine congrArg V.bl (decide_eq_decide.mpr ?_)
  have e : Gp27.serviceAt w s = Cw.svc w.house s := rfl
  rw [e]
  omega
/-- put, over the world: the request's state becomes s -/
theorem put_W {H : Hp} {Q : VK} {E : XK} {a q : Addr} {F : Hp} {A : Ad} {w : Gp27.World} {k : Nat} {s : Gp27.State} {x y z : Int} (R : RunW K F H a A w) (hk : k < w.requests.length) (hq : A.rs[k]? = some q) (hs : (Gp27.reqAt w k).service < w.house.services.length)
    (hx : x = (Cw.cd1 s : Nat)) (hy : y = (Cw.cd2 s : Nat)) (hz : z = (Cw.cd3 s : Nat)) (kk : ∀ H' : Hp, RunW K F H' a A (Gp27.setReq w k { Gp27.reqAt w k with state := s }) → Ext a A A H H' → Q .non H') : sp_Run_put K [.ref a, .ref q, .int x, .int y, .int z] H Q E := by
  subst hx hy hz
  refine ⟨a, q, F, A, w, _, _, _, k, rawOf (Gp27.reqAt w k), _, _, _, rfl, R, hq, ?_, hs, fun H' R' x' => kk H' ?_ x'⟩
  · unfold rawsOf
    rw [List.getElem?_map, Cw.reqAt_eq hk]
    rfl
  · have e1 := Cw.put_raws (w := w) (k := k) (r := { Gp27.reqAt w k with state := s })
    have e2 := Cw.put_waits (w := w) (k := k) (r := { Gp27.reqAt w k with state := s }) hk rfl hs
    have e3 := Cw.put_occs (w := w) (k := k) (r := { Gp27.reqAt w k with state := s }) hk rfl hs
    show RunAt K F H' a A _ _ _ _
    rw [e1, e2, e3]
    exact RunAt.cong R' rfl rfl rfl rfl rfl
theorem pure_Run_create (T : Txt w K mg) (vs : List V) (H : Hp) (Q : VK) (E : XK) (h : sp_Run_create K vs H Q E) : t_Run_create K { nx := fun _ H' => Q .non H', rt := Q } (start N_Run_create vs) H := by
  obtain ⟨a, F, A, w, s, d, e, rfl, R, hs, hn, kk⟩ := h
  refine st_mkset (va_cons (val_var rfl) (va_cons (val_var rfl) (va_cons (val_var rfl) va_nil))) fun x dx nx nd ne => ⟨x, dx, s, Cw.entN e, d, rfl, upd_same, fun H1 h1 f1 => ⟨rfl, ?_⟩⟩
  have s1 : ∀ b o, H b = some o → H1 b = some o := fun b o hb => f1 b o (by rw [upd_ne (ne_of_none hb nx), upd_ne (ne_of_none hb nd)]; exact hb) (ne_of_none hb nx)
  have R1 := R.mono s1
  have lr : A.rs.length = w.requests.length := R.lrs.trans (by unfold rawsOf; rw [List.length_map])
  refine st_app (vrn_requests T (val_var rfl) R1.run) (val_var rfl) R1.rq (by rw [List.length_map, lr]; exact Nat.lt_of_le_of_lt hn (by decide)) ?_
  have nxq : x ≠ A.rq := ne_rq_lst h1 R1.rq
  have hx2 : AtRequest K (upd H1 A.rq (.lst (A.rs.map V.ref ++ [V.ref x]))) x ⟨s, Cw.entN e, d, 0, 5, 0, 0⟩ := by
    obtain ⟨dy, e⟩ := h1
    exact ⟨dy, by rw [upd_ne nxq]; exact e⟩
  have f2 : Fr1 A.rq H (upd H1 A.rq (.lst (A.rs.map V.ref ++ [V.ref x]))) := fun b o hb n => by
    rw [upd_ne n]
    exact s1 b o hb
  have R2 := R.addR nx hx2 (upd_same.trans (by rw [List.map_append]; rfl)) f2
  have X2 : Ext a A { A with rs := A.rs ++ [x] } H (upd H1 A.rq (.lst (A.rs.map V.ref ++ [V.ref x]))) := by
    refine ⟨fun b o hb n => ⟨f2 b o hb (by rintro rfl; exact n (own_lst (i := 0) rfl)), ?_⟩, ⟨rfl, rfl, rfl, rfl⟩, [x], rfl⟩
    rintro (h | h | h | h)
    · exact n (.inl h)
    · exact n (.inr (.inl h))
    · rcases List.mem_append.mp (show b ∈ A.rs ++ [x] from h) with h | h
      · exact n (.inr (.inr (.inl h)))
      · rw [List.mem_singleton.mp h] at hb
        rw [nx] at hb
        cases hb
    · exact n (.inr (.inr (.inr h)))
  have lw : (rawsOf w).length = w.requests.length := by unfold rawsOf; rw [List.length_map]
  generalize upd H1 A.rq (.lst (A.rs.map V.ref ++ [V.ref x])) = H2 at R2 X2
  have hget : ({ A with rs := A.rs ++ [x] } : Ad).rs[w.requests.length]? = some x := by
    show (A.rs ++ [x])[w.requests.length]? = some x
    rw [← lr, List.getElem?_append_right (Nat.le_refl _), Nat.sub_self] <;> rfl
  have hget2 : (rawsOf w ++ [(⟨s, Cw.entN e, d, 0, 5, 0, 0⟩ : Raw)])[w.requests.length]? = some ⟨s, Cw.entN e, d, 0, 5, 0, 0⟩ := by
    rw [← lw, List.getElem?_append_right (Nat.le_refl _), Nat.sub_self] <;> rfl
  have fin : ∀ (st : Gp27.State) (x1 y1 z1 : Int) (N : Hp → Prop), Cw.newSt w s = st → x1 = (Cw.cd1 st : Nat) → y1 = (Cw.cd2 st : Nat) → z1 = (Cw.cd3 st : Nat) → (∀ H', (RunW K F H' a { A with rs := A.rs ++ [x] } (Gp27.comes w s e d) ∧ Ext a A { A with rs := A.rs ++ [x] } H H') → N H') →
      sp_Run_put K [.ref a, .ref x, .int x1, .int y1, .int z1] H2 (fun _ H' => N H') E0 := by
    rintro st x1 y1 z1 N hst rfl rfl rfl hN
    refine ⟨a, x, F, _, w, _, _, _, w.requests.length, _, _, _, _, rfl, R2, hget, hget2, hs, fun H' R' x' => hN H' ⟨?_, X2.trans x'⟩⟩
    have e1 := Cw.come_raws (w := w) (s := s) (e := e) (d := d)
    have e2 := Cw.come_waits (w := w) (s := s) (e := e) (d := d) hs
    have e3 := Cw.come_occs (w := w) (s := s) (e := e) (d := d)
    have er : putRaw ⟨s, Cw.entN e, d, 0, 5, 0, 0⟩ (Cw.cd1 st) (Cw.cd2 st) (Cw.cd3 st) = rawOf (Cw.newReq w s e d) := by
      rw [← hst]
      rfl
    have es : (rawsOf w ++ [(⟨s, Cw.entN e, d, 0, 5, 0, 0⟩ : Raw)]).set w.requests.length (rawOf (Cw.newReq w s e d)) = rawsOf w ++ [rawOf (Cw.newReq w s e d)] := by
      rw [← lw, List.set_append_right _ _ (Nat.le_refl _), Nat.sub_self] <;> rfl
    have ew : upW ⟨s, Cw.entN e, d, 0, 5, 0, 0⟩ (-1) (waitsOf w) = waitsOf w := if_neg (show ¬ (5 : Nat) = 0 by decide)
    have eo : upO ⟨s, Cw.entN e, d, 0, 5, 0, 0⟩ (-1) (occsOf w) = occsOf w := if_neg (show ¬ ((5 : Nat) = 1 ∨ (5 : Nat) = 2 ∨ (5 : Nat) = 3) by decide)
    rw [er, es, ew, eo] at R'
    have eo2 : upO (rawOf (Cw.newReq w s e d)) 1 (occsOf w) = occsOf w := by
      refine if_neg ?_
      show ¬ (Cw.cd1 (Cw.newSt w s) = 1 ∨ Cw.cd1 (Cw.newSt w s) = 2 ∨ Cw.cd1 (Cw.newSt w s) = 3)
      unfold Cw.newSt
      split
      · decide
      · split <;> decide
    rw [eo2] at R'
    show RunAt K F H' a _ _ _ _ _
    rw [e1, e2, e3]
    exact RunAt.cong R' rfl rfl rfl rfl rfl
  obtain ⟨dy, ey⟩ := id R2.run
  refine st_ifj (Mid := fun H' => RunW K F H' a { A with rs := A.rs ++ [x] } (Gp27.comes w s e d) ∧ Ext a A { A with rs := A.rs ++ [x] } H H') (ans_b (val_ix (vrn_down T (val_var rfl) R2.run) (val_var rfl) (SqL.of R2.dn) rfl (downV_at hs))) (fun hc N kN => ?_) (fun hc N kN => ?_) (fun H' hM => ?_)
  · refine st_mt (val_var rfl) ey (rnF_m_put _ _) (va_cons (val_var rfl) (va_cons val_c (va_cons val_c (va_cons val_c va_nil)))) (fin (.over 4) _ _ _ _ ?_ rfl rfl rfl kN)
    unfold Cw.newSt
    rw [if_pos hc]
  · have hc' : ¬ w.down.contains s = true := by rw [hc]; decide
    refine st_ifd (p := (Gp27.serviceAt w s).queue + (Gp27.serviceAt w s).workers ≤ Gp27.queued w s + Gp27.working w s) (fun Q q => e_mt (val_var rfl) ey (rnF_m_is_full _ _) (va_cons (val_var rfl) va_nil) ⟨a, F, _, w, _, s, rfl, R2, hs, ⟨_, rfl, q⟩⟩) (fun hf => ?_) (fun hf => ?_)
    · refine st_mt (val_var rfl) ey (rnF_m_put _ _) (va_cons (val_var rfl) (va_cons val_c (va_cons val_c (va_cons val_c va_nil)))) (fin (.over 3) _ _ _ _ ?_ rfl rfl rfl kN)
      unfold Cw.newSt
      rw [if_neg hc', if_pos hf]
    · refine st_mt (val_var rfl) ey (rnF_m_put _ _) (va_cons (val_var rfl) (va_cons val_c (va_cons val_c (va_cons val_c va_nil)))) (fin .queued _ _ _ _ ?_ rfl rfl rfl kN)
      unfold Cw.newSt
      rw [if_neg hc', if_neg hf]
  · obtain ⟨R', x'⟩ := hM
    refine (val_to (val_sub (val_len (vrn_requests T (val_var rfl) R'.run) (SqL.of R'.rq)) val_c) ?_) _ (kk H' _ R' x')
    refine congrArg V.int ?_
    rw [List.length_map]
    show (((A.rs ++ [x]).length : Nat) : Int) - 1 = _
    rw [List.length_append, lr]
    show ((w.requests.length + 1 : Nat) : Int) - 1 = _
    omega
theorem ok_Request_init (T : Txt w K mg) : Has P w K mg base 1 (He.fAd K ("Request", some "__init__")) ["self", "service", "entry", "deadline"] (sp_Request_init K) := by
  refine Has.of (T.d_Request_init) sc_Request_init (fun _ _ _ _ _ _ us hl => match us, hl with | [_, _, _, _], _ => rfl) len_Request_init (t_Request_init K) (fun cdv A outer s H E hr => ?_) (pure_Request_init T)
  have nd := sc_Request_init.nd
  exact (pss_cons (ps_fld (pw 0) (pw 1) rfl)
      (pss_cons (ps_fld (pw 0) (pw 2) rfl)
      (pss_cons (ps_fld (pw 0) (pw 3) rfl)
      (pss_cons (ps_fld (pw 0) pe_int rfl)
      (pss_cons (ps_fld (pw 0) (pe_gi rfl T.i_NEW) rfl)
      (pss_cons (ps_fld (pw 0) pe_int rfl)
      (pss_one (ps_fld (pw 0) pe_int rfl))))))))
theorem ok_Run_add_up (T : Txt w K mg) : Has P w K mg base 1 (He.fAd K ("Run", some "add_up")) ["self", "request", "change"] (sp_Run_add_up K) := by
  refine Has.of (T.d_Run_add_up) sc_Run_add_up (fun _ _ _ _ _ _ us hl => match us, hl with | [_, _, _], _ => rfl) len_Run_add_up (t_Run_add_up K) (fun cdv A outer s H E hr => ?_) (pure_Run_add_up T)
  have nd := sc_Run_add_up.nd
  exact (pss_cons (ps_if (pt_cmpR op_eq (pe_fld (pw 1) rfl) (pe_gi rfl T.i_WAITING) (nomark _)) (pss_one (ps_augS (pe_fld (pw 0) rfl) (pe_fld (pw 1) rfl) get_list (pw 2) ip_add set_list)) pss_nil)
      (pss_one (ps_if (pt_cmpR op_in_seq (pe_fld (pw 1) rfl) (pe_tup (pa_cons (pe_gi rfl T.i_WORKING) (pa_cons (pe_gi rfl T.i_READY) (pa_cons (pe_gi rfl T.i_CALLING) pa_nil)))) rfl) (pss_one (ps_augS (pe_fld (pw 0) rfl) (pe_fld (pw 1) rfl) get_list (pw 2) ip_add set_list)) pss_nil)))
theorem ok_Run_put (T : Txt w K mg) : Has P w K mg base 2 (He.fAd K ("Run", some "put")) ["self", "request", "status", "first", "second"] (sp_Run_put K) := by
  have G_Run_add_up := ok_Run_add_up (P := P) (base := base) T
  refine Has.of (T.d_Run_put) sc_Run_put (fun _ _ _ _ _ _ us hl => match us, hl with | [_, _, _, _, _], _ => rfl) len_Run_put (t_Run_put K) (fun cdv A outer s H E hr => ?_) (pure_Run_put T)
  have nd := sc_Run_put.nd
  exact (pss_cons (ps_expr (pe_mt (pw 0) T.c_Run T.m_Run_add_up G_Run_add_up (hr.mono (by decide)) (pa_cons (pw 1) (pa_cons (pe_un un_neg pe_int) pa_nil))))
      (pss_cons (ps_fld (pw 1) (pw 2) rfl)
      (pss_cons (ps_fld (pw 1) (pw 3) rfl)
      (pss_cons (ps_fld (pw 1) (pw 4) rfl)
      (pss_one (ps_expr (pe_mt (pw 0) T.c_Run T.m_Run_add_up G_Run_add_up (hr.mono (by decide)) (pa_cons (pw 1) (pa_cons pe_int pa_nil)))))))))
theorem ok_Run_is_full (T : Txt w K mg) : Has P w K mg base 1 (He.fAd K ("Run", some "is_full")) ["self", "service"] (sp_Run_is_full K) := by
  refine Has.of (T.d_Run_is_full) sc_Run_is_full (fun _ _ _ _ _ _ us hl => match us, hl with | [_, _], _ => rfl) len_Run_is_full (t_Run_is_full K) (fun cdv A outer s H E hr => ?_) (pure_Run_is_full T)
  have nd := sc_Run_is_full.nd
  exact (pss_cons (ps_set (i := 2) nd rfl (Or.inl rfl) (pe_ix ix_list (pe_fld (pe_fld (pw 0) rfl) rfl) (pw 1) (fun _ _ => rfl)))
      (pss_one (ps_ret (pe_cmpR op_ge (pe_op op_add (pe_ix ix_list (pe_fld (pw 0) rfl) (pw 1) (fun _ _ => rfl)) (pe_ix ix_list (pe_fld (pw 0) rfl) (pw 1) (fun _ _ => rfl))) (pe_op op_add (pe_fld (pw 2) rfl) (pe_fld (pw 2) rfl)) (nomark _)))))
theorem ok_Run_create (T : Txt w K mg) : Has P w K mg base 4 (He.fAd K ("Run", some "create")) ["self", "service", "entry", "deadline"] (sp_Run_create K) := by
  have G_Request_init := ok_Request_init (P := P) (base := base) T
  have G_Run_put := ok_Run_put (P := P) (base := base) T
  have G_Run_is_full := ok_Run_is_full (P := P) (base := base) T
  refine Has.of (T.d_Run_create) sc_Run_create (fun _ _ _ _ _ _ us hl => match us, hl with | [_, _, _, _], _ => rfl) len_Run_create (t_Run_create K) (fun cdv A outer s H E hr => ?_) (pure_Run_create T)
  have nd := sc_Run_create.nd
  exact (pss_cons (ps_set (i := 4) nd rfl (Or.inl rfl) (pe_mk T.k_Request G_Request_init (hr.mono (by decide)) rfl T.g_Request (pa_cons (pw 1) (pa_cons (pw 2) (pa_cons (pw 3) pa_nil)))))
      (pss_cons (ps_expr (pe_bm PySem.F.plainAttrs_list PySem.F.slot_list_append PySem.F.type_list_append mt_append (pe_fld (pw 0) rfl) (pa_cons (pw 4) pa_nil)))
      (pss_cons (ps_if (pt_val (pe_ix ix_list (pe_fld (pw 0) rfl) (pw 1) (fun _ _ => rfl))) (pss_one (ps_expr (pe_mt (pw 0) T.c_Run T.m_Run_put G_Run_put (hr.mono (by decide)) (pa_cons (pw 4) (pa_cons (pe_gi rfl T.i_ENDED) (pa_cons (pe_gi rfl T.i_SERVICE_DOWN) (pa_cons pe_int pa_nil))))))) (pss_one (ps_if (pt_val (pe_mt (pw 0) T.c_Run T.m_Run_is_full G_Run_is_full (hr.mono (by decide)) (pa_cons (pw 1) pa_nil))) (pss_one (ps_expr (pe_mt (pw 0) T.c_Run T.m_Run_put G_Run_put (hr.mono (by decide)) (pa_cons (pw 4) (pa_cons (pe_gi rfl T.i_ENDED) (pa_cons (pe_gi rfl T.i_REJECTED) (pa_cons pe_int pa_nil))))))) (pss_one (ps_expr (pe_mt (pw 0) T.c_Run T.m_Run_put G_Run_put (hr.mono (by decide)) (pa_cons (pw 4) (pa_cons (pe_gi rfl T.i_WAITING) (pa_cons pe_int (pa_cons pe_int pa_nil))))))))))
      (pss_one (ps_ret (pe_op op_sub (pe_callB call_len_seq (by rfl) T.b_len PySem.boot_len (pa_cons (pe_fld (pw 0) rfl) pa_nil)) pe_int))))))
end
end Cc
end

/-! ## CcRunB -/
section
set_option maxRecDepth 100000
set_option maxHeartbeats 4000000
/-! Run: the steps of a request. -/
namespace Cc
open PySem PySem.Spec PyProof.Rows L2
open Cw (upW upO rawOf rawsOf waitsOf occsOf)
section
variable (K : PySem.W.Frag) (F H : Hp) (a q : Addr) (A : Ad) (w : Gp27.World) (k : Nat)
/-- the k-th request of the run at a stands at q -/
structure At1 : Prop where
  R : RunW K F H a A w
  hk : k < w.requests.length
  hq : A.rs[k]? = some q
  hs : Cw.HouseOk w.house
  sv : (Gp27.reqAt w k).service < w.house.services.length
end
abbrev stepsAt (w : Gp27.World) (k : Nat) : List Gp27.Step := (Cw.svc w.house (Gp27.reqAt w k).service).steps
def sp_Run_start_step (K : PySem.W.Frag) : Sp := fun vs H Q _ => ∃ (a q : Addr) (F : Hp) (A : Ad) (w : Gp27.World) (k : Nat), vs = [.ref a, .ref q] ∧ At1 K F H a q A w k ∧ (Gp27.reqAt w k).step ≤ (stepsAt w k).length ∧
  ∀ H' : Hp, RunW K F H' a A (Gp27.setReq w k { Gp27.reqAt w k with state := Gp27.begun w (Gp27.reqAt w k) }) → Ext a A A H H' → Q .non H'
def sp_Run_start_next_step (K : PySem.W.Frag) : Sp := fun vs H Q _ => ∃ (a q : Addr) (F : Hp) (A : Ad) (w : Gp27.World) (k : Nat), vs = [.ref a, .ref q] ∧ At1 K F H a q A w k ∧ (Gp27.reqAt w k).step < (stepsAt w k).length ∧
  ∀ H' : Hp, RunW K F H' a A (Gp27.onward w k) → Ext a A A H H' → Q .non H'
def sp_Run_ask_of (K : PySem.W.Frag) : Sp := fun vs H Q _ => ∃ (a q : Addr) (F : Hp) (A : Ad) (w : Gp27.World) (k i : Nat), vs = [.ref a, .ref q] ∧ At1 K F H a q A w k ∧ Cw.isAsk w.house (Gp27.reqAt w k) i ∧ Q (.int (i : Nat)) H
def sp_Run_note_failure (K : PySem.W.Frag) : Sp := fun vs H Q _ => ∃ (a q : Addr) (F : Hp) (A : Ad) (w : Gp27.World) (k i c t : Nat), vs = [.ref a, .ref q] ∧ At1 K F H a q A w k ∧ Cw.WOk w ∧ Cw.isAsk w.house (Gp27.reqAt w k) i ∧ (Gp27.reqAt w k).state = .asked c t ∧
  ∀ H' : Hp, RunW K F H' a A (Gp27.went w i false (some c)) → Ext a A A H H' → Q .non H'
def sp_Run_stop (K : PySem.W.Frag) : Sp := fun vs H Q _ => ∃ (a q : Addr) (F : Hp) (A : Ad) (w : Gp27.World) (k how : Nat), vs = [.ref a, .ref q, .int (how : Int)] ∧ At1 K F H a q A w k ∧ Cw.WOk w ∧
  ∀ H' : Hp, RunW K F H' a A (Cw.stopW w k how) → Ext a A A H H' → Q .non H'
def sp_Run_fail_try (K : PySem.W.Frag) : Sp := fun vs H Q _ => ∃ (a q : Addr) (F : Hp) (A : Ad) (w : Gp27.World) (k i t : Nat), vs = [.ref a, .ref q] ∧ At1 K F H a q A w k ∧ Cw.WOk w ∧ Cw.isAsk w.house (Gp27.reqAt w k) i ∧ Cw.cd3 (Gp27.reqAt w k).state = t ∧
  ∀ H' : Hp, RunW K F H' a A (Gp27.tried w k i t) → Ext a A A H H' → Q .non H'
def sp_Run_make_call (K : PySem.W.Frag) : Sp := fun vs H Q _ => ∃ (a q : Addr) (F : Hp) (A : Ad) (w : Gp27.World) (k i f t : Nat), vs = [.ref a, .ref q] ∧ At1 K F H a q A w k ∧ Cw.WOk w ∧ w.requests.length ≤ 10000 ∧ Cw.isAsk w.house (Gp27.reqAt w k) i ∧ (Gp27.reqAt w k).state = .ready f t ∧
  ∀ (H' : Hp) (A' : Ad), RunW K F H' a A' (if w.now < f then w else Cw.callW w k i t) → Ext a A A' H H' → Q .non H'
def backW (w : Gp27.World) (k i c t : Nat) : Gp27.World := match (Gp27.reqAt w c).state with
  | .over 0 => Gp27.onward (Gp27.went w i true (some c)) k
  | .over _ => Gp27.tried (Gp27.went w i false (some c)) k i t
  | _ => w
def sp_Run_look_back (K : PySem.W.Frag) : Sp := fun vs H Q _ => ∃ (a q : Addr) (F : Hp) (A : Ad) (w : Gp27.World) (k i c t : Nat), vs = [.ref a, .ref q] ∧ At1 K F H a q A w k ∧ Cw.WOk w ∧ Cw.isAsk w.house (Gp27.reqAt w k) i ∧ (Gp27.reqAt w k).state = .asked c t ∧ c < w.requests.length ∧
  ∀ H' : Hp, RunW K F H' a A (backW w k i c t) → Ext a A A H H' → Q .non H'
def sp_Run_do_work (K : PySem.W.Frag) : Sp := fun vs H Q _ => ∃ (a q : Addr) (F : Hp) (A : Ad) (w : Gp27.World) (k n : Nat), vs = [.ref a, .ref q] ∧ At1 K F H a q A w k ∧ (Gp27.reqAt w k).state = .work n ∧ 1 ≤ n ∧ (Gp27.reqAt w k).step < (stepsAt w k).length ∧
  ∀ H' : Hp, RunW K F H' a A (if n ≤ 1 then Gp27.onward w k else Gp27.setReq w k { Gp27.reqAt w k with state := .work (n - 1) }) → Ext a A A H H' → Q .non H'
def sp_Run_go_on (K : PySem.W.Frag) : Sp := fun vs H Q _ => ∃ (a q : Addr) (F : Hp) (A : Ad) (w : Gp27.World) (k : Nat), vs = [.ref a, .ref q] ∧ RunW K F H a A w ∧ Cw.WOk w ∧ k < w.requests.length ∧ A.rs[k]? = some q ∧ w.requests.length ≤ 10000 ∧ ¬ Gp27.isOver (Gp27.reqAt w k) = true ∧
  ∀ (H' : Hp) (A' : Ad), RunW K F H' a A' (Gp27.oneReq w k) → Ext a A A' H H' → Q .non H'
section
variable {K : PySem.W.Frag}
theorem len_Run_start_step : ∀ vs H Q E, sp_Run_start_step K vs H Q E → vs.length = (["self", "request"] : List Str).length := by rintro _ _ _ _ ⟨_, _, _, _, _, _, rfl, _⟩; rfl
theorem len_Run_start_next_step : ∀ vs H Q E, sp_Run_start_next_step K vs H Q E → vs.length = (["self", "request"] : List Str).length := by rintro _ _ _ _ ⟨_, _, _, _, _, _, rfl, _⟩; rfl
theorem len_Run_ask_of : ∀ vs H Q E, sp_Run_ask_of K vs H Q E → vs.length = (["self", "request"] : List Str).length := by rintro _ _ _ _ ⟨_, _, _, _, _, _, _, rfl, _⟩; rfl
theorem len_Run_note_failure : ∀ vs H Q E, sp_Run_note_failure K vs H Q E → vs.length = (["self", "request"] : List Str).length := by rintro _ _ _ _ ⟨_, _, _, _, _, _, _, _, _, rfl, _⟩; rfl
theorem len_Run_stop : ∀ vs H Q E, sp_Run_stop K vs H Q E → vs.length = (["self", "request", "outcome"] : List Str).length := by rintro _ _ _ _ ⟨_, _, _, _, _, _, _, rfl, _⟩; rfl
theorem len_Run_fail_try : ∀ vs H Q E, sp_Run_fail_try K vs H Q E → vs.length = (["self", "request"] : List Str).length := by rintro _ _ _ _ ⟨_, _, _, _, _, _, _, _, rfl, _⟩; rfl
theorem len_Run_make_call : ∀ vs H Q E, sp_Run_make_call K vs H Q E → vs.length = (["self", "request"] : List Str).length := by rintro _ _ _ _ ⟨_, _, _, _, _, _, _, _, _, rfl, _⟩; rfl
theorem len_Run_look_back : ∀ vs H Q E, sp_Run_look_back K vs H Q E → vs.length = (["self", "request"] : List Str).length := by rintro _ _ _ _ ⟨_, _, _, _, _, _, _, _, _, rfl, _⟩; rfl
theorem len_Run_do_work : ∀ vs H Q E, sp_Run_do_work K vs H Q E → vs.length = (["self", "request"] : List Str).length := by rintro _ _ _ _ ⟨_, _, _, _, _, _, _, rfl, _⟩; rfl
theorem len_Run_go_on : ∀ vs H Q E, sp_Run_go_on K vs H Q E → vs.length = (["self", "request"] : List Str).length := by rintro _ _ _ _ ⟨_, _, _, _, _, _, rfl, _⟩; rfl
end
abbrev N_Run_start_step : List Str := ["self", "request", "steps", "kind", "number"]
theorem sc_Run_start_step : FnScope N_Run_start_step ["self", "request"] (defScope s_Run_start_step) := ⟨rfl, rfl, rfl, by decide +kernel, rfl, by decide +kernel, by decide +kernel⟩
def t_Run_start_step (K : PySem.W.Frag) : TS := (tSeq (tAsg (tFld K (tOp (rIxL K) (tFld K (tFld K (tVar 0) "plan") "services") (tFld K (tVar 1) "service")) "steps") (gName 2))
  (tSeq (tIfS (tTest (tOp rEq (tFld K (tVar 1) "step") (tCB (rLenQ K) (tCons (tVar 2) tNil)))) (tSeq (tDrop (tMeth (cRun K) "put" (sp_Run_put K) [] E0 (tVar 0) (tCons (tVar 1) (tCons (tC (.int (4))) (tCons (tC (.int (0))) (tCons (tC (.int 0)) tNil))))))
  tRetN) tNext)
  (tSeq (tAsg (tOp (rIxL K) (tVar 2) (tFld K (tVar 1) "step")) (gTup K 2 (gCons (gName 3) (gCons (gName 4) gNil))))
  (tIfS (tTest (tOp rEq (tVar 3) (tC (.int (0))))) (tDrop (tMeth (cRun K) "put" (sp_Run_put K) [] E0 (tVar 0) (tCons (tVar 1) (tCons (tC (.int (1))) (tCons (tOp rMulI (tVar 4) (tOp (rIxL K) (tFld K (tVar 0) "factors") (tFld K (tVar 1) "service"))) (tCons (tC (.int 0)) tNil)))))) (tDrop (tMeth (cRun K) "put" (sp_Run_put K) [] E0 (tVar 0) (tCons (tVar 1) (tCons (tC (.int (2))) (tCons (tFld K (tVar 0) "time") (tCons (tC (.int 0)) tNil))))))))))
abbrev N_Run_start_next_step : List Str := ["self", "request"]
theorem sc_Run_start_next_step : FnScope N_Run_start_next_step ["self", "request"] (defScope s_Run_start_next_step) := ⟨rfl, rfl, rfl, by decide +kernel, rfl, by decide +kernel, by decide +kernel⟩
def t_Run_start_next_step (K : PySem.W.Frag) : TS := (tSeq (sFld K (tVar 1) (tOp rAddI (tFld K (tVar 1) "step") (tC (.int 1))) "step")
  (tDrop (tMeth (cRun K) "start_step" (sp_Run_start_step K) [] E0 (tVar 0) (tCons (tVar 1) tNil))))
abbrev N_Run_ask_of : List Str := ["self", "request", "kind", "number"]
theorem sc_Run_ask_of : FnScope N_Run_ask_of ["self", "request"] (defScope s_Run_ask_of) := ⟨rfl, rfl, rfl, by decide +kernel, rfl, by decide +kernel, by decide +kernel⟩
def t_Run_ask_of (K : PySem.W.Frag) : TS := (tSeq (tAsg (tOp (rIxL K) (tFld K (tOp (rIxL K) (tFld K (tFld K (tVar 0) "plan") "services") (tFld K (tVar 1) "service")) "steps") (tFld K (tVar 1) "step")) (gTup K 2 (gCons (gName 2) (gCons (gName 3) gNil))))
  (tRet (tVar 3)))
abbrev N_Run_note_failure : List Str := ["self", "request", "number", "ask"]
theorem sc_Run_note_failure : FnScope N_Run_note_failure ["self", "request"] (defScope s_Run_note_failure) := ⟨rfl, rfl, rfl, by decide +kernel, rfl, by decide +kernel, by decide +kernel⟩
def t_Run_note_failure (K : PySem.W.Frag) : TS := (tSeq (tAsg (tMeth (cRun K) "ask_of" (sp_Run_ask_of K) [] E0 (tVar 0) (tCons (tVar 1) tNil)) (gName 2))
  (tSeq (tAsg (tOp (rIxL K) (tFld K (tFld K (tVar 0) "plan") "asks") (tVar 2)) (gName 3))
  (tDrop (tMeth (cLink K) "note_failure" (sp_Link_note_failure K) [] E0 (tOp (rIxL K) (tFld K (tVar 0) "links") (tVar 2)) (tCons (tFld K (tVar 1) "first") (tCons (tFld K (tVar 3) "limit") (tCons (tOp rAddI (tFld K (tVar 0) "time") (tFld K (tVar 3) "span")) tNil)))))))
abbrev N_Run_stop : List Str := ["self", "request", "outcome"]
theorem sc_Run_stop : FnScope N_Run_stop ["self", "request", "outcome"] (defScope s_Run_stop) := ⟨rfl, rfl, rfl, by decide +kernel, rfl, by decide +kernel, by decide +kernel⟩
def t_Run_stop (K : PySem.W.Frag) : TS := (tSeq (tIfS (tTest (tOp rEq (tFld K (tVar 1) "status") (tC (.int (3))))) (tDrop (tMeth (cRun K) "note_failure" (sp_Run_note_failure K) [] E0 (tVar 0) (tCons (tVar 1) tNil))) tNext)
  (tDrop (tMeth (cRun K) "put" (sp_Run_put K) [] E0 (tVar 0) (tCons (tVar 1) (tCons (tC (.int (4))) (tCons (tVar 2) (tCons (tC (.int 0)) tNil)))))))
section
variable {P : Program} {w : World} {K : PySem.W.Frag} {mg : Str → Option Value} {base : Heap}
theorem At1.raw {F H : Hp} {a q : Addr} {A : Ad} {w : Gp27.World} {k : Nat} (x : At1 K F H a q A w k) : AtRequest K H q (rawOf (Gp27.reqAt w k)) :=
  x.R.rqs k q _ x.hq (by unfold rawsOf; rw [List.getElem?_map, Cw.reqAt_eq x.hk]; rfl)
theorem RunW.raw {F H : Hp} {a q : Addr} {A : Ad} {w : Gp27.World} {k : Nat} (R : RunW K F H a A w) (hk : k < w.requests.length) (hq : A.rs[k]? = some q) : AtRequest K H q (rawOf (Gp27.reqAt w k)) :=
  R.rqs k q _ hq (by unfold rawsOf; rw [List.getElem?_map, Cw.reqAt_eq hk]; rfl)
theorem pure_Run_start_step (T : Txt w K mg) (vs : List V) (H : Hp) (Q : VK) (E : XK) (h : sp_Run_start_step K vs H Q E) : t_Run_start_step K { nx := fun _ H' => Q .non H', rt := Q } (start N_Run_start_step vs) H := by
  obtain ⟨a, q, F, A, w, k, rfl, x, hst, kk⟩ := h
  have R := x.R
  have hr := x.raw
  obtain ⟨dx, e⟩ := id R.run
  obtain ⟨sv, ak, gt, ss, p, nm, st, h1, h2, h3, h4, ts, h5, h6, h7⟩ := R.svc x.sv
  refine st_set (vsv_steps T (val_ix (vpl_services T (vrn_plan T (val_var rfl) R.run) h1) (vrq_service T (val_var rfl) hr) (SqL.of h2) rfl h3) h4) ?_
  refine st_ifd (ans_t (val_eq (vrq_step T (val_var rfl) hr) (val_len (val_var rfl) (SqL.of h5)))) (fun hc => ?_) (fun hc => ?_)
  · have hl : (Gp27.reqAt w k).step = (stepsAt w k).length := by
      have h8 := vi_eq.mp hc
      rw [List.length_map, h6] at h8
      exact Int.ofNat.inj h8
    refine st_mt (val_var rfl) e (rnF_m_put _ _) (va_cons (val_var rfl) (va_cons val_c (va_cons val_c (va_cons val_c va_nil)))) (put_W (s := .over 0) R x.hk x.hq x.sv rfl rfl rfl fun H' R' x' => kk H' ?_ x')
    have eb : Gp27.begun w (Gp27.reqAt w k) = .over 0 := by
      unfold Gp27.begun
      rw [show (Gp27.serviceAt w (Gp27.reqAt w k).service).steps[(Gp27.reqAt w k).step]? = none from List.getElem?_eq_none (Nat.le_of_eq hl.symm)]
    rw [eb]
    exact R'
  · have hlt : (Gp27.reqAt w k).step < (stepsAt w k).length := by
      refine Nat.lt_of_le_of_ne hst fun z => hc ?_
      rw [List.length_map, h6]
      exact congrArg (fun n : Nat => V.int (n : Int)) z
    have es : (stepsAt w k)[(Gp27.reqAt w k).step]? = some ((stepsAt w k)[(Gp27.reqAt w k).step]) := List.getElem?_eq_getElem hlt
    cases hx : (stepsAt w k)[(Gp27.reqAt w k).step] with
    | work n =>
      rw [hx] at es
      obtain ⟨t, e1, e2⟩ := h7 _ _ es
      have hn := x.hs.wk _ (Cw.svc_mem x.sv) n (List.mem_of_getElem? es)
      refine st_tup2 (val_ix (val_var rfl) (vrq_step T (val_var rfl) hr) (SqL.of h5) rfl (map_at e1)) (SqT.of e2) ?_
      refine st_ifd (ans_t (val_eq (val_var rfl) val_c)) (fun _ => ?_) (fun hc => absurd rfl hc)
      refine st_mt (val_var rfl) e (rnF_m_put _ _) (va_cons (val_var rfl) (va_cons val_c (va_cons (val_mul (val_var rfl) (val_ix (vrn_factors T (val_var rfl) R.run) (vrq_service T (val_var rfl) hr) (SqL.of R.fa) rfl (slowV_at x.sv)) (.inl ⟨by omega, by omega⟩)) (va_cons val_c va_nil))))
        (put_W (s := .work (n * Gp27.slowness w (Gp27.reqAt w k).service)) R x.hk x.hq x.sv rfl (Int.natCast_mul _ _).symm rfl fun H' R' x' => kk H' ?_ x')
      have eb : Gp27.begun w (Gp27.reqAt w k) = .work (n * Gp27.slowness w (Gp27.reqAt w k).service) := by
        unfold Gp27.begun
        rw [show (Gp27.serviceAt w (Gp27.reqAt w k).service).steps[(Gp27.reqAt w k).step]? = some (.work n) from es]
      rw [eb]
      exact R'
    | ask i =>
      rw [hx] at es
      obtain ⟨t, e1, e2⟩ := h7 _ _ es
      refine st_tup2 (val_ix (val_var rfl) (vrq_step T (val_var rfl) hr) (SqL.of h5) rfl (map_at e1)) (SqT.of e2) ?_
      refine st_ifd (ans_t (val_eq (val_var rfl) val_c)) (fun hc => ?_) (fun _ => ?_)
      · exact absurd (vi_eq.mp hc) (by decide)
      refine st_mt (val_var rfl) e (rnF_m_put _ _) (va_cons (val_var rfl) (va_cons val_c (va_cons (vrn_time T (val_var rfl) R.run) (va_cons val_c va_nil)))) (put_W (s := .ready w.now 0) R x.hk x.hq x.sv rfl rfl rfl fun H' R' x' => kk H' ?_ x')
      have eb : Gp27.begun w (Gp27.reqAt w k) = .ready w.now 0 := by
        unfold Gp27.begun
        rw [show (Gp27.serviceAt w (Gp27.reqAt w k).service).steps[(Gp27.reqAt w k).step]? = some (.ask i) from es]
      rw [eb]
      exact R'
theorem pure_Run_start_next_step (T : Txt w K mg) (vs : List V) (H : Hp) (Q : VK) (E : XK) (h : sp_Run_start_next_step K vs H Q E) : t_Run_start_next_step K { nx := fun _ H' => Q .non H', rt := Q } (start N_Run_start_next_step vs) H := by
  obtain ⟨a, q, F, A, w, k, rfl, x, hlt, kk⟩ := h
  refine srq_step T (n := (Gp27.reqAt w k).step + 1) (val_to (val_add (vrq_step T (val_var rfl) x.raw) val_c) rfl) (val_var rfl) x.raw fun H1 h1 f1 _ => ?_
  have er : Gp27.reqAt (Gp27.setReq w k { Gp27.reqAt w k with step := (Gp27.reqAt w k).step + 1 }) k = { Gp27.reqAt w k with step := (Gp27.reqAt w k).step + 1 } := by rw [Cw.reqAt_setReq x.hk, if_pos rfl]
  have R1 : RunW K F H1 a A (Gp27.setReq w k { Gp27.reqAt w k with step := (Gp27.reqAt w k).step + 1 }) := by
    have z := x.R.setR x.hq h1 f1
    show RunAt K F H1 a A _ _ _ _
    rw [Cw.put_raws, Cw.step_waits x.hk, Cw.step_occs x.hk]
    exact z.cong rfl rfl rfl rfl rfl
  obtain ⟨dx, e⟩ := id R1.run
  refine st_mt (val_var rfl) e (rnF_m_start_step _ _) (va_cons (val_var rfl) va_nil) ⟨a, q, F, A, _, k, rfl, ⟨R1, by rw [show (Gp27.setReq w k _).requests.length = w.requests.length from List.length_set]; exact x.hk, x.hq, x.hs, by rw [er]; exact x.sv⟩, by show (Gp27.reqAt _ k).step ≤ (Cw.svc _ (Gp27.reqAt _ k).service).steps.length; rw [er]; exact hlt, fun H' R' x' => kk H' ?_ (Ext.trans (Ext.one (.inr (.inr (.inl (List.mem_of_getElem? x.hq)))) f1) x')⟩
  rw [er, Cw.setReq_setReq] at R'
  exact R'
theorem At1.link {F H : Hp} {a q : Addr} {A : Ad} {w : Gp27.World} {k i : Nat} (x : At1 K F H a q A w k) (W : Cw.WOk w) (hi : i < w.house.asks.length) : ∃ p, A.ls[i]? = some p ∧ AtLink K H p (Gp27.linkAt w i) :=
  x.R.link (Cw.linkAt_eq (by rw [W.ll]; exact hi))
theorem RunW.setL {F H H' : Hp} {a p : Addr} {A : Ad} {w : Gp27.World} {i : Nat} {l : Gp27.Link} (R : RunW K F H a A w) (hp : A.ls[i]? = some p) (h : AtLink K H' p l) (f : Fr1 p H H') : RunW K F H' a A (Gp27.setLink w i l) := RunAt.setL R hp h f
theorem pure_Run_ask_of (T : Txt w K mg) (vs : List V) (H : Hp) (Q : VK) (E : XK) (h : sp_Run_ask_of K vs H Q E) : t_Run_ask_of K { nx := fun _ H' => Q .non H', rt := Q } (start N_Run_ask_of vs) H := by
  obtain ⟨a, q, F, A, w, k, i, rfl, x, ha, kk⟩ := h
  have R := x.R
  have hr := x.raw
  obtain ⟨sv, ak, gt, ss, p, nm, st, h1, h2, h3, h4, ts, h5, h6, h7⟩ := R.svc x.sv
  obtain ⟨t, e1, e2⟩ := h7 _ _ ha
  refine st_tup2 (val_ix (vsv_steps T (val_ix (vpl_services T (vrn_plan T (val_var rfl) R.run) h1) (vrq_service T (val_var rfl) hr) (SqL.of h2) rfl h3) h4) (vrq_step T (val_var rfl) hr) (SqL.of h5) rfl (map_at e1)) (SqT.of e2) ?_
  exact st_ret (val_var rfl) kk
theorem ask_val {F H : Hp} {a q : Addr} {A : Ad} {w : Gp27.World} {k i : Nat} {E : XK} {σ : L2.St} {j l : Nat} (x : At1 K F H a q A w k) (ha : Cw.isAsk w.house (Gp27.reqAt w k) i) (hj : σ[j]? = some (some (.ref a))) (hl : σ[l]? = some (some (.ref q))) :
    Val (tMeth (cRun K) "ask_of" (sp_Run_ask_of K) [] E (tVar j) (tCons (tVar l) tNil)) σ H (.int (i : Nat)) := fun Q z => by
  obtain ⟨dx, e⟩ := id x.R.run
  exact e_mt (val_var hj) e (rnF_m_ask_of _ _) (va_cons (val_var hl) va_nil) ⟨a, q, F, A, w, k, i, rfl, x, ha, z⟩
theorem pure_Run_note_failure (T : Txt w K mg) (vs : List V) (H : Hp) (Q : VK) (E : XK) (h : sp_Run_note_failure K vs H Q E) : t_Run_note_failure K { nx := fun _ H' => Q .non H', rt := Q } (start N_Run_note_failure vs) H := by
  obtain ⟨a, q, F, A, w, k, i, c, t, rfl, x, W, ha, hst, kk⟩ := h
  have R := x.R
  have hi := Cw.isAsk_lt W.hs x.sv ha
  obtain ⟨sv, ak, gt, ss, p, b, h1, h2, h3, h4⟩ := R.ask hi
  obtain ⟨lq, hls, hl⟩ := x.link W hi
  obtain ⟨dl, el⟩ := id hl
  refine st_set (ask_val x ha rfl rfl) ?_
  refine st_set (val_ix (vpl_asks T (vrn_plan T (val_var rfl) R.run) h1) (val_var rfl) (SqL.of h2) rfl h3) ?_
  refine st_mt (val_ix (vrn_links T (val_var rfl) R.run) (val_var rfl) (SqL.of R.lk) rfl (map_at hls)) el (lkF_m_note_failure _) (va_cons (val_to (y := .int (c : Nat)) (vrq_first T (val_var rfl) x.raw) (by show V.int (Cw.cd2 (Gp27.reqAt w k).state : Nat) = _; rw [hst]; rfl))
    (va_cons (vak_limit T (val_var rfl) h4) (va_cons (val_to (val_add (vrn_time T (val_var rfl) R.run) (vak_span T (val_var rfl) h4)) rfl) va_nil)))
    ⟨lq, Gp27.linkAt w i, c, (Gp27.askAt w i).fails, w.now + (Gp27.askAt w i).open_, rfl, hl, fun H' h' f' => kk H' ?_ (Ext.one (.inr (.inr (.inr (List.mem_of_getElem? hls)))) f')⟩
  rw [Cw.went_fail W hi]
  exact RunW.setL R hls h' f'
theorem pure_Run_stop (T : Txt w K mg) (vs : List V) (H : Hp) (Q : VK) (E : XK) (h : sp_Run_stop K vs H Q E) : t_Run_stop K { nx := fun _ H' => Q .non H', rt := Q } (start N_Run_stop vs) H := by
  obtain ⟨a, q, F, A, w, k, how, rfl, x, W, kk⟩ := h
  obtain ⟨dx, e⟩ := id x.R.run
  have S := (W.req x.hk).ok
  unfold Cw.StOk at S
  cases hst : (Gp27.reqAt w k).state with
  | asked c t =>
    rw [hst] at S
    obtain ⟨⟨i, ha⟩, _⟩ := S
    refine st_ifjd (Mid := fun H1 => RunW K F H1 a A (Gp27.went w i false (some c)) ∧ Ext a A A H H1) (ans_t (val_eq (vrq_status T (val_var rfl) x.raw) val_c)) (fun _ N kN => ?_) (fun hn => ?_) (fun H1 hM => ?_)
    · exact st_mt (val_var rfl) e (rnF_m_note_failure _ _) (va_cons (val_var rfl) va_nil) ⟨a, q, F, A, w, k, i, c, t, rfl, x, W, ha, hst, fun H' R' x' => kN H' ⟨R', x'⟩⟩
    · exact absurd (vi_eq.mpr (by show ((Cw.cd1 (Gp27.reqAt w k).state : Nat) : Int) = 3; rw [hst]; rfl)) hn
    · obtain ⟨R1, x1⟩ := hM
      obtain ⟨d1, e1⟩ := id R1.run
      refine st_mt (val_var rfl) e1 (rnF_m_put _ _) (va_cons (val_var rfl) (va_cons val_c (va_cons (val_var rfl) (va_cons val_c va_nil)))) (put_W (s := .over how) R1 (by rw [Cw.went_req.1]; exact x.hk) x.hq (by rw [Cw.reqAt_went, Cw.went_req.2.1]; exact x.sv) rfl rfl rfl fun H' R' x' => kk H' ?_ (x1.trans x'))
      rw [Cw.stop_a hst ha]
      rw [Cw.reqAt_went] at R'
      exact R'
  | _ =>
    have h3 : Cw.cd1 (Gp27.reqAt w k).state ≠ 3 := by rw [hst]; simp [Cw.cd1]
    refine st_ifjd (Mid := fun H1 => H1 = H) (ans_t (val_eq (vrq_status T (val_var rfl) x.raw) val_c)) (fun hc => ?_) (fun _ N kN => kN H rfl) (fun H1 hM => ?_)
    · exact absurd (Int.ofNat.inj (vi_eq.mp hc)) h3
    · subst hM
      refine st_mt (val_var rfl) e (rnF_m_put _ _) (va_cons (val_var rfl) (va_cons val_c (va_cons (val_var rfl) (va_cons val_c va_nil)))) (put_W (s := .over how) x.R x.hk x.hq x.sv rfl rfl rfl fun H' R' x' => kk H' ?_ x')
      rw [Cw.stop_o h3]
      exact R'
theorem ok_Run_start_step (T : Txt w K mg) : Has P w K mg base 4 (He.fAd K ("Run", some "start_step")) ["self", "request"] (sp_Run_start_step K) := by
  have G_Run_put := ok_Run_put (P := P) (base := base) T
  refine Has.of (T.d_Run_start_step) sc_Run_start_step (fun _ _ _ _ _ _ us hl => match us, hl with | [_, _], _ => rfl) len_Run_start_step (t_Run_start_step K) (fun cdv A outer s H E hr => ?_) (pure_Run_start_step T)
  have nd := sc_Run_start_step.nd
  exact (pss_cons (ps_set (i := 2) nd rfl (Or.inl rfl) (pe_fld (pe_ix ix_list (pe_fld (pe_fld (pw 0) rfl) rfl) (pe_fld (pw 1) rfl) (fun _ _ => rfl)) rfl))
      (pss_cons (ps_if (pt_cmpR op_eq (pe_fld (pw 1) rfl) (pe_callB call_len_seq (by rfl) T.b_len PySem.boot_len (pa_cons (pw 2) pa_nil)) (nomark _)) (pss_cons (ps_expr (pe_mt (pw 0) T.c_Run T.m_Run_put G_Run_put (hr.mono (by decide)) (pa_cons (pw 1) (pa_cons (pe_gi rfl T.i_ENDED) (pa_cons (pe_gi rfl T.i_SUCCESS) (pa_cons pe_int pa_nil))))))
      (pss_one ps_retN)) pss_nil)
      (pss_cons (ps_asg (pe_ix ix_list (pw 2) (pe_fld (pw 1) rfl) (fun _ _ => rfl)) (pg_tup rfl (pgs_cons (pg_name (i := 3) nd rfl (Or.inl rfl)) (pgs_cons (pg_name (i := 4) nd rfl (Or.inl rfl)) pgs_nil))))
      (pss_one (ps_if (pt_cmpR op_eq (pw 3) (pe_gi rfl T.i_WORK) (nomark _)) (pss_one (ps_expr (pe_mt (pw 0) T.c_Run T.m_Run_put G_Run_put (hr.mono (by decide)) (pa_cons (pw 1) (pa_cons (pe_gi rfl T.i_WORKING) (pa_cons (pe_op op_mul (pw 4) (pe_ix ix_list (pe_fld (pw 0) rfl) (pe_fld (pw 1) rfl) (fun _ _ => rfl))) (pa_cons pe_int pa_nil))))))) (pss_one (ps_expr (pe_mt (pw 0) T.c_Run T.m_Run_put G_Run_put (hr.mono (by decide)) (pa_cons (pw 1) (pa_cons (pe_gi rfl T.i_READY) (pa_cons (pe_fld (pw 0) rfl) (pa_cons pe_int pa_nil))))))))))))
theorem ok_Run_start_next_step (T : Txt w K mg) : Has P w K mg base 5 (He.fAd K ("Run", some "start_next_step")) ["self", "request"] (sp_Run_start_next_step K) := by
  have G_Run_start_step := ok_Run_start_step (P := P) (base := base) T
  refine Has.of (T.d_Run_start_next_step) sc_Run_start_next_step (fun _ _ _ _ _ _ us hl => match us, hl with | [_, _], _ => rfl) len_Run_start_next_step (t_Run_start_next_step K) (fun cdv A outer s H E hr => ?_) (pure_Run_start_next_step T)
  have nd := sc_Run_start_next_step.nd
  exact (pss_cons (ps_fld (pw 1) (pe_op op_add (pe_fld (pw 1) rfl) pe_int) rfl)
      (pss_one (ps_expr (pe_mt (pw 0) T.c_Run T.m_Run_start_step G_Run_start_step (hr.mono (by decide)) (pa_cons (pw 1) pa_nil)))))
theorem ok_Run_ask_of (T : Txt w K mg) : Has P w K mg base 1 (He.fAd K ("Run", some "ask_of")) ["self", "request"] (sp_Run_ask_of K) := by
  refine Has.of (T.d_Run_ask_of) sc_Run_ask_of (fun _ _ _ _ _ _ us hl => match us, hl with | [_, _], _ => rfl) len_Run_ask_of (t_Run_ask_of K) (fun cdv A outer s H E hr => ?_) (pure_Run_ask_of T)
  have nd := sc_Run_ask_of.nd
  exact (pss_cons (ps_asg (pe_ix ix_list (pe_fld (pe_ix ix_list (pe_fld (pe_fld (pw 0) rfl) rfl) (pe_fld (pw 1) rfl) (fun _ _ => rfl)) rfl) (pe_fld (pw 1) rfl) (fun _ _ => rfl)) (pg_tup rfl (pgs_cons (pg_name (i := 2) nd rfl (Or.inl rfl)) (pgs_cons (pg_name (i := 3) nd rfl (Or.inl rfl)) pgs_nil))))
      (pss_one (ps_ret (pw 3))))
theorem ok_Run_note_failure (T : Txt w K mg) : Has P w K mg base 2 (He.fAd K ("Run", some "note_failure")) ["self", "request"] (sp_Run_note_failure K) := by
  have G_Run_ask_of := ok_Run_ask_of (P := P) (base := base) T
  have G_Link_note_failure := ok_Link_note_failure (P := P) (base := base) T
  refine Has.of (T.d_Run_note_failure) sc_Run_note_failure (fun _ _ _ _ _ _ us hl => match us, hl with | [_, _], _ => rfl) len_Run_note_failure (t_Run_note_failure K) (fun cdv A outer s H E hr => ?_) (pure_Run_note_failure T)
  have nd := sc_Run_note_failure.nd
  exact (pss_cons (ps_set (i := 2) nd rfl (Or.inl rfl) (pe_mt (pw 0) T.c_Run T.m_Run_ask_of G_Run_ask_of (hr.mono (by decide)) (pa_cons (pw 1) pa_nil)))
      (pss_cons (ps_set (i := 3) nd rfl (Or.inl rfl) (pe_ix ix_list (pe_fld (pe_fld (pw 0) rfl) rfl) (pw 2) (fun _ _ => rfl)))
      (pss_one (ps_expr (pe_mt (pe_ix ix_list (pe_fld (pw 0) rfl) (pw 2) (fun _ _ => rfl)) T.c_Link T.m_Link_note_failure G_Link_note_failure (hr.mono (by decide)) (pa_cons (pe_fld (pw 1) rfl) (pa_cons (pe_fld (pw 3) rfl) (pa_cons (pe_op op_add (pe_fld (pw 0) rfl) (pe_fld (pw 3) rfl)) pa_nil))))))))
theorem ok_Run_stop (T : Txt w K mg) : Has P w K mg base 4 (He.fAd K ("Run", some "stop")) ["self", "request", "outcome"] (sp_Run_stop K) := by
  have G_Run_note_failure := ok_Run_note_failure (P := P) (base := base) T
  have G_Run_put := ok_Run_put (P := P) (base := base) T
  refine Has.of (T.d_Run_stop) sc_Run_stop (fun _ _ _ _ _ _ us hl => match us, hl with | [_, _, _], _ => rfl) len_Run_stop (t_Run_stop K) (fun cdv A outer s H E hr => ?_) (pure_Run_stop T)
  have nd := sc_Run_stop.nd
  exact (pss_cons (ps_if (pt_cmpR op_eq (pe_fld (pw 1) rfl) (pe_gi rfl T.i_CALLING) (nomark _)) (pss_one (ps_expr (pe_mt (pw 0) T.c_Run T.m_Run_note_failure G_Run_note_failure (hr.mono (by decide)) (pa_cons (pw 1) pa_nil)))) pss_nil)
      (pss_one (ps_expr (pe_mt (pw 0) T.c_Run T.m_Run_put G_Run_put (hr.mono (by decide)) (pa_cons (pw 1) (pa_cons (pe_gi rfl T.i_ENDED) (pa_cons (pw 2) (pa_cons pe_int pa_nil))))))))
end
end Cc
end

/-! ## CcRunC -/
section
set_option maxRecDepth 100000
set_option maxHeartbeats 4000000
/-! Run: tries of calls, one request in a tick. -/
namespace Cc
open PySem PySem.Spec PyProof.Rows L2
open Cw (upW upO rawOf rawsOf waitsOf occsOf)
abbrev N_Run_fail_try : List Str := ["self", "request", "number", "ask"]
theorem sc_Run_fail_try : FnScope N_Run_fail_try ["self", "request"] (defScope s_Run_fail_try) := ⟨rfl, rfl, rfl, by decide +kernel, rfl, by decide +kernel, by decide +kernel⟩
def t_Run_fail_try (K : PySem.W.Frag) : TS := (tSeq (tAsg (tMeth (cRun K) "ask_of" (sp_Run_ask_of K) [] E0 (tVar 0) (tCons (tVar 1) tNil)) (gName 2))
  (tSeq (tAsg (tOp (rIxL K) (tFld K (tFld K (tVar 0) "plan") "asks") (tVar 2)) (gName 3))
  (tIfS (tAnd (tTest (tOp rLtI (tOp rAddI (tFld K (tVar 1) "second") (tC (.int 1))) (tFld K (tVar 3) "tries"))) (tB (tMeth (cLink K) "pay" (sp_Link_pay K) [] E0 (tOp (rIxL K) (tFld K (tVar 0) "links") (tVar 2)) (tCons (tFld K (tVar 3) "cost") tNil)))) (tDrop (tMeth (cRun K) "put" (sp_Run_put K) [] E0 (tVar 0) (tCons (tVar 1) (tCons (tC (.int (2))) (tCons (tOp rAddI (tFld K (tVar 0) "time") (tFld K (tVar 3) "wait")) (tCons (tOp rAddI (tFld K (tVar 1) "second") (tC (.int 1))) tNil)))))) (tIfS (tB (tOp (rIxL K) (tFld K (tVar 0) "optional") (tVar 2))) (tDrop (tMeth (cRun K) "start_next_step" (sp_Run_start_next_step K) [] E0 (tVar 0) (tCons (tVar 1) tNil))) (tDrop (tMeth (cRun K) "put" (sp_Run_put K) [] E0 (tVar 0) (tCons (tVar 1) (tCons (tC (.int (4))) (tCons (tC (.int (1))) (tCons (tC (.int 0)) tNil))))))))))
abbrev N_Run_make_call : List Str := ["self", "request", "number", "ask", "made"]
theorem sc_Run_make_call : FnScope N_Run_make_call ["self", "request"] (defScope s_Run_make_call) := ⟨rfl, rfl, rfl, by decide +kernel, rfl, by decide +kernel, by decide +kernel⟩
def t_Run_make_call (K : PySem.W.Frag) : TS := (tSeq (tIfS (tTest (tOp rGtI (tFld K (tVar 1) "first") (tFld K (tVar 0) "time"))) tRetN tNext)
  (tSeq (tAsg (tMeth (cRun K) "ask_of" (sp_Run_ask_of K) [] E0 (tVar 0) (tCons (tVar 1) tNil)) (gName 2))
  (tSeq (tAsg (tOp (rIxL K) (tFld K (tFld K (tVar 0) "plan") "asks") (tVar 2)) (gName 3))
  (tSeq (tIfS (tTest (tOp rEq (tFld K (tVar 1) "second") (tC (.int 0)))) (tDrop (tMeth (cLink K) "earn" (sp_Link_earn K) [] E0 (tOp (rIxL K) (tFld K (tVar 0) "links") (tVar 2)) tNil)) tNext)
  (tSeq (tIfS (tB (tMeth (cLink K) "is_stopped" (sp_Link_is_stopped K) [] E0 (tOp (rIxL K) (tFld K (tVar 0) "links") (tVar 2)) (tCons (tFld K (tVar 0) "time") tNil))) (tSeq (tDrop (tMeth (cRun K) "fail_try" (sp_Run_fail_try K) [] E0 (tVar 0) (tCons (tVar 1) tNil)))
  tRetN) tNext)
  (tSeq (tAsg (tMeth (cRun K) "create" (sp_Run_create K) [] E0 (tVar 0) (tCons (tFld K (tVar 3) "target") (tCons (tC (.int 0)) (tCons (tCB rMinI (tCons (tOp rAddI (tFld K (tVar 0) "time") (tFld K (tVar 3) "timeout")) (tCons (tFld K (tVar 1) "deadline") tNil))) tNil)))) (gName 4))
  (tSeq (tDrop (tMeth (cLink K) "note_made" (sp_Link_note_made K) [] E0 (tOp (rIxL K) (tFld K (tVar 0) "links") (tVar 2)) (tCons (tVar 4) tNil)))
  (tDrop (tMeth (cRun K) "put" (sp_Run_put K) [] E0 (tVar 0) (tCons (tVar 1) (tCons (tC (.int (3))) (tCons (tVar 4) (tCons (tFld K (tVar 1) "second") tNil)))))))))))))
section
variable {P : Program} {w : World} {K : PySem.W.Frag} {mg : Str → Option Value} {base : Heap}
theorem mayV_at {h : Gp27.House} {i : Nat} (hi : i < h.asks.length) : (mayV h)[i]? = some (.bl (Cw.askOf h i).may) := map_at (Cw.askOf_eq hi)
theorem pure_Run_fail_try (T : Txt w K mg) (vs : List V) (H : Hp) (Q : VK) (E : XK) (h : sp_Run_fail_try K vs H Q E) : t_Run_fail_try K { nx := fun _ H' => Q .non H', rt := Q } (start N_Run_fail_try vs) H := by
  obtain ⟨a, q, F, A, w, k, i, t, rfl, x, W, ha, ht, kk⟩ := h
  have R := x.R
  have hi := Cw.isAsk_lt W.hs x.sv ha
  obtain ⟨dx, e⟩ := id R.run
  obtain ⟨sv, ak, gt, ss, p, b, h1, h2, h3, h4⟩ := R.ask hi
  obtain ⟨lq, hls, hl⟩ := x.link W hi
  obtain ⟨dl, el⟩ := id hl
  refine st_set (ask_val x ha rfl rfl) ?_
  refine st_set (val_ix (vpl_asks T (vrn_plan T (val_var rfl) R.run) h1) (val_var rfl) (SqL.of h2) rfl h3) ?_
  have hsec : ∀ σ : L2.St, σ[1]? = some (some (.ref q)) → Val (tFld K (tVar 1) "second") σ H (.int (t : Nat)) := fun σ hσ => val_to (vrq_second T (val_var hσ) x.raw) (by show V.int (Cw.cd3 (Gp27.reqAt w k).state : Nat) = _; rw [ht])
  -- no retry
  have no : ¬ (t + 1 < (Gp27.askAt w i).tries ∧ (Gp27.askAt w i).cost ≤ (Gp27.linkAt w i).tokens) → tIfS (tB (tOp (rIxL K) (tFld K (tVar 0) "optional") (tVar 2))) (tDrop (tMeth (cRun K) "start_next_step" (sp_Run_start_next_step K) [] E0 (tVar 0) (tCons (tVar 1) tNil))) (tDrop (tMeth (cRun K) "put" (sp_Run_put K) [] E0 (tVar 0) (tCons (tVar 1) (tCons (tC (.int (4))) (tCons (tC (.int (1))) (tCons (tC (.int 0)) tNil))))))
      { nx := fun _ H' => Q .non H', rt := Q } [some (.ref a), some (.ref q), some (.int (i : Nat)), some (.ref p)] H := fun hn => by
    have et : Gp27.tried w k i t = if (Gp27.askAt w i).may = true then Gp27.onward w k else Gp27.setReq w k { Gp27.reqAt w k with state := .over 1 } := by
      unfold Gp27.tried
      dsimp only
      rw [if_neg hn]
    refine st_if (b := (Gp27.askAt w i).may) (ans_b (val_ix (vrn_optional T (val_var rfl) R.run) (val_var rfl) (SqL.of R.op) rfl (mayV_at hi))) (fun hm => ?_) (fun hm => ?_)
    · rw [if_pos hm] at et
      exact st_mt (val_var rfl) e (rnF_m_start_next_step _ _) (va_cons (val_var rfl) va_nil) ⟨a, q, F, A, w, k, rfl, x, Cw.isAsk_step ha, fun H' R' x' => kk H' (by rw [et]; exact R') x'⟩
    · rw [if_neg (by rw [hm]; decide)] at et
      exact st_mt (val_var rfl) e (rnF_m_put _ _) (va_cons (val_var rfl) (va_cons val_c (va_cons val_c (va_cons val_c va_nil)))) (put_W (s := .over 1) R x.hk x.hq x.sv rfl rfl rfl fun H' R' x' => kk H' (by rw [et]; exact R') x')
  -- second + 1 < tries and pay
  refine (ans_t (val_lt (val_add (hsec _ rfl) val_c) (vak_tries T (val_var rfl) h4))) _ ?_
  by_cases hlt : t + 1 < (Gp27.askAt w i).tries
  · have d1 : decide (((t : Nat) : Int) + 1 < ((Cw.askOf w.house i).tries : Int)) = true := decide_eq_true (by show ((t : Nat) : Int) + 1 < ((Gp27.askAt w i).tries : Int); omega)
    rw [d1]
    refine iteT ?_
    refine e_mt (val_ix (vrn_links T (val_var rfl) R.run) (val_var rfl) (SqL.of R.lk) rfl (map_at hls)) el (lkF_m_pay _) (va_cons (vak_cost T (val_var rfl) h4) va_nil) ⟨lq, Gp27.linkAt w i, (Gp27.askAt w i).cost, rfl, hl, fun hc => ?_, fun hc H1 h' f' => ?_⟩
    · refine ⟨false, rfl, iteF ?_⟩
      exact no (fun z => absurd z.2 (by omega))
    · refine ⟨true, rfl, iteT ?_⟩
      have R1 := RunW.setL R hls h' f'
      have x1 : Ext a A A H H1 := Ext.one (.inr (.inr (.inr (List.mem_of_getElem? hls)))) f'
      obtain ⟨d1, e1⟩ := id R1.run
      have h4' : AtAsk K H1 p (Cw.askOf w.house i) b := by
        obtain ⟨dp, ep⟩ := h4
        refine ⟨dp, f' _ _ ep ?_⟩
        exact ne_of ep el (head_ne (by decide +kernel))
      have hr1 := RunW.raw R1 x.hk x.hq
      have hsec1 : Val (tFld K (tVar 1) "second") [some (.ref a), some (.ref q), some (.int (i : Nat)), some (.ref p)] H1 (.int (t : Nat)) := val_to (vrq_second T (val_var rfl) hr1) (by show V.int (Cw.cd3 (Gp27.reqAt w k).state : Nat) = _; rw [ht])
      refine st_mt (val_var rfl) e1 (rnF_m_put _ _) (va_cons (val_var rfl) (va_cons val_c (va_cons (val_add (vrn_time T (val_var rfl) R1.run) (vak_wait T (val_var rfl) h4')) (va_cons (val_add hsec1 val_c) va_nil))))
        (put_W (s := .ready (w.now + (Gp27.askAt w i).wait) (t + 1)) R1 x.hk x.hq x.sv rfl rfl rfl fun H' R' x' => kk H' ?_ (x1.trans x'))
      unfold Gp27.tried
      dsimp only
      rw [if_pos ⟨hlt, hc⟩]
      exact R'
  · have d1 : decide (((t : Nat) : Int) + 1 < ((Cw.askOf w.house i).tries : Int)) = false := decide_eq_false (by show ¬ ((t : Nat) : Int) + 1 < ((Gp27.askAt w i).tries : Int); omega)
    rw [d1]
    refine iteF (iteF ?_)
    exact no (fun z => absurd z.1 hlt)
theorem RunAt.askF {F H : Hp} {a : Addr} {A : Ad} {w : Gp27.World} {raws : List Raw} {wt oc : List Int} (R : RunAt K F H a A w raws wt oc) {s : Nat} (hs : s < w.house.asks.length) : ∃ sv ak gt ss p b, AtPlan K H A.pl sv ak gt ∧ H ak = some (.lst ss) ∧ ss[s]? = some (.ref p) ∧ AtAsk K F p (Cw.askOf w.house s) b := by
  obtain ⟨P, m, h⟩ := R.pl
  have h' := h.mono R.fz
  obtain ⟨p, b, h1, _, h3⟩ := h.aks s _ (Cw.askOf_eq hs)
  exact ⟨_, _, _, _, p, b, h'.at_, h'.ak, by rw [List.getElem?_map, h1]; rfl, h3⟩
theorem AtAsk.up {F H : Hp} {p : Addr} {x : Gp27.Ask} {b : Bool} (h : AtAsk K F p x b) (e : ∀ b o, F b = some o → H b = some o) : AtAsk K H p x b := by
  obtain ⟨d, z⟩ := h
  exact ⟨d, e _ _ z⟩
theorem RunW.linkW {F H : Hp} {a : Addr} {A : Ad} {w : Gp27.World} {i : Nat} (R : RunW K F H a A w) (W : Cw.WOk w) (hi : i < w.house.asks.length) : ∃ p, A.ls[i]? = some p ∧ AtLink K H p (Gp27.linkAt w i) := R.link (Cw.linkAt_eq (by rw [W.ll]; exact hi))
theorem pure_Run_make_call (T : Txt w K mg) (vs : List V) (H : Hp) (Q : VK) (E : XK) (h : sp_Run_make_call K vs H Q E) : t_Run_make_call K { nx := fun _ H' => Q .non H', rt := Q } (start N_Run_make_call vs) H := by
  obtain ⟨a, q, F, A, w, k, i, f, t, rfl, x, W, hn, ha, hst, kk⟩ := h
  have R := x.R
  have hi := Cw.isAsk_lt W.hs x.sv ha
  have hf : ∀ (σ : L2.St) (H1 : Hp), σ[1]? = some (some (.ref q)) → AtRequest K H1 q (rawOf (Gp27.reqAt w k)) → Val (tFld K (tVar 1) "first") σ H1 (.int (f : Nat)) := fun σ H1 hσ hr => val_to (vrq_first T (val_var hσ) hr) (by show V.int (Cw.cd2 (Gp27.reqAt w k).state : Nat) = _; rw [hst]; rfl)
  have hsec : ∀ (σ : L2.St) (H1 : Hp), σ[1]? = some (some (.ref q)) → AtRequest K H1 q (rawOf (Gp27.reqAt w k)) → Val (tFld K (tVar 1) "second") σ H1 (.int (t : Nat)) := fun σ H1 hσ hr => val_to (vrq_second T (val_var hσ) hr) (by show V.int (Cw.cd3 (Gp27.reqAt w k).state : Nat) = _; rw [hst]; rfl)
  refine st_ifd (ans_t (val_gt (hf _ _ rfl x.raw) (vrn_time T (val_var rfl) R.run))) (fun hc => ?_) (fun hc => ?_)
  · refine kk H A ?_ Ext.refl
    rw [if_pos (by omega)]
    exact R
  rw [if_neg (by omega)] at kk
  obtain ⟨sv, ak, gt, ss, p, b, h1, h2, h3, h4⟩ := R.askF hi
  refine st_set (ask_val x ha rfl rfl) ?_
  refine st_set (val_ix (vpl_asks T (vrn_plan T (val_var rfl) R.run) h1) (val_var rfl) (SqL.of h2) rfl h3) ?_
  have W1 := Cw.earn_ok (t := t) W hi
  refine st_ifjd (Mid := fun H1 => RunW K F H1 a A (Cw.earnW w i t) ∧ Ext a A A H H1) (ans_t (val_eq (hsec _ _ rfl x.raw) val_c)) (fun hc N kN => ?_) (fun hc N kN => ?_) (fun H1 hM => ?_)
  · obtain ⟨lq, hls, hl⟩ := x.link W hi
    obtain ⟨dl, el⟩ := id hl
    have ht : t = 0 := by have := vi_eq.mp hc; omega
    refine st_mt (val_ix (vrn_links T (val_var rfl) R.run) (val_var rfl) (SqL.of R.lk) rfl (map_at hls)) el (lkF_m_earn _) va_nil ⟨lq, Gp27.linkAt w i, rfl, hl, fun H' h' f' => kN H' ⟨?_, Ext.one (.inr (.inr (.inr (List.mem_of_getElem? hls)))) f'⟩⟩
    unfold Cw.earnW
    rw [if_pos ht]
    exact RunW.setL R hls h' f'
  · refine kN H ⟨?_, Ext.refl⟩
    unfold Cw.earnW
    rw [if_neg (fun z => hc (by rw [z]; rfl))]
    exact R
  obtain ⟨R1, x1⟩ := hM
  obtain ⟨d1, e1⟩ := id R1.run
  have hi1 : i < (Cw.earnW w i t).house.asks.length := by rw [Cw.earn_house]; exact hi
  have hk1 : k < (Cw.earnW w i t).requests.length := by rw [Cw.earn_len]; exact x.hk
  have hsv1 : (Gp27.reqAt (Cw.earnW w i t) k).service < (Cw.earnW w i t).house.services.length := by rw [Cw.earn_house, Cw.earn_req]; exact x.sv
  have hr1 : AtRequest K H1 q (rawOf (Gp27.reqAt w k)) := by
    have z := RunW.raw R1 hk1 x.hq
    rw [Cw.earn_req] at z
    exact z
  obtain ⟨lq, hls, hl⟩ := R1.linkW W1 hi1
  obtain ⟨dl, el⟩ := id hl
  have h4' := h4.up R1.fz
  refine st_if (b := Cw.lkStopped (Gp27.linkAt (Cw.earnW w i t) i) (Cw.earnW w i t).now) (fun Q z => e_mt (val_ix (vrn_links T (val_var rfl) R1.run) (val_var rfl) (SqL.of R1.lk) rfl (map_at hls)) el (lkF_m_is_stopped _) (va_cons (vrn_time T (val_var rfl) R1.run) va_nil) ⟨lq, _, _, rfl, hl, _, rfl, z⟩) (fun hs => ?_) (fun hs => ?_)
  · have hl0 : Gp27.lets (Cw.earnW w i t) i = false := by rw [Cw.lets_eq, hs]; rfl
    refine st_mt (val_var rfl) e1 (rnF_m_fail_try _ _) (va_cons (val_var rfl) va_nil) ⟨a, q, F, A, _, k, i, t, rfl, ⟨R1, hk1, x.hq, W1.hs, hsv1⟩, W1, by rw [Cw.earn_house, Cw.earn_req]; exact ha, by rw [Cw.earn_req, hst]; rfl, fun H' R' x' => kk H' A ?_ (x1.trans x')⟩
    unfold Cw.callW
    rw [if_pos hl0]
    exact R'
  have hl0 : ¬ Gp27.lets (Cw.earnW w i t) i = false := by rw [Cw.lets_eq, hs]; decide
  have hask : Gp27.askAt (Cw.earnW w i t) i = Cw.askOf w.house i := by show Cw.askOf (Cw.earnW w i t).house i = _; rw [Cw.earn_house]
  have hsw : (Gp27.askAt (Cw.earnW w i t) i).whom < (Cw.earnW w i t).house.services.length := W1.hs.tg _ (Cw.askOf_mem hi1)
  have hmin : (if (((rawOf (Gp27.reqAt w k)).deadline : Nat) : Int) < (((Cw.earnW w i t).now : Nat) : Int) + ((Cw.askOf w.house i).most : Nat) then (((rawOf (Gp27.reqAt w k)).deadline : Nat) : Int) else (((Cw.earnW w i t).now : Nat) : Int) + ((Cw.askOf w.house i).most : Nat)) = ((min (Gp27.reqAt w k).deadline ((Cw.earnW w i t).now + (Gp27.askAt (Cw.earnW w i t) i).most) : Nat) : Int) := by
    rw [hask]
    show (if (((Gp27.reqAt w k).deadline : Nat) : Int) < _ then (((Gp27.reqAt w k).deadline : Nat) : Int) else _) = _
    split <;> omega
  refine (fun z => e_mt (val_var rfl) e1 (rnF_m_create _ _) (va_cons (val_to (vak_target T (val_var rfl) h4') (by rw [← hask])) (va_cons val_c (va_cons (val_to (val_min (val_add (vrn_time T (val_var rfl) R1.run) (vak_timeout T (val_var rfl) h4')) (vrq_deadline T (val_var rfl) hr1)) (congrArg V.int hmin)) va_nil))) z : (_ → _)) ⟨a, F, A, _, _, _, none, rfl, R1, hsw, by rw [Cw.earn_len]; exact hn, fun H2 A2 R2 x2 => ?_⟩
  have W2 : Cw.WOk (Gp27.comes (Cw.earnW w i t) (Gp27.askAt (Cw.earnW w i t) i).whom none (min (Gp27.reqAt w k).deadline ((Cw.earnW w i t).now + (Gp27.askAt (Cw.earnW w i t) i).most))) := W1.comes hsw
  have hk2 : k < (Gp27.comes (Cw.earnW w i t) (Gp27.askAt (Cw.earnW w i t) i).whom none (min (Gp27.reqAt w k).deadline ((Cw.earnW w i t).now + (Gp27.askAt (Cw.earnW w i t) i).most))).requests.length := by rw [Cw.comes_len]; omega
  have hq2 : Gp27.reqAt (Gp27.comes (Cw.earnW w i t) (Gp27.askAt (Cw.earnW w i t) i).whom none (min (Gp27.reqAt w k).deadline ((Cw.earnW w i t).now + (Gp27.askAt (Cw.earnW w i t) i).most))) k = Gp27.reqAt w k := by rw [Cw.reqAt_comes hk1, Cw.earn_req]
  have hc : Cw.callW w k i t = Gp27.setReq (Cw.probeW (Gp27.comes (Cw.earnW w i t) (Gp27.askAt (Cw.earnW w i t) i).whom none (min (Gp27.reqAt w k).deadline ((Cw.earnW w i t).now + (Gp27.askAt (Cw.earnW w i t) i).most))) i (Cw.earnW w i t).requests.length) k { Gp27.reqAt w k with state := .asked (Cw.earnW w i t).requests.length t } := if_neg hl0
  rw [hc] at kk
  have hw2 : (Gp27.comes (Cw.earnW w i t) (Gp27.askAt (Cw.earnW w i t) i).whom none (min (Gp27.reqAt w k).deadline ((Cw.earnW w i t).now + (Gp27.askAt (Cw.earnW w i t) i).most))).house = w.house := Cw.earn_house
  have hi2 : i < (Gp27.comes (Cw.earnW w i t) (Gp27.askAt (Cw.earnW w i t) i).whom none (min (Gp27.reqAt w k).deadline ((Cw.earnW w i t).now + (Gp27.askAt (Cw.earnW w i t) i).most))).house.asks.length := hi1
  generalize (Gp27.comes (Cw.earnW w i t) (Gp27.askAt (Cw.earnW w i t) i).whom none (min (Gp27.reqAt w k).deadline ((Cw.earnW w i t).now + (Gp27.askAt (Cw.earnW w i t) i).most))) = w2 at R2 W2 hk2 hq2 kk hi2 hw2
  obtain ⟨lq2, hls2, hl2⟩ := R2.linkW W2 hi2
  obtain ⟨dl2, el2⟩ := id hl2
  have hg2 := x2.get x.hq
  refine st_mt (val_ix (vrn_links T (val_var rfl) R2.run) (val_var rfl) (SqL.of R2.lk) rfl (map_at hls2)) el2 (lkF_m_note_made _) (va_cons (val_var rfl) va_nil) ⟨lq2, _, _, rfl, hl2, fun H3 h5 f3 => ?_⟩
  have R3 : RunW K F H3 a A2 (Cw.probeW w2 i (Cw.earnW w i t).requests.length) := by
    have z := RunW.setL R2 hls2 h5 f3
    unfold Cw.probeW
    split
    · rename_i ho
      rw [if_pos ho, Cw.setLink_self (by rw [W2.ll]; exact hi2)] at z
      exact z
    · rename_i ho
      rw [if_neg ho] at z
      exact z
  have x3 : Ext a A2 A2 H2 H3 := Ext.one (.inr (.inr (.inr (List.mem_of_getElem? hls2)))) f3
  obtain ⟨d3, e3⟩ := id R3.run
  have hk3 : k < (Cw.probeW w2 i (Cw.earnW w i t).requests.length).requests.length := by rw [Cw.probe_len]; exact hk2
  have hr3 : AtRequest K H3 q (rawOf (Gp27.reqAt w k)) := by
    have z := RunW.raw R3 hk3 hg2
    rw [Cw.probe_req, hq2] at z
    exact z
  refine st_mt (val_var rfl) e3 (rnF_m_put _ _) (va_cons (val_var rfl) (va_cons val_c (va_cons (val_var rfl) (va_cons (hsec _ _ rfl hr3) va_nil)))) (put_W (s := .asked (Cw.earnW w i t).requests.length t) R3 hk3 hg2 (by rw [Cw.probe_req, hq2, Cw.probe_house, hw2]; exact x.sv) rfl rfl rfl fun H' R' x' => kk H' A2 ?_ ((x1.trans x2).trans (x3.trans x')))
  rw [Cw.probe_req, hq2] at R'
  exact R'
theorem ok_Run_fail_try (T : Txt w K mg) : Has P w K mg base 6 (He.fAd K ("Run", some "fail_try")) ["self", "request"] (sp_Run_fail_try K) := by
  have G_Run_ask_of := ok_Run_ask_of (P := P) (base := base) T
  have G_Link_pay := ok_Link_pay (P := P) (base := base) T
  have G_Run_put := ok_Run_put (P := P) (base := base) T
  have G_Run_start_next_step := ok_Run_start_next_step (P := P) (base := base) T
  refine Has.of (T.d_Run_fail_try) sc_Run_fail_try (fun _ _ _ _ _ _ us hl => match us, hl with | [_, _], _ => rfl) len_Run_fail_try (t_Run_fail_try K) (fun cdv A outer s H E hr => ?_) (pure_Run_fail_try T)
  have nd := sc_Run_fail_try.nd
  exact (pss_cons (ps_set (i := 2) nd rfl (Or.inl rfl) (pe_mt (pw 0) T.c_Run T.m_Run_ask_of G_Run_ask_of (hr.mono (by decide)) (pa_cons (pw 1) pa_nil)))
      (pss_cons (ps_set (i := 3) nd rfl (Or.inl rfl) (pe_ix ix_list (pe_fld (pe_fld (pw 0) rfl) rfl) (pw 2) (fun _ _ => rfl)))
      (pss_one (ps_if (PW.pt (pw_and (pt_cmpR op_lt (pe_op op_add (pe_fld (pw 1) rfl) pe_int) (pe_fld (pw 3) rfl) (nomark _)) (pw_and1 (pt_val (pe_mt (pe_ix ix_list (pe_fld (pw 0) rfl) (pw 2) (fun _ _ => rfl)) T.c_Link T.m_Link_pay G_Link_pay (hr.mono (by decide)) (pa_cons (pe_fld (pw 3) rfl) pa_nil)))))) (pss_one (ps_expr (pe_mt (pw 0) T.c_Run T.m_Run_put G_Run_put (hr.mono (by decide)) (pa_cons (pw 1) (pa_cons (pe_gi rfl T.i_READY) (pa_cons (pe_op op_add (pe_fld (pw 0) rfl) (pe_fld (pw 3) rfl)) (pa_cons (pe_op op_add (pe_fld (pw 1) rfl) pe_int) pa_nil))))))) (pss_one (ps_if (pt_val (pe_ix ix_list (pe_fld (pw 0) rfl) (pw 2) (fun _ _ => rfl))) (pss_one (ps_expr (pe_mt (pw 0) T.c_Run T.m_Run_start_next_step G_Run_start_next_step (hr.mono (by decide)) (pa_cons (pw 1) pa_nil)))) (pss_one (ps_expr (pe_mt (pw 0) T.c_Run T.m_Run_put G_Run_put (hr.mono (by decide)) (pa_cons (pw 1) (pa_cons (pe_gi rfl T.i_ENDED) (pa_cons (pe_gi rfl T.i_FAILED) (pa_cons pe_int pa_nil)))))))))))))
theorem ok_Run_make_call (T : Txt w K mg) : Has P w K mg base 7 (He.fAd K ("Run", some "make_call")) ["self", "request"] (sp_Run_make_call K) := by
  have G_Run_ask_of := ok_Run_ask_of (P := P) (base := base) T
  have G_Link_earn := ok_Link_earn (P := P) (base := base) T
  have G_Link_is_stopped := ok_Link_is_stopped (P := P) (base := base) T
  have G_Run_fail_try := ok_Run_fail_try (P := P) (base := base) T
  have G_Run_create := ok_Run_create (P := P) (base := base) T
  have G_Link_note_made := ok_Link_note_made (P := P) (base := base) T
  have G_Run_put := ok_Run_put (P := P) (base := base) T
  refine Has.of (T.d_Run_make_call) sc_Run_make_call (fun _ _ _ _ _ _ us hl => match us, hl with | [_, _], _ => rfl) len_Run_make_call (t_Run_make_call K) (fun cdv A outer s H E hr => ?_) (pure_Run_make_call T)
  have nd := sc_Run_make_call.nd
  exact (pss_cons (ps_if (pt_cmpR op_gt (pe_fld (pw 1) rfl) (pe_fld (pw 0) rfl) (nomark _)) (pss_one ps_retN) pss_nil)
      (pss_cons (ps_set (i := 2) nd rfl (Or.inl rfl) (pe_mt (pw 0) T.c_Run T.m_Run_ask_of G_Run_ask_of (hr.mono (by decide)) (pa_cons (pw 1) pa_nil)))
      (pss_cons (ps_set (i := 3) nd rfl (Or.inl rfl) (pe_ix ix_list (pe_fld (pe_fld (pw 0) rfl) rfl) (pw 2) (fun _ _ => rfl)))
      (pss_cons (ps_if (pt_cmpR op_eq (pe_fld (pw 1) rfl) pe_int (nomark _)) (pss_one (ps_expr (pe_mt0 (pe_ix ix_list (pe_fld (pw 0) rfl) (pw 2) (fun _ _ => rfl)) T.c_Link T.m_Link_earn G_Link_earn (hr.mono (by decide))))) pss_nil)
      (pss_cons (ps_if (pt_val (pe_mt (pe_ix ix_list (pe_fld (pw 0) rfl) (pw 2) (fun _ _ => rfl)) T.c_Link T.m_Link_is_stopped G_Link_is_stopped (hr.mono (by decide)) (pa_cons (pe_fld (pw 0) rfl) pa_nil))) (pss_cons (ps_expr (pe_mt (pw 0) T.c_Run T.m_Run_fail_try G_Run_fail_try (hr.mono (by decide)) (pa_cons (pw 1) pa_nil)))
      (pss_one ps_retN)) pss_nil)
      (pss_cons (ps_set (i := 4) nd rfl (Or.inl rfl) (pe_mt (pw 0) T.c_Run T.m_Run_create G_Run_create (hr.mono (by decide)) (pa_cons (pe_fld (pw 3) rfl) (pa_cons pe_int (pa_cons (pe_callB (call_min2 rfl) (by rfl) T.b_min (by decide +kernel) (pa_cons (pe_op op_add (pe_fld (pw 0) rfl) (pe_fld (pw 3) rfl)) (pa_cons (pe_fld (pw 1) rfl) pa_nil))) pa_nil)))))
      (pss_cons (ps_expr (pe_mt (pe_ix ix_list (pe_fld (pw 0) rfl) (pw 2) (fun _ _ => rfl)) T.c_Link T.m_Link_note_made G_Link_note_made (hr.mono (by decide)) (pa_cons (pw 4) pa_nil)))
      (pss_one (ps_expr (pe_mt (pw 0) T.c_Run T.m_Run_put G_Run_put (hr.mono (by decide)) (pa_cons (pw 1) (pa_cons (pe_gi rfl T.i_CALLING) (pa_cons (pw 4) (pa_cons (pe_fld (pw 1) rfl) pa_nil))))))))))))))
end
end Cc
end

/-! ## CcRunD -/
section
set_option maxRecDepth 100000
set_option maxHeartbeats 4000000
/-! Run: one request in a tick. -/
namespace Cc
open PySem PySem.Spec PyProof.Rows L2
open Cw (upW upO rawOf rawsOf waitsOf occsOf)
abbrev N_Run_look_back : List Str := ["self", "request", "made"]
theorem sc_Run_look_back : FnScope N_Run_look_back ["self", "request"] (defScope s_Run_look_back) := ⟨rfl, rfl, rfl, by decide +kernel, rfl, by decide +kernel, by decide +kernel⟩
def t_Run_look_back (K : PySem.W.Frag) : TS := (tSeq (tAsg (tOp (rIxL K) (tFld K (tVar 0) "requests") (tFld K (tVar 1) "first")) (gName 2))
  (tSeq (tIfS (tTest (tOp rNe (tFld K (tVar 2) "status") (tC (.int (4))))) tRetN tNext)
  (tIfS (tTest (tOp rEq (tFld K (tVar 2) "first") (tC (.int (0))))) (tSeq (tDrop (tMeth (cLink K) "note_success" (sp_Link_note_success K) [] E0 (tOp (rIxL K) (tFld K (tVar 0) "links") (tMeth (cRun K) "ask_of" (sp_Run_ask_of K) [] E0 (tVar 0) (tCons (tVar 1) tNil))) (tCons (tFld K (tVar 1) "first") tNil)))
  (tDrop (tMeth (cRun K) "start_next_step" (sp_Run_start_next_step K) [] E0 (tVar 0) (tCons (tVar 1) tNil)))) (tSeq (tDrop (tMeth (cRun K) "note_failure" (sp_Run_note_failure K) [] E0 (tVar 0) (tCons (tVar 1) tNil)))
  (tDrop (tMeth (cRun K) "fail_try" (sp_Run_fail_try K) [] E0 (tVar 0) (tCons (tVar 1) tNil)))))))
abbrev N_Run_do_work : List Str := ["self", "request"]
theorem sc_Run_do_work : FnScope N_Run_do_work ["self", "request"] (defScope s_Run_do_work) := ⟨rfl, rfl, rfl, by decide +kernel, rfl, by decide +kernel, by decide +kernel⟩
def t_Run_do_work (K : PySem.W.Frag) : TS := (tSeq (tDrop (tMeth (cRun K) "put" (sp_Run_put K) [] E0 (tVar 0) (tCons (tVar 1) (tCons (tC (.int (1))) (tCons (tOp rSubI (tFld K (tVar 1) "first") (tC (.int 1))) (tCons (tC (.int 0)) tNil))))))
  (tIfS (tTest (tOp rEq (tFld K (tVar 1) "first") (tC (.int 0)))) (tDrop (tMeth (cRun K) "start_next_step" (sp_Run_start_next_step K) [] E0 (tVar 0) (tCons (tVar 1) tNil))) tNext))
abbrev N_Run_go_on : List Str := ["self", "request"]
theorem sc_Run_go_on : FnScope N_Run_go_on ["self", "request"] (defScope s_Run_go_on) := ⟨rfl, rfl, rfl, by decide +kernel, rfl, by decide +kernel, by decide +kernel⟩
def t_Run_go_on (K : PySem.W.Frag) : TS := (tIfS (tTest (tOp rLeI (tFld K (tVar 1) "deadline") (tFld K (tVar 0) "time"))) (tDrop (tMeth (cRun K) "stop" (sp_Run_stop K) [] E0 (tVar 0) (tCons (tVar 1) (tCons (tC (.int (2))) tNil)))) (tIfS (tB (tOp (rIxL K) (tFld K (tVar 0) "down") (tFld K (tVar 1) "service"))) (tDrop (tMeth (cRun K) "stop" (sp_Run_stop K) [] E0 (tVar 0) (tCons (tVar 1) (tCons (tC (.int (4))) tNil)))) (tIfS (tTest (tOp rEq (tFld K (tVar 1) "status") (tC (.int (0))))) (tIfS (tTest (tOp rLtI (tOp (rIxL K) (tFld K (tVar 0) "occupied") (tFld K (tVar 1) "service")) (tFld K (tOp (rIxL K) (tFld K (tFld K (tVar 0) "plan") "services") (tFld K (tVar 1) "service")) "workers"))) (tDrop (tMeth (cRun K) "start_step" (sp_Run_start_step K) [] E0 (tVar 0) (tCons (tVar 1) tNil))) tNext) (tIfS (tTest (tOp rEq (tFld K (tVar 1) "status") (tC (.int (1))))) (tDrop (tMeth (cRun K) "do_work" (sp_Run_do_work K) [] E0 (tVar 0) (tCons (tVar 1) tNil))) (tIfS (tTest (tOp rEq (tFld K (tVar 1) "status") (tC (.int (2))))) (tDrop (tMeth (cRun K) "make_call" (sp_Run_make_call K) [] E0 (tVar 0) (tCons (tVar 1) tNil))) (tDrop (tMeth (cRun K) "look_back" (sp_Run_look_back K) [] E0 (tVar 0) (tCons (tVar 1) tNil))))))))
section
variable {P : Program} {w : World} {K : PySem.W.Frag} {mg : Str → Option Value} {base : Heap}
theorem RunW.at {F H : Hp} {a : Addr} {A : Ad} {w : Gp27.World} {k : Nat} (R : RunW K F H a A w) (hk : k < w.requests.length) : ∃ q, A.rs[k]? = some q ∧ AtRequest K H q (rawOf (Gp27.reqAt w k)) :=
  R.req (by unfold rawsOf; rw [List.getElem?_map, Cw.reqAt_eq hk]; rfl)
theorem pure_Run_look_back (T : Txt w K mg) (vs : List V) (H : Hp) (Q : VK) (E : XK) (h : sp_Run_look_back K vs H Q E) : t_Run_look_back K { nx := fun _ H' => Q .non H', rt := Q } (start N_Run_look_back vs) H := by
  obtain ⟨a, q, F, A, w, k, i, c, t, rfl, x, W, ha, hst, hc, kk⟩ := h
  have R := x.R
  have hi := Cw.isAsk_lt W.hs x.sv ha
  obtain ⟨dx, e⟩ := id R.run
  obtain ⟨qc, hqc, hrc⟩ := R.at hc
  have hf : ∀ (σ : L2.St), σ[1]? = some (some (.ref q)) → Val (tFld K (tVar 1) "first") σ H (.int (c : Nat)) := fun σ hσ => val_to (vrq_first T (val_var hσ) x.raw) (by show V.int (Cw.cd2 (Gp27.reqAt w k).state : Nat) = _; rw [hst]; rfl)
  refine st_set (val_ix (vrn_requests T (val_var rfl) R.run) (hf _ rfl) (SqL.of R.rq) rfl (map_at hqc)) ?_
  refine st_ifn (ans_t (val_ne (vrq_status T (val_var rfl) hrc) val_c)) (fun hn => ?_) (fun hn => ?_)
  · refine kk H ?_ Ext.refl
    unfold backW
    split
    · rename_i e1
      exact absurd (vi_eq.mpr (by show ((Cw.cd1 (Gp27.reqAt w c).state : Nat) : Int) = 4; rw [e1]; rfl)) hn
    · rename_i e1
      exact absurd (vi_eq.mpr (by show ((Cw.cd1 (Gp27.reqAt w c).state : Nat) : Int) = 4; rw [e1]; rfl)) hn
    · exact R
  have h4 : Cw.cd1 (Gp27.reqAt w c).state = 4 := Int.ofNat.inj (vi_eq.mp hn)
  cases hs : (Gp27.reqAt w c).state with
  | over how =>
    have hh : (rawOf (Gp27.reqAt w c)).first = how := by show Cw.cd2 (Gp27.reqAt w c).state = _; rw [hs]; rfl
    have ha' : ∀ ok, Cw.isAsk (Gp27.went w i ok (some c)).house (Gp27.reqAt (Gp27.went w i ok (some c)) k) i := fun ok => by
      rw [Cw.went_req.2.1, Cw.reqAt_went]
      exact ha
    have hk' : ∀ ok, k < (Gp27.went w i ok (some c)).requests.length := fun ok => by rw [Cw.went_req.1]; exact x.hk
    have x' : ∀ (ok : Bool) (H1 : Hp), RunW K F H1 a A (Gp27.went w i ok (some c)) → At1 K F H1 a q A (Gp27.went w i ok (some c)) k := fun ok H1 R1 => ⟨R1, hk' ok, x.hq, by rw [Cw.went_req.2.1]; exact x.hs, by rw [Cw.reqAt_went, Cw.went_req.2.1]; exact x.sv⟩
    refine st_ifd (p := how = 0) (Ans.to (ans_t (val_eq (vrq_first T (val_var rfl) hrc) val_c)) (by rw [hh]; exact decide_eq_decide.mpr ⟨fun z => by have := vi_eq.mp z; omega, fun z => by rw [z]; rfl⟩)) (fun h0 => ?_) (fun h0 => ?_)
    · subst h0
      obtain ⟨lq, hls, hl⟩ := x.link W hi
      obtain ⟨dl, el⟩ := id hl
      refine st_mt (val_ix (vrn_links T (val_var rfl) R.run) (ask_val x ha rfl rfl) (SqL.of R.lk) rfl (map_at hls)) el (lkF_m_note_success _) (va_cons (hf _ rfl) va_nil) ⟨lq, _, c, rfl, hl, fun H1 h1 f1 => ?_⟩
      have R1 : RunW K F H1 a A (Gp27.went w i true (some c)) := by
        rw [Cw.went_won W hi]
        exact RunW.setL R hls h1 f1
      obtain ⟨d1, e1⟩ := id R1.run
      refine st_mt (val_var rfl) e1 (rnF_m_start_next_step _ _) (va_cons (val_var rfl) va_nil) ⟨a, q, F, A, _, k, rfl, x' true H1 R1, Cw.isAsk_step (ha' true), fun H' R' y => kk H' ?_ (Ext.trans (Ext.one (.inr (.inr (.inr (List.mem_of_getElem? hls)))) f1) y)⟩
      unfold backW
      rw [hs]
      exact R'
    · refine st_mt (val_var rfl) e (rnF_m_note_failure _ _) (va_cons (val_var rfl) va_nil) ⟨a, q, F, A, w, k, i, c, t, rfl, x, W, ha, hst, fun H1 R1 y1 => ?_⟩
      obtain ⟨d1, e1⟩ := id R1.run
      refine st_mt (val_var rfl) e1 (rnF_m_fail_try _ _) (va_cons (val_var rfl) va_nil) ⟨a, q, F, A, _, k, i, t, rfl, x' false H1 R1, Cw.went_ok W hi, ha' false, by rw [Cw.reqAt_went, hst]; rfl, fun H' R' y => kk H' ?_ (y1.trans y)⟩
      unfold backW
      rw [hs]
      cases how with
      | zero => exact absurd rfl h0
      | succ n => exact R'
  | queued => rw [hs] at h4; cases h4
  | work _ => rw [hs] at h4; cases h4
  | ready _ _ => rw [hs] at h4; cases h4
  | asked _ _ => rw [hs] at h4; cases h4
theorem pure_Run_do_work (T : Txt w K mg) (vs : List V) (H : Hp) (Q : VK) (E : XK) (h : sp_Run_do_work K vs H Q E) : t_Run_do_work K { nx := fun _ H' => Q .non H', rt := Q } (start N_Run_do_work vs) H := by
  obtain ⟨a, q, F, A, w, k, n, rfl, x, hst, hn, hlt, kk⟩ := h
  have R := x.R
  obtain ⟨dx, e⟩ := id R.run
  refine st_mt (val_var rfl) e (rnF_m_put _ _) (va_cons (val_var rfl) (va_cons val_c (va_cons (val_sub (val_to (y := .int (n : Nat)) (vrq_first T (val_var rfl) x.raw) (by show V.int (Cw.cd2 (Gp27.reqAt w k).state : Nat) = _; rw [hst]; rfl)) val_c) (va_cons val_c va_nil)))) (put_W (s := .work (n - 1)) R x.hk x.hq x.sv rfl (by show (n : Int) - 1 = ((n - 1 : Nat) : Int); omega) rfl fun H1 R1 x1 => ?_)
  have er : Gp27.reqAt (Gp27.setReq w k { Gp27.reqAt w k with state := .work (n - 1) }) k = { Gp27.reqAt w k with state := .work (n - 1) } := by rw [Cw.reqAt_setReq x.hk, if_pos rfl]
  have hk1 : k < (Gp27.setReq w k { Gp27.reqAt w k with state := .work (n - 1) }).requests.length := by
    show k < (w.requests.set k _).length
    rw [List.length_set]
    exact x.hk
  have hr1 := RunW.raw R1 hk1 x.hq
  rw [er] at hr1
  obtain ⟨d1, e1⟩ := id R1.run
  refine st_ifd (p := n ≤ 1) (Ans.to (ans_t (val_eq (vrq_first T (val_var rfl) hr1) val_c)) (decide_eq_decide.mpr ⟨fun z => ?_, fun z => ?_⟩)) (fun h0 => ?_) (fun h0 => ?_)
  · have z1 : ((n - 1 : Nat) : Int) = 0 := vi_eq.mp z
    omega
  · refine vi_eq.mpr ?_
    show ((n - 1 : Nat) : Int) = 0
    omega
  · rw [if_pos h0] at kk
    refine st_mt (val_var rfl) e1 (rnF_m_start_next_step _ _) (va_cons (val_var rfl) va_nil) ⟨a, q, F, A, _, k, rfl, ⟨R1, hk1, x.hq, x.hs, by rw [er]; exact x.sv⟩, by show (Gp27.reqAt _ k).step < (Cw.svc _ (Gp27.reqAt _ k).service).steps.length; rw [er]; exact hlt, fun H' R' x' => kk H' ?_ (x1.trans x')⟩
    have eo : Gp27.onward (Gp27.setReq w k { Gp27.reqAt w k with state := .work (n - 1) }) k = Gp27.onward w k := by
      unfold Gp27.onward
      dsimp only
      rw [er, Cw.setReq_setReq]
      rfl
    rw [eo] at R'
    exact R'
  · rw [if_neg h0] at kk
    exact kk H1 R1 x1
theorem pure_Run_go_on (T : Txt w K mg) (vs : List V) (H : Hp) (Q : VK) (E : XK) (h : sp_Run_go_on K vs H Q E) : t_Run_go_on K { nx := fun _ H' => Q .non H', rt := Q } (start N_Run_go_on vs) H := by
  obtain ⟨a, q, F, A, w, k, rfl, R, W, hk, hq, hn, ho, kk⟩ := h
  have Rq := W.req hk
  have x : At1 K F H a q A w k := ⟨R, hk, hq, W.hs, Rq.sv⟩
  have hr := x.raw
  obtain ⟨dx, e⟩ := id R.run
  refine st_ifd (p := (Gp27.reqAt w k).deadline ≤ w.now) (Ans.to (ans_t (val_le (vrq_deadline T (val_var rfl) hr) (vrn_time T (val_var rfl) R.run))) (decide_eq_decide.mpr ⟨fun z => Int.ofNat_le.mp z, fun z => Int.ofNat_le.mpr z⟩)) (fun h1 => ?_) (fun h1 => ?_)
  · exact st_mt (val_var rfl) e (rnF_m_stop _ _) (va_cons (val_var rfl) (va_cons val_c va_nil)) ⟨a, q, F, A, w, k, 2, rfl, x, W, fun H' R' x' => kk H' A (by rw [Cw.one_late ho h1]; exact R') x'⟩
  refine st_if (b := w.down.contains (Gp27.reqAt w k).service) (ans_b (val_ix (vrn_down T (val_var rfl) R.run) (vrq_service T (val_var rfl) hr) (SqL.of R.dn) rfl (downV_at x.sv))) (fun h2 => ?_) (fun h2 => ?_)
  · exact st_mt (val_var rfl) e (rnF_m_stop _ _) (va_cons (val_var rfl) (va_cons val_c va_nil)) ⟨a, q, F, A, w, k, 4, rfl, x, W, fun H' R' x' => kk H' A (by rw [Cw.one_down ho h1 h2]; exact R') x'⟩
  have h2' : ¬ w.down.contains (Gp27.reqAt w k).service = true := by rw [h2]; decide
  have hst : ∀ (j : Nat) (σ : L2.St), σ[1]? = some (some (.ref q)) → Ans (tTest (tOp rEq (tFld K (tVar 1) "status") (tC (.int (j : Int))))) σ H (decide (Cw.cd1 (Gp27.reqAt w k).state = j)) := fun j σ hσ => Ans.to (ans_t (val_eq (vrq_status T (val_var hσ) hr) val_c)) (decide_eq_decide.mpr ⟨fun z => Int.ofNat.inj (vi_eq.mp z), fun z => vi_eq.mpr (congrArg (fun n : Nat => (n : Int)) z)⟩)
  have S := Rq.ok
  unfold Cw.StOk at S
  cases hs : (Gp27.reqAt w k).state with
  | over n => exact absurd (Cw.isOver_iff.mpr (by rw [hs]; rfl)) ho
  | queued =>
    refine st_ifd (hst 0 _ rfl) (fun _ => ?_) (fun z => absurd (by rw [hs]; rfl) z)
    rw [Cw.one_q h1 h2' hs] at kk
    obtain ⟨sv, ak, gt, ss, p, nm, st, g1, g2, g3, g4, g5⟩ := R.svc x.sv
    refine st_ifd (p := Gp27.working w (Gp27.reqAt w k).service < (Gp27.serviceAt w (Gp27.reqAt w k).service).workers) (Ans.to (ans_t (val_lt (val_ix (vrn_occupied T (val_var rfl) R.run) (vrq_service T (val_var rfl) hr) (SqL.of R.oc_) rfl (map_at (Cw.occsOf_at x.sv))) (vsv_workers T (val_ix (vpl_services T (vrn_plan T (val_var rfl) R.run) g1) (vrq_service T (val_var rfl) hr) (SqL.of g2) rfl g3) g4))) (decide_eq_decide.mpr ⟨fun z => Int.ofNat_lt.mp z, fun z => Int.ofNat_lt.mpr z⟩)) (fun h3 => ?_) (fun h3 => ?_)
    · rw [if_pos h3] at kk
      exact st_mt (val_var rfl) e (rnF_m_start_step _ _) (va_cons (val_var rfl) va_nil) ⟨a, q, F, A, w, k, rfl, x, Rq.st, fun H' R' x' => kk H' A R' x'⟩
    · rw [if_neg h3] at kk
      exact kk H A R Ext.refl
  | work n =>
    rw [hs] at S
    refine st_ifd (hst 0 _ rfl) (fun z => absurd z (by rw [hs]; simp [Cw.cd1])) (fun _ => ?_)
    refine st_ifd (hst 1 _ rfl) (fun _ => ?_) (fun z => absurd (by rw [hs]; rfl) z)
    rw [Cw.one_w h1 h2' hs] at kk
    exact st_mt (val_var rfl) e (rnF_m_do_work _ _) (va_cons (val_var rfl) va_nil) ⟨a, q, F, A, w, k, n, rfl, x, hs, S.1, S.2, fun H' R' x' => kk H' A R' x'⟩
  | ready f t =>
    rw [hs] at S
    obtain ⟨i, ha⟩ := S
    refine st_ifd (hst 0 _ rfl) (fun z => absurd z (by rw [hs]; simp [Cw.cd1])) (fun _ => ?_)
    refine st_ifd (hst 1 _ rfl) (fun z => absurd z (by rw [hs]; simp [Cw.cd1])) (fun _ => ?_)
    refine st_ifd (hst 2 _ rfl) (fun _ => ?_) (fun z => absurd (by rw [hs]; rfl) z)
    rw [Cw.one_r h1 h2' hs ha] at kk
    exact st_mt (val_var rfl) e (rnF_m_make_call _ _) (va_cons (val_var rfl) va_nil) ⟨a, q, F, A, w, k, i, f, t, rfl, x, W, hn, ha, hs, kk⟩
  | asked c t =>
    rw [hs] at S
    obtain ⟨⟨i, ha⟩, hc⟩ := S
    refine st_ifd (hst 0 _ rfl) (fun z => absurd z (by rw [hs]; simp [Cw.cd1])) (fun _ => ?_)
    refine st_ifd (hst 1 _ rfl) (fun z => absurd z (by rw [hs]; simp [Cw.cd1])) (fun _ => ?_)
    refine st_ifd (hst 2 _ rfl) (fun z => absurd z (by rw [hs]; simp [Cw.cd1])) (fun _ => ?_)
    rw [Cw.one_a h1 h2' hs ha] at kk
    exact st_mt (val_var rfl) e (rnF_m_look_back _ _) (va_cons (val_var rfl) va_nil) ⟨a, q, F, A, w, k, i, c, t, rfl, x, W, ha, hs, hc, fun H' R' x' => kk H' A R' x'⟩
theorem ok_Run_look_back (T : Txt w K mg) : Has P w K mg base 7 (He.fAd K ("Run", some "look_back")) ["self", "request"] (sp_Run_look_back K) := by
  have G_Run_ask_of := ok_Run_ask_of (P := P) (base := base) T
  have G_Link_note_success := ok_Link_note_success (P := P) (base := base) T
  have G_Run_start_next_step := ok_Run_start_next_step (P := P) (base := base) T
  have G_Run_note_failure := ok_Run_note_failure (P := P) (base := base) T
  have G_Run_fail_try := ok_Run_fail_try (P := P) (base := base) T
  refine Has.of (T.d_Run_look_back) sc_Run_look_back (fun _ _ _ _ _ _ us hl => match us, hl with | [_, _], _ => rfl) len_Run_look_back (t_Run_look_back K) (fun cdv A outer s H E hr => ?_) (pure_Run_look_back T)
  have nd := sc_Run_look_back.nd
  exact (pss_cons (ps_set (i := 2) nd rfl (Or.inl rfl) (pe_ix ix_list (pe_fld (pw 0) rfl) (pe_fld (pw 1) rfl) (fun _ _ => rfl)))
      (pss_cons (ps_if (pt_cmpR op_ne (pe_fld (pw 2) rfl) (pe_gi rfl T.i_ENDED) (nomark _)) (pss_one ps_retN) pss_nil)
      (pss_one (ps_if (pt_cmpR op_eq (pe_fld (pw 2) rfl) (pe_gi rfl T.i_SUCCESS) (nomark _)) (pss_cons (ps_expr (pe_mt (pe_ix ix_list (pe_fld (pw 0) rfl) (pe_mt (pw 0) T.c_Run T.m_Run_ask_of G_Run_ask_of (hr.mono (by decide)) (pa_cons (pw 1) pa_nil)) (fun _ _ => rfl)) T.c_Link T.m_Link_note_success G_Link_note_success (hr.mono (by decide)) (pa_cons (pe_fld (pw 1) rfl) pa_nil)))
      (pss_one (ps_expr (pe_mt (pw 0) T.c_Run T.m_Run_start_next_step G_Run_start_next_step (hr.mono (by decide)) (pa_cons (pw 1) pa_nil))))) (pss_cons (ps_expr (pe_mt (pw 0) T.c_Run T.m_Run_note_failure G_Run_note_failure (hr.mono (by decide)) (pa_cons (pw 1) pa_nil)))
      (pss_one (ps_expr (pe_mt (pw 0) T.c_Run T.m_Run_fail_try G_Run_fail_try (hr.mono (by decide)) (pa_cons (pw 1) pa_nil)))))))))
theorem ok_Run_do_work (T : Txt w K mg) : Has P w K mg base 6 (He.fAd K ("Run", some "do_work")) ["self", "request"] (sp_Run_do_work K) := by
  have G_Run_put := ok_Run_put (P := P) (base := base) T
  have G_Run_start_next_step := ok_Run_start_next_step (P := P) (base := base) T
  refine Has.of (T.d_Run_do_work) sc_Run_do_work (fun _ _ _ _ _ _ us hl => match us, hl with | [_, _], _ => rfl) len_Run_do_work (t_Run_do_work K) (fun cdv A outer s H E hr => ?_) (pure_Run_do_work T)
  have nd := sc_Run_do_work.nd
  exact (pss_cons (ps_expr (pe_mt (pw 0) T.c_Run T.m_Run_put G_Run_put (hr.mono (by decide)) (pa_cons (pw 1) (pa_cons (pe_gi rfl T.i_WORKING) (pa_cons (pe_op op_sub (pe_fld (pw 1) rfl) pe_int) (pa_cons pe_int pa_nil))))))
      (pss_one (ps_if (pt_cmpR op_eq (pe_fld (pw 1) rfl) pe_int (nomark _)) (pss_one (ps_expr (pe_mt (pw 0) T.c_Run T.m_Run_start_next_step G_Run_start_next_step (hr.mono (by decide)) (pa_cons (pw 1) pa_nil)))) pss_nil)))
theorem ok_Run_go_on (T : Txt w K mg) : Has P w K mg base 8 (He.fAd K ("Run", some "go_on")) ["self", "request"] (sp_Run_go_on K) := by
  have G_Run_stop := ok_Run_stop (P := P) (base := base) T
  have G_Run_start_step := ok_Run_start_step (P := P) (base := base) T
  have G_Run_do_work := ok_Run_do_work (P := P) (base := base) T
  have G_Run_make_call := ok_Run_make_call (P := P) (base := base) T
  have G_Run_look_back := ok_Run_look_back (P := P) (base := base) T
  refine Has.of (T.d_Run_go_on) sc_Run_go_on (fun _ _ _ _ _ _ us hl => match us, hl with | [_, _], _ => rfl) len_Run_go_on (t_Run_go_on K) (fun cdv A outer s H E hr => ?_) (pure_Run_go_on T)
  have nd := sc_Run_go_on.nd
  exact (pss_one (ps_if (pt_cmpR op_le (pe_fld (pw 1) rfl) (pe_fld (pw 0) rfl) (nomark _)) (pss_one (ps_expr (pe_mt (pw 0) T.c_Run T.m_Run_stop G_Run_stop (hr.mono (by decide)) (pa_cons (pw 1) (pa_cons (pe_gi rfl T.i_LATE) pa_nil))))) (pss_one (ps_if (pt_val (pe_ix ix_list (pe_fld (pw 0) rfl) (pe_fld (pw 1) rfl) (fun _ _ => rfl))) (pss_one (ps_expr (pe_mt (pw 0) T.c_Run T.m_Run_stop G_Run_stop (hr.mono (by decide)) (pa_cons (pw 1) (pa_cons (pe_gi rfl T.i_SERVICE_DOWN) pa_nil))))) (pss_one (ps_if (pt_cmpR op_eq (pe_fld (pw 1) rfl) (pe_gi rfl T.i_WAITING) (nomark _)) (pss_one (ps_if (pt_cmpR op_lt (pe_ix ix_list (pe_fld (pw 0) rfl) (pe_fld (pw 1) rfl) (fun _ _ => rfl)) (pe_fld (pe_ix ix_list (pe_fld (pe_fld (pw 0) rfl) rfl) (pe_fld (pw 1) rfl) (fun _ _ => rfl)) rfl) (nomark _)) (pss_one (ps_expr (pe_mt (pw 0) T.c_Run T.m_Run_start_step G_Run_start_step (hr.mono (by decide)) (pa_cons (pw 1) pa_nil)))) pss_nil)) (pss_one (ps_if (pt_cmpR op_eq (pe_fld (pw 1) rfl) (pe_gi rfl T.i_WORKING) (nomark _)) (pss_one (ps_expr (pe_mt (pw 0) T.c_Run T.m_Run_do_work G_Run_do_work (hr.mono (by decide)) (pa_cons (pw 1) pa_nil)))) (pss_one (ps_if (pt_cmpR op_eq (pe_fld (pw 1) rfl) (pe_gi rfl T.i_READY) (nomark _)) (pss_one (ps_expr (pe_mt (pw 0) T.c_Run T.m_Run_make_call G_Run_make_call (hr.mono (by decide)) (pa_cons (pw 1) pa_nil)))) (pss_one (ps_expr (pe_mt (pw 0) T.c_Run T.m_Run_look_back G_Run_look_back (hr.mono (by decide)) (pa_cons (pw 1) pa_nil))))))))))))))
end
end Cc
end

/-! ## CcRunE -/
section
set_option maxRecDepth 100000
set_option maxHeartbeats 4000000
/-! Run: ticks. -/
namespace Cc
open PySem PySem.Spec PyProof.Rows L2
open Cw (rawOf rawsOf waitsOf occsOf)
def refsOf (A : Ad) (l : List Nat) : List V := l.map fun k => V.ref (A.rs.getD k 0)
def sp_Run_active (K : PySem.W.Frag) : Sp := fun vs H Q _ => ∃ (a : Addr) (F : Hp) (A : Ad) (w : Gp27.World), vs = [.ref a] ∧ RunW K F H a A w ∧ w.requests.length ≤ 10000 ∧
  ∀ (D : Addr) (H' : Hp), H D = none → Same H H' → H' D = some (.lst (refsOf A (Cw.act w))) → Q (.ref D) H'
def sp_Run_tick (K : PySem.W.Frag) : Sp := fun vs H Q _ => ∃ (a : Addr) (F : Hp) (A : Ad) (w : Gp27.World), vs = [.ref a] ∧ RunW K F H a A w ∧ Cw.WOk w ∧ w.requests.length ≤ 5000 ∧
  ∀ (H' : Hp) (A' : Ad), RunW K F H' a A' (Gp27.tick w) → Ext a A A' H H' → Q .non H'
def sp_Run_do_ticks (K : PySem.W.Frag) : Sp := fun vs H Q _ => ∃ (a : Addr) (F : Hp) (A : Ad) (w : Gp27.World) (n : Nat), vs = [.ref a, .int (n : Int)] ∧ RunW K F H a A w ∧ Cw.WOk w ∧ w.requests.length ≤ 800 ∧ n ≤ 1000 ∧
  ∀ (H' : Hp) (A' : Ad), RunW K F H' a A' (Gp27.ticks n w) → Ext a A A' H H' → Q .non H'
section
variable {K : PySem.W.Frag}
theorem len_Run_active : ∀ vs H Q E, sp_Run_active K vs H Q E → vs.length = (["self"] : List Str).length := by rintro _ _ _ _ ⟨_, _, _, _, rfl, _⟩; rfl
theorem len_Run_tick : ∀ vs H Q E, sp_Run_tick K vs H Q E → vs.length = (["self"] : List Str).length := by rintro _ _ _ _ ⟨_, _, _, _, rfl, _⟩; rfl
theorem len_Run_do_ticks : ∀ vs H Q E, sp_Run_do_ticks K vs H Q E → vs.length = (["self", "many"] : List Str).length := by rintro _ _ _ _ ⟨_, _, _, _, _, rfl, _⟩; rfl
end
abbrev N_Run_active : List Str := ["self", "request"]
theorem sc_Run_active : FnScope N_Run_active ["self"] (defScope s_Run_active) := ⟨rfl, rfl, rfl, by decide +kernel, rfl, by decide +kernel, by decide +kernel⟩
def t_Run_active (K : PySem.W.Frag) : TS := (tRet (tLc (iList K (tFld K (tVar 0) "requests")) (gName 1) (tTest (tOp rNe (tFld K (tVar 1) "status") (tC (.int (4))))) (tVar 1) [1]))
abbrev N_Run_tick : List Str := ["self", "request"]
theorem sc_Run_tick : FnScope N_Run_tick ["self"] (defScope s_Run_tick) := ⟨rfl, rfl, rfl, by decide +kernel, rfl, by decide +kernel, by decide +kernel⟩
def t_Run_tick (K : PySem.W.Frag) : TS := (tSeq (sFld K (tVar 0) (tOp rAddI (tFld K (tVar 0) "time") (tC (.int 1))) "time")
  (tFor (iList K (tMeth (cRun K) "active" (sp_Run_active K) [] E0 (tVar 0) tNil)) (gName 1) (tDrop (tMeth (cRun K) "go_on" (sp_Run_go_on K) [] E0 (tVar 0) (tCons (tVar 1) tNil)))))
abbrev N_Run_do_ticks : List Str := ["self", "many", "turn"]
theorem sc_Run_do_ticks : FnScope N_Run_do_ticks ["self", "many"] (defScope s_Run_do_ticks) := ⟨rfl, rfl, rfl, by decide +kernel, rfl, by decide +kernel, by decide +kernel⟩
def t_Run_do_ticks (K : PySem.W.Frag) : TS := (tFor (iRng1 (tCons (tVar 1) tNil)) (gName 2) (tIfS (tTest (tOp rLeI (tCB (rLenQ K) (tCons (tFld K (tVar 0) "requests") tNil)) (tC (.int (400))))) (tDrop (tMeth (cRun K) "tick" (sp_Run_tick K) [] E0 (tVar 0) tNil)) tNext))
section
variable {P : Program} {w : World} {K : PySem.W.Frag} {mg : Str → Option Value} {base : Heap}
theorem getD_get {l : List Addr} {k : Nat} (h : k < l.length) : l[k]? = some (l.getD k 0) := by
  rw [List.getD_eq_getElem?_getD, List.getElem?_eq_getElem h] <;> rfl
theorem refs_all {A : Ad} {n : Nat} (h : A.rs.length = n) : refsOf A (List.range n) = A.rs.map V.ref := by
  unfold refsOf
  apply List.ext_getElem?
  intro i
  rw [List.getElem?_map, List.getElem?_map]
  by_cases hi : i < n
  · rw [List.getElem?_range hi, getD_get (by omega)] <;> rfl
  · rw [List.getElem?_eq_none (by rw [List.length_range]; omega), List.getElem?_eq_none (by omega)] <;> rfl
theorem RunW.len {F H : Hp} {a : Addr} {A : Ad} {w : Gp27.World} (R : RunW K F H a A w) : A.rs.length = w.requests.length := R.lrs.trans (by unfold rawsOf; rw [List.length_map])
/-- what is a run's own is there -/
theorem RunAt.own {F H : Hp} {a : Addr} {A : Ad} {w : Gp27.World} {raws : List Raw} {wt oc : List Int} (R : RunAt K F H a A w raws wt oc) {b : Addr} (h : Own a A b) : ∃ o, H b = some o := by
  rcases h with h | h | h | h
  · obtain ⟨d, e⟩ := R.run
    exact ⟨_, by rw [h]; exact e⟩
  · simp only [List.mem_cons, List.not_mem_nil, or_false] at h
    rcases h with h | h | h | h | h | h | h <;> rw [h]
    · exact ⟨_, R.rq⟩
    · exact ⟨_, R.lk⟩
    · exact ⟨_, R.op⟩
    · exact ⟨_, R.dn⟩
    · exact ⟨_, R.fa⟩
    · exact ⟨_, R.wa⟩
    · exact ⟨_, R.oc_⟩
  · obtain ⟨i, hi, e⟩ := List.mem_iff_getElem.mp h
    obtain ⟨r, _, d, z⟩ := R.raw_of (i := i) (p := b) (by rw [List.getElem?_eq_getElem hi, e])
    exact ⟨_, z⟩
  · obtain ⟨i, hi, e⟩ := List.mem_iff_getElem.mp h
    obtain ⟨r, _, d, z⟩ := R.link_of (i := i) (p := b) (by rw [List.getElem?_eq_getElem hi, e])
    exact ⟨_, z⟩
theorem RunAt.not_own {F H : Hp} {a : Addr} {A : Ad} {w : Gp27.World} {raws : List Raw} {wt oc : List Int} (R : RunAt K F H a A w raws wt oc) {b : Addr} (h : H b = none) : ¬ Own a A b := fun z => by
  obtain ⟨o, e⟩ := R.own z
  rw [h] at e
  cases e
theorem pure_Run_active (T : Txt w K mg) (vs : List V) (H : Hp) (Q : VK) (E : XK) (h : sp_Run_active K vs H Q E) : t_Run_active K { nx := fun _ H' => Q .non H', rt := Q } (start N_Run_active vs) H := by
  obtain ⟨a, F, A, w, rfl, R, hn, kk⟩ := h
  have hl := R.len
  refine e_lc (List.range w.requests.length) (fun k => V.ref (A.rs.getD k 0)) (fun k => V.ref (A.rs.getD k 0)) (fun k => !Gp27.isOver (Gp27.reqAt w k)) (vrn_requests T (val_var rfl) R.run) (SqL.of (R.rq.trans (by rw [← refs_all hl]; rfl))) (by rw [List.length_range]; omega) (fun _ => rfl) (fun k hk H' s => ?_) (fun k hk _ H' s => val_var rfl) kk
  have hk' : k < w.requests.length := List.mem_range.mp hk
  have R' := RunAt.mono R s
  have hr := RunW.raw R' hk' (getD_get (by rw [hl]; exact hk'))
  refine Ans.to (ans_t (val_ne (vrq_status T (val_var rfl) hr) val_c)) ?_
  congr 1
  rw [Bool.eq_iff_iff, decide_eq_true_iff, Cw.isOver_iff]
  exact ⟨fun z => Int.ofNat.inj (vi_eq.mp z), fun z => vi_eq.mpr (congrArg (fun n : Nat => (n : Int)) z)⟩
theorem pure_Run_tick (T : Txt w K mg) (vs : List V) (H : Hp) (Q : VK) (E : XK) (h : sp_Run_tick K vs H Q E) : t_Run_tick K { nx := fun _ H' => Q .non H', rt := Q } (start N_Run_tick vs) H := by
  obtain ⟨a, F, A, w, rfl, R, W, hn, kk⟩ := h
  refine srn_time T (n := w.now + 1) (val_to (val_add (vrn_time T (val_var rfl) R.run) val_c) rfl) (val_var rfl) R.run fun H1 h1 f1 _ => ?_
  have R1 : RunW K F H1 a A { w with now := w.now + 1 } := RunAt.time R h1 f1
  have W1 := W.time (w.now + 1)
  rw [Cw.tick_act W] at kk
  have ea : Cw.act { w with now := w.now + 1 } = Cw.act w := rfl
  have hl1 : ({ w with now := w.now + 1 } : Gp27.World).requests.length = w.requests.length := rfl
  have x1 : Ext a A A H H1 := Ext.one (.inl rfl) f1
  rw [← ea] at kk
  generalize ({ w with now := w.now + 1 } : Gp27.World) = v at R1 W1 kk hl1
  obtain ⟨d1, e1⟩ := id R1.run
  refine e_mt (val_var rfl) e1 (rnF_m_active _ _) va_nil ⟨a, F, A, v, rfl, R1, by omega, fun D H2 hD s2 h2 => ⟨D, rfl, ⟨_, SqL.of h2⟩, ?_⟩⟩
  have R2 := RunAt.mono R1 s2
  have x2 : Ext a A A H1 H2 := Ext.same s2
  have nD : ¬ Own a A D := R1.not_own hD
  have hact : ∀ i k, (Cw.act v)[i]? = some k → k < v.requests.length := fun i k h => Cw.act_lt k (List.mem_of_getElem? h)
  refine for_list (K := K) (a := D) (xs := refsOf A (Cw.act v)) (fun i σ' H' => ∃ (A' : Ad) (y : Option V), σ' = [some (.ref a), y] ∧ RunW K F H' a A' (((Cw.act v).take i).foldl Gp27.oneReq v) ∧ Ext a A A' H2 H') ⟨A, none, rfl, R2, Ext.refl⟩ ?_ ?_ ?_
  · rintro i σ' H' _ ⟨A', y, _, R', x'⟩
    exact SqL.of (x'.keep D _ h2 nD).1
  · rintro i y σ' H' hi ⟨A', y', rfl, R', x'⟩
    obtain ⟨k, hk, rfl⟩ : ∃ k, (Cw.act v)[i]? = some k ∧ y = V.ref (A.rs.getD k 0) := by
      unfold refsOf at hi
      rw [List.getElem?_map] at hi
      cases e : (Cw.act v)[i]? with
      | none => rw [e] at hi; cases hi
      | some x => rw [e] at hi; exact ⟨x, rfl, (Option.some.inj hi).symm⟩
    have f := Cw.fold_inv ((Cw.act v).take i) v W1 fun j hj => Cw.act_lt j (List.mem_of_mem_take hj)
    have hkl := hact i k hk
    have hq := getD_get (l := A.rs) (k := k) (by rw [R1.len]; exact hkl)
    have hno : k ∉ (Cw.act v).take i := fun z => by
      obtain ⟨j, hj, e⟩ := List.mem_iff_getElem.mp z
      rw [List.getElem_take] at e
      have hj' : j < i := by rw [List.length_take] at hj; omega
      have := nd_ix Cw.act_nd (List.getElem?_eq_some_iff.mpr ⟨_, e⟩) hk
      omega
    have hreq := f.ot k hkl hno
    have hnov : ¬ Gp27.isOver (Gp27.reqAt v k) = true := by
      have := (List.mem_filter.mp (List.mem_of_getElem? hk)).2
      intro z
      rw [z] at this
      cases this
    have hlen : (((Cw.act v).take i).foldl Gp27.oneReq v).requests.length ≤ 10000 := by
      have h3 := f.l2
      have h4 : ((Cw.act v).take i).length ≤ v.requests.length := by
        rw [List.length_take]
        have h5 := List.length_filter_le (fun k => !Gp27.isOver (Gp27.reqAt v k)) (List.range v.requests.length)
        rw [List.length_range] at h5
        exact Nat.le_trans (Nat.min_le_right _ _) h5
      omega
    obtain ⟨d', e'⟩ := id R'.run
    refine st_mt (val_var rfl) e' (rnF_m_go_on _ _) (va_cons (val_var rfl) va_nil) ⟨a, _, F, A', _, k, rfl, R', f.ok, Nat.lt_of_lt_of_le hkl f.l1, x'.get hq, hlen, by rw [hreq]; exact hnov, fun H3 A3 R3 x3 => ⟨A3, _, rfl, ?_, x'.trans x3⟩⟩
    rw [take_more hk, List.foldl_append]
    exact R3
  · rintro σ' H' ⟨A', y, rfl, R', x'⟩
    have el : (refsOf A (Cw.act v)).length = (Cw.act v).length := List.length_map _
    rw [el, List.take_length] at R'
    exact kk H' A' R' ((x1.trans x2).trans x')
theorem pure_Run_do_ticks (T : Txt w K mg) (vs : List V) (H : Hp) (Q : VK) (E : XK) (h : sp_Run_do_ticks K vs H Q E) : t_Run_do_ticks K { nx := fun _ H' => Q .non H', rt := Q } (start N_Run_do_ticks vs) H := by
  obtain ⟨a, F, A, w, n, rfl, R, W, hn, hm, kk⟩ := h
  refine st_range1 (n := n) (va_cons (val_var rfl) va_nil) (by omega) (fun i σ' H' => ∃ (A' : Ad) (y : Option V), σ' = [some (.ref a), some (.int (n : Int)), y] ∧ RunW K F H' a A' (Gp27.ticks i w) ∧ Ext a A A' H H') ⟨A, none, rfl, R, Ext.refl⟩ ?_ ?_
  · rintro i σ' H' hi ⟨A', y, rfl, R', x'⟩
    obtain ⟨tk, _, hl⟩ := Cw.ticks_ok W hn i
    obtain ⟨d', e'⟩ := id R'.run
    have hlen := R'.len
    refine st_ifd (p := (Gp27.ticks i w).requests.length ≤ 400) (Ans.to (ans_t (val_le (val_len (vrn_requests T (val_var rfl) R'.run) (SqL.of R'.rq)) val_c)) (decide_eq_decide.mpr (by rw [List.length_map, hlen]; omega))) (fun hc => ?_) (fun hc => ?_)
    · refine st_mt (val_var rfl) e' (rnF_m_tick _ _) va_nil ⟨a, F, A', _, rfl, R', tk.ok, by omega, fun H3 A3 R3 x3 => ⟨A3, _, rfl, ?_, x'.trans x3⟩⟩
      rw [Cw.ticks_succ]
      unfold Cw.tk
      rw [if_neg (show ¬ Gp27.MOST < _ from Nat.not_lt.mpr hc)]
      exact R3
    · refine ⟨A', _, rfl, ?_, x'⟩
      rw [Cw.ticks_succ]
      unfold Cw.tk
      rw [if_pos (show Gp27.MOST < _ from Nat.lt_of_not_le hc)]
      exact R'
  · rintro σ' H' ⟨A', y, rfl, R', x'⟩
    exact kk H' A' R' x'
theorem ok_Run_active (T : Txt w K mg) : Has P w K mg base 1 (He.fAd K ("Run", some "active")) ["self"] (sp_Run_active K) := by
  refine Has.of (T.d_Run_active) sc_Run_active (fun _ _ _ _ _ _ us hl => match us, hl with | [_], _ => rfl) len_Run_active (t_Run_active K) (fun cdv A outer s H E hr => ?_) (pure_Run_active T)
  have nd := sc_Run_active.nd
  exact (pss_one (ps_ret (pe_lc (own := [("request", 1)]) (by rfl) nd (pi_list (pe_fld (pw 0) rfl)) (blkOk_by (own := [("request", 1)]) (N := N_Run_active) (sc := defScope s_Run_active) (by decide +kernel)) (fun _ _ _ _ _ => (pg_name (i := 1) nd rfl (Or.inl rfl))) (fun _ _ _ _ _ => pts_one (pt_cmpR op_ne (pe_fld (pw 1) rfl) (pe_gi rfl T.i_ENDED) (nomark _))) (fun _ _ _ _ _ => (pw 1)))))
theorem ok_Run_tick (T : Txt w K mg) : Has P w K mg base 9 (He.fAd K ("Run", some "tick")) ["self"] (sp_Run_tick K) := by
  have G_Run_active := ok_Run_active (P := P) (base := base) T
  have G_Run_go_on := ok_Run_go_on (P := P) (base := base) T
  refine Has.of (T.d_Run_tick) sc_Run_tick (fun _ _ _ _ _ _ us hl => match us, hl with | [_], _ => rfl) len_Run_tick (t_Run_tick K) (fun cdv A outer s H E hr => ?_) (pure_Run_tick T)
  have nd := sc_Run_tick.nd
  exact (pss_cons (ps_fld (pw 0) (pe_op op_add (pe_fld (pw 0) rfl) pe_int) rfl)
      (pss_one (ps_for PassesOwn.never rfl (pi_list (pe_mt0 (pw 0) T.c_Run T.m_Run_active G_Run_active (hr.mono (by decide)))) (pg_name (i := 1) nd rfl (Or.inl rfl)) (pss_one (ps_expr (pe_mt (pw 0) T.c_Run T.m_Run_go_on G_Run_go_on (hr.mono (by decide)) (pa_cons (pw 1) pa_nil)))))))
theorem ok_Run_do_ticks (T : Txt w K mg) : Has P w K mg base 10 (He.fAd K ("Run", some "do_ticks")) ["self", "many"] (sp_Run_do_ticks K) := by
  have G_Run_tick := ok_Run_tick (P := P) (base := base) T
  refine Has.of (T.d_Run_do_ticks) sc_Run_do_ticks (fun _ _ _ _ _ _ us hl => match us, hl with | [_, _], _ => rfl) len_Run_do_ticks (t_Run_do_ticks K) (fun cdv A outer s H E hr => ?_) (pure_Run_do_ticks T)
  have nd := sc_Run_do_ticks.nd
  exact (pss_one (ps_for PassesOwn.never rfl (pi_range1 rfl T.b_range (pa_cons (pw 1) pa_nil)) (pg_name (i := 2) nd rfl (Or.inl rfl)) (pss_one (ps_if (pt_cmpR op_le (pe_callB call_len_seq (by rfl) T.b_len PySem.boot_len (pa_cons (pe_fld (pw 0) rfl) pa_nil)) (pe_gi rfl T.i_MOST_REQUESTS) (nomark _)) (pss_one (ps_expr (pe_mt0 (pw 0) T.c_Run T.m_Run_tick G_Run_tick (hr.mono (by decide))))) pss_nil))))
end
end Cc
end

/-! ## CcRunF -/
section
set_option maxRecDepth 100000
set_option maxHeartbeats 4000000
/-! Run: its making; an isolated request. -/
namespace Cc
open PySem PySem.Spec PyProof.Rows L2
open Cw (rawOf rawsOf waitsOf occsOf)
def sp_Run_init (K : PySem.W.Frag) : Sp := fun vs H Q _ => ∃ (p dx pl : Addr) (F : Hp) (P : PAd) (h : Gp27.House), vs = [.ref p, .ref pl] ∧ H p = some (.ins (cRun K) dx []) ∧ F p = none ∧ (∀ b o, F b = some o → H b = some o) ∧ PlanAt K F pl P h (h.asks.map fun a => a.may) ∧
  h.services.length ≤ 1000 ∧ h.asks.length ≤ 1000 ∧
  ∀ (H' : Hp) (A : Ad), A.pl = pl → RunW K F H' p A (Gp27.worldOf h) → Fr1 p H H' → (∀ b, Own p A b → b = p ∨ H b = none) → Q .non H'
theorem len_Run_init {K : PySem.W.Frag} : ∀ vs H Q E, sp_Run_init K vs H Q E → vs.length = (["self", "plan"] : List Str).length := by rintro _ _ _ _ ⟨_, _, _, _, _, _, rfl, _⟩; rfl
abbrev N_Run_init : List Str := ["self", "plan", "many", "ask"]
theorem sc_Run_init : FnScope N_Run_init ["self", "plan"] (defScope s_Run_init) := ⟨rfl, rfl, rfl, by decide +kernel, rfl, by decide +kernel, by decide +kernel⟩
def t_Run_init (K : PySem.W.Frag) : TS := (tSeq (tAsg (tCB (rLenQ K) (tCons (tFld K (tVar 1) "services") tNil)) (gName 2))
  (tSeq (sFld K (tVar 0) (tVar 1) "plan")
  (tSeq (sFld K (tVar 0) (tC (.int 0)) "time")
  (tSeq (sFld K (tVar 0) (tLst tNil) "requests")
  (tSeq (sFld K (tVar 0) (tLc (iList K (tFld K (tVar 1) "asks")) (gName 3) tYes (tMake (cLink K) (sp_Link_init K) [] E0 tNil) [3]) "links")
  (tSeq (sFld K (tVar 0) (tLc (iList K (tFld K (tVar 1) "asks")) (gName 3) tYes (tFld K (tVar 3) "is_optional") [3]) "optional")
  (tSeq (sFld K (tVar 0) (tOp rRep (tLst (tCons (tC (.bl false)) tNil)) (tVar 2)) "down")
  (tSeq (sFld K (tVar 0) (tOp rRep (tLst (tCons (tC (.int 1)) tNil)) (tVar 2)) "factors")
  (tSeq (sFld K (tVar 0) (tOp rRep (tLst (tCons (tC (.int 0)) tNil)) (tVar 2)) "waiting")
  (sFld K (tVar 0) (tOp rRep (tLst (tCons (tC (.int 0)) tNil)) (tVar 2)) "occupied"))))))))))
section
variable {P : Program} {w : World} {K : PySem.W.Frag} {mg : Str → Option Value} {base : Heap}
theorem Fr1.free {p l : Addr} {H H' : Hp} {o : HO} (f : Fr1 p H H') (hp : H' p = some o) (h : H' l = none) : H l = none := by
  cases e : H l with
  | none => rfl
  | some u =>
    by_cases hl : l = p
    · rw [hl, hp] at h
      cases h
    · rw [f l u e hl] at h
      cases h
theorem fld_val {σ : L2.St} {H : Hp} {D : Ends} {tv : TE} {v : V} {p C dx : Addr} {fs : List (Str × V)} {f : Str} (hv : Val tv σ H v) (h0 : σ[0]? = some (some (.ref p))) (hp : H p = some (.ins C dx fs)) (c : Cls K C) (n : NoAttr K C f) (hl : fs.length < 1000)
    (q : ∀ H2 : Hp, H2 p = some (.ins C dx (putF f v fs)) → Fr1 p H H2 → D.nx σ H2) : sFld K (tVar 0) tv f D σ H :=
  st_fld hv (val_var h0) hp c n hl (q _ upd_same fr_upd)
theorem fld_new {σ : L2.St} {H : Hp} {D : Ends} {tv : TE} {P : Addr → Hp → Prop} {p C dx : Addr} {fs : List (Str × V)} {f : Str} (hv : ∀ Q : VK, (∀ l H1, H l = none → Same H H1 → P l H1 → Q (.ref l) H1) → tv σ H Q) (h0 : σ[0]? = some (some (.ref p)))
    (hp : H p = some (.ins C dx fs)) (c : Cls K C) (n : NoAttr K C f) (hl : fs.length < 1000)
    (q : ∀ (l : Addr) (H1 H2 : Hp), H l = none → Same H H1 → P l H1 → H2 p = some (.ins C dx (putF f (.ref l) fs)) → Fr1 p H1 H2 → D.nx σ H2) : sFld K (tVar 0) tv f D σ H :=
  hv _ fun l H1 hl1 s hP => ⟨_, h0, p, C, dx, fs, rfl, s _ _ hp, c, n, hl, q l H1 _ hl1 s hP upd_same fr_upd⟩
theorem rep_flat {v : V} : ∀ n : Nat, (List.replicate n [v]).flatten = List.replicate n v
  | 0 => rfl
  | n + 1 => by
    rw [List.replicate_succ, List.flatten_cons, rep_flat n] <;> rfl
theorem nil_new {σ : L2.St} {H : Hp} : ∀ Q : VK, (∀ l H1, H l = none → Same H H1 → H1 l = some (.lst []) → Q (.ref l) H1) → tLst tNil σ H Q := fun Q q => ⟨Nat.zero_le _, fun l hl => q l _ hl (same_new hl) upd_same⟩
theorem rep_new {σ : L2.St} {H : Hp} {tv tn : TE} {v : V} {n : Nat} (hv : ∀ {H1 : Hp}, Val tv σ H1 v) (hn : ∀ {H1 : Hp}, Val tn σ H1 (.int (n : Nat))) (hz : n ≤ 100000) :
    ∀ Q : VK, (∀ l H1, H l = none → Same H H1 → H1 l = some (.lst (List.replicate n v)) → Q (.ref l) H1) → tOp rRep (tLst (tCons tv tNil)) tn σ H Q := fun Q q => by
  refine hv _ ⟨by show 1 ≤ sizeLine; decide, fun l hl => hn _ ⟨l, (n : Int), [v], rfl, rfl, upd_same, by omega, by omega, ?_, fun l2 hl2 => ?_⟩⟩
  · show 1 * (n : Int).toNat ≤ sizeLine
    exact Nat.le_trans (by omega : 1 * (n : Int).toNat ≤ 100000) (by decide)
  · have e : (List.replicate (n : Int).toNat [v]).flatten = List.replicate n v := by
      rw [Int.toNat_natCast]
      exact rep_flat n
    rw [e]
    have h2 : H l2 = none := by
      cases h : H l2 with
      | none => rfl
      | some o => rw [same_new hl l2 o h] at hl2; cases hl2
    exact q l2 _ h2 (fun b o hb => by rw [upd_ne (ne_of_none hb h2)]; exact same_new hl b o hb) upd_same
theorem opt_new (T : Txt w K mg) {σ : L2.St} {H : Hp} {pl : Addr} {P : PAd} {h : Gp27.House} (plan : PlanAt K H pl P h (h.asks.map fun a => a.may)) (h1 : σ = [σ[0]!, some (.ref pl), σ[2]!, none]) (hz : h.asks.length ≤ 100000) :
    ∀ Q : VK, (∀ l H1, H l = none → Same H H1 → H1 l = some (.lst (mayV h)) → Q (.ref l) H1) → tLc (iList K (tFld K (tVar 1) "asks")) (gName 3) tYes (tFld K (tVar 3) "is_optional") [3] σ H Q := fun Q q => by
  rw [h1]
  refine e_lc (List.range h.asks.length) (fun k => V.ref (P.as.getD k 0)) (fun k => V.bl (Cw.askOf h k).may) (fun _ => true) (vpl_asks T (val_var rfl) plan.at_) (SqL.of (plan.ak.trans ?_)) (by rw [List.length_range]; omega) (fun _ => rfl) (fun _ _ _ _ => ans_yes) (fun k hk _ H' s => ?_) (fun D H' hD s hd => q D H' hD s (hd.trans ?_))
  · congr 2
    have := refs_all (A := ⟨0, 0, 0, 0, 0, 0, 0, 0, P.as, []⟩) plan.la
    exact this.symm
  · obtain ⟨p, b, e1, e2, dx, e3⟩ := plan.aks k _ (Cw.askOf_eq (List.mem_range.mp hk))
    have e4 : P.as.getD k 0 = p := by rw [List.getD_eq_getElem?_getD, e1]; rfl
    rw [List.getElem?_map, Cw.askOf_eq (List.mem_range.mp hk)] at e2
    have e5 : (Cw.askOf h k).may = b := Option.some.inj e2
    refine val_to (vak_is_optional T (a := Cw.askOf h k) (may := b) (val_var ?_) ⟨dx, s _ _ e3⟩) (by rw [e5])
    show some (some (V.ref (P.as.getD k 0))) = _
    rw [e4]
  · congr 2
    unfold mayV
    rw [List.filter_eq_self.mpr (fun _ _ => rfl)]
    apply List.ext_getElem?
    intro i
    rw [List.getElem?_map, List.getElem?_map]
    by_cases hi : i < h.asks.length
    · rw [List.getElem?_range hi, Cw.askOf_eq hi] <;> rfl
    · rw [List.getElem?_eq_none (by rw [List.length_range]; omega), List.getElem?_eq_none (by omega)] <;> rfl
theorem links_new (T : Txt w K mg) {σ : L2.St} {H : Hp} {ak : Addr} {as : List Addr} {n : Nat} {tl : TE} (ha : Val tl σ H (.ref ak)) (hx : H ak = some (.lst (as.map V.ref))) (hn : as.length = n) (hz : n ≤ 100000) (h3 : σ[3]? = some none) :
    ∀ Q : VK, (∀ l H1, H l = none → Same H H1 → (∃ ls : List Addr, H1 l = some (.lst (ls.map V.ref)) ∧ ls.length = n ∧ ls.Nodup ∧ ∀ q ∈ ls, H q = none ∧ AtLink K H1 q ⟨0, 0, 0, none⟩) → Q (.ref l) H1) →
      tLc (iList K tl) (gName 3) tYes (tMake (cLink K) (sp_Link_init K) [] E0 tNil) [3] σ H Q := fun Q q => by
  refine ha _ ⟨ak, rfl, ⟨_, SqL.of hx⟩, fun D hD => lc_list (xs := as.map V.ref) (fun i H' => Same H H' ∧ ∃ ls : List Addr, H' D = some (.lst (ls.map V.ref)) ∧ ls.length = i ∧ ls.Nodup ∧ ∀ q ∈ ls, H q = none ∧ AtLink K H' q ⟨0, 0, 0, none⟩) ⟨same_new hD, [], upd_same, rfl, List.nodup_nil, fun _ h => by cases h⟩ (fun i H' _ h => h.1.seq (SqL.of hx)) ?_ ?_⟩
  · rintro i y H' hi ⟨s, ls, hd, hl, nd, al⟩
    refine ⟨by show ((σ.set 3 none).set 3 (some y)).set 3 none = σ.set 3 none; rw [List.set_set, List.set_set], ans_yes _ ?_⟩
    simp only [if_true]
    intro x dx nx ndx ne
    refine ⟨x, dx, rfl, upd_same, fun H1 h1 f1 => ⟨rfl, ?_⟩⟩
    have s1 : ∀ b o, H' b = some o → H1 b = some o := fun b o hb => f1 b o (by rw [upd_ne (ne_of_none hb nx), upd_ne (ne_of_none hb ndx)]; exact hb) (ne_of_none hb nx)
    have hx0 : H x = none := by
      cases e : H x with
      | none => rfl
      | some o => rw [s x o e] at nx; cases nx
    have nxD : x ≠ D := fun z => by rw [z, hd] at nx; cases nx
    refine ⟨_, s1 _ _ hd, ?_, fun b o hb => ?_, ls ++ [x], ?_, ?_, ?_, ?_⟩
    · rw [List.length_map, hl]
      have hi' := (List.getElem?_eq_some_iff.mp hi).1
      rw [List.length_map, hn] at hi'
      exact Nat.lt_of_lt_of_le hi' (Nat.le_trans hz (by decide))
    · rw [upd_ne (ne_of_none hb hD)]
      exact s1 b o (s b o hb)
    · rw [upd_same, List.map_append] <;> rfl
    · rw [List.length_append, hl] <;> rfl
    · refine List.nodup_append.mpr ⟨nd, by simp, fun a ha b hb e => ?_⟩
      rw [List.mem_singleton.mp hb] at e
      obtain ⟨_, d, z⟩ := al a ha
      rw [e, nx] at z
      cases z
    · intro r hr
      rcases List.mem_append.mp hr with hr | hr
      · obtain ⟨y1, d, y2⟩ := al r hr
        have nr : r ≠ D := fun z => by rw [z, hd] at y2; cases y2
        exact ⟨y1, d, by rw [upd_ne nr]; exact s1 _ _ y2⟩
      · rw [List.mem_singleton.mp hr]
        obtain ⟨d, y2⟩ := h1
        exact ⟨hx0, d, by rw [upd_ne nxD]; exact y2⟩
  · rintro H' ⟨s, ls, hd, hl, nd, al⟩
    rw [List.length_map, hn] at hl
    exact q D H' hD s ⟨ls, hd, hl, nd, al⟩
theorem map_rep {α : Type} {n : Nat} {f : Nat → α} {v : α} (h : ∀ i, f i = v) : (List.range n).map f = List.replicate n v := by
  apply List.ext_getElem?
  intro i
  rw [List.getElem?_map, List.getElem?_replicate]
  by_cases hi : i < n
  · rw [List.getElem?_range hi, if_pos hi]
    exact congrArg some (h i)
  · rw [List.getElem?_eq_none (by rw [List.length_range]; omega), if_neg hi] <;> rfl
theorem down_new {h : Gp27.House} : downV (Gp27.worldOf h) = List.replicate h.services.length (V.bl false) := map_rep fun _ => rfl
theorem slow_new {h : Gp27.House} : slowV (Gp27.worldOf h) = List.replicate h.services.length (V.int 1) := map_rep fun _ => rfl
theorem wait_new {h : Gp27.House} : (waitsOf (Gp27.worldOf h)).map V.int = List.replicate h.services.length (V.int 0) := by
  unfold waitsOf
  rw [List.map_map]
  exact map_rep fun _ => rfl
theorem occ_new {h : Gp27.House} : (occsOf (Gp27.worldOf h)).map V.int = List.replicate h.services.length (V.int 0) := by
  unfold occsOf
  rw [List.map_map]
  exact map_rep fun _ => rfl
theorem pure_Run_init (T : Txt w K mg) (vs : List V) (H : Hp) (Q : VK) (E : XK) (h : sp_Run_init K vs H Q E) : t_Run_init K { nx := fun _ H' => Q .non H', rt := Q } (start N_Run_init vs) H := by
  obtain ⟨p, dx, pl, F, P, hs, rfl, hp, hF, fz0, plan0, hns, hna, kk⟩ := h
  have plan := plan0.mono fz0
  refine st_set (val_to (y := .int (hs.services.length : Nat)) (val_len (vpl_services T (val_var rfl) plan.at_) (SqL.of plan.sv)) (by rw [List.length_map, plan.ls])) ?_
  refine fld_val (val_var rfl) rfl hp T.c_Run T.n_Run_plan (by show 0 < 1000; decide) fun H1 p1 f1 => ?_
  refine fld_val val_c rfl p1 T.c_Run T.n_Run_time (by show 1 < 1000; decide) fun H2 p2 f2' => ?_
  have f2 := Fr1.trans f1 f2'
  have fz2 : ∀ b o, F b = some o → H2 b = some o := fun b o e => f2 b o (fz0 b o e) (by rintro rfl; rw [hF] at e; cases e)
  refine fld_new (P := fun l H1 => H1 l = some (.lst [])) nil_new rfl p2 T.c_Run T.n_Run_requests (by show 2 < 1000; decide) fun rq G3 H3 nrq s3 xrq p3 g3 => ?_
  have nprq : rq ≠ p := fun z => by rw [z, p2] at nrq; cases nrq
  have h3 : Fr1 p H2 H3 := fun b o e z => g3 b o (s3 b o e) z
  have f3 := Fr1.trans f2 h3
  have zrq : H rq = none := Fr1.free f2 p2 nrq
  have erq := g3 _ _ xrq nprq
  have fz3 : ∀ b o, F b = some o → H3 b = some o := fun b o e => f3 b o (fz0 b o e) (by rintro rfl; rw [hF] at e; cases e)
  refine fld_new (P := fun l H1 => ∃ ls : List Addr, H1 l = some (.lst (ls.map V.ref)) ∧ ls.length = hs.asks.length ∧ ls.Nodup ∧ ∀ q ∈ ls, H3 q = none ∧ AtLink K H1 q ⟨0, 0, 0, none⟩) (links_new T (vpl_asks T (val_var rfl) (plan0.mono (fz3)).at_) (plan0.mono (fz3)).ak plan.la (by omega) rfl) rfl p3 T.c_Run T.n_Run_links (by show 3 < 1000; decide) fun lk G4 H4 nlk s4 xlk p4 g4 => ?_
  have nplk : lk ≠ p := fun z => by rw [z, p3] at nlk; cases nlk
  have h4 : Fr1 p H3 H4 := fun b o e z => g4 b o (s4 b o e) z
  have f4 := Fr1.trans f3 h4
  have zlk : H lk = none := Fr1.free f3 p3 nlk
  obtain ⟨ls, elk, lls, ndl, als⟩ := xlk
  have elk := g4 _ _ elk nplk
  have als : ∀ q ∈ ls, H q = none ∧ q ≠ p ∧ AtLink K H4 q ⟨0, 0, 0, none⟩ := fun q hq => by
    obtain ⟨y1, y2⟩ := als q hq
    have y3 : q ≠ p := fun z => by rw [z, p3] at y1; cases y1
    exact ⟨Fr1.free f3 p3 y1, y3, AtLink.fr y2 g4 y3⟩
  have drqlk : rq ≠ lk := ne_of_none erq nlk
  have erq := h4 _ _ erq nprq
  have fz4 : ∀ b o, F b = some o → H4 b = some o := fun b o e => f4 b o (fz0 b o e) (by rintro rfl; rw [hF] at e; cases e)
  refine fld_new (P := fun l H1 => H1 l = some (.lst (mayV hs))) (opt_new T (plan0.mono (fz4)) rfl (by omega)) rfl p4 T.c_Run T.n_Run_optional (by show 4 < 1000; decide) fun op G5 H5 nop s5 xop p5 g5 => ?_
  have npop : op ≠ p := fun z => by rw [z, p4] at nop; cases nop
  have h5 : Fr1 p H4 H5 := fun b o e z => g5 b o (s5 b o e) z
  have f5 := Fr1.trans f4 h5
  have zop : H op = none := Fr1.free f4 p4 nop
  have eop := g5 _ _ xop npop
  have drqop : rq ≠ op := ne_of_none erq nop
  have erq := h5 _ _ erq nprq
  have dlkop : lk ≠ op := ne_of_none elk nop
  have elk := h5 _ _ elk nplk
  have als : ∀ q ∈ ls, H q = none ∧ q ≠ p ∧ AtLink K H5 q ⟨0, 0, 0, none⟩ := fun q hq => by
    obtain ⟨y1, y2, y3⟩ := als q hq
    exact ⟨y1, y2, AtLink.fr y3 h5 y2⟩
  have fz5 : ∀ b o, F b = some o → H5 b = some o := fun b o e => f5 b o (fz0 b o e) (by rintro rfl; rw [hF] at e; cases e)
  refine fld_new (P := fun l H1 => H1 l = some (.lst (List.replicate hs.services.length (.bl false)))) (rep_new (v := .bl false) val_c (val_var rfl) (by omega)) rfl p5 T.c_Run T.n_Run_down (by show 5 < 1000; decide) fun dn G6 H6 ndn s6 xdn p6 g6 => ?_
  have npdn : dn ≠ p := fun z => by rw [z, p5] at ndn; cases ndn
  have h6 : Fr1 p H5 H6 := fun b o e z => g6 b o (s6 b o e) z
  have f6 := Fr1.trans f5 h6
  have zdn : H dn = none := Fr1.free f5 p5 ndn
  have edn := g6 _ _ xdn npdn
  have drqdn : rq ≠ dn := ne_of_none erq ndn
  have erq := h6 _ _ erq nprq
  have dlkdn : lk ≠ dn := ne_of_none elk ndn
  have elk := h6 _ _ elk nplk
  have dopdn : op ≠ dn := ne_of_none eop ndn
  have eop := h6 _ _ eop npop
  have als : ∀ q ∈ ls, H q = none ∧ q ≠ p ∧ AtLink K H6 q ⟨0, 0, 0, none⟩ := fun q hq => by
    obtain ⟨y1, y2, y3⟩ := als q hq
    exact ⟨y1, y2, AtLink.fr y3 h6 y2⟩
  have fz6 : ∀ b o, F b = some o → H6 b = some o := fun b o e => f6 b o (fz0 b o e) (by rintro rfl; rw [hF] at e; cases e)
  refine fld_new (P := fun l H1 => H1 l = some (.lst (List.replicate hs.services.length (.int 1)))) (rep_new (v := .int 1) val_c (val_var rfl) (by omega)) rfl p6 T.c_Run T.n_Run_factors (by show 6 < 1000; decide) fun fa G7 H7 nfa s7 xfa p7 g7 => ?_
  have npfa : fa ≠ p := fun z => by rw [z, p6] at nfa; cases nfa
  have h7 : Fr1 p H6 H7 := fun b o e z => g7 b o (s7 b o e) z
  have f7 := Fr1.trans f6 h7
  have zfa : H fa = none := Fr1.free f6 p6 nfa
  have efa := g7 _ _ xfa npfa
  have drqfa : rq ≠ fa := ne_of_none erq nfa
  have erq := h7 _ _ erq nprq
  have dlkfa : lk ≠ fa := ne_of_none elk nfa
  have elk := h7 _ _ elk nplk
  have dopfa : op ≠ fa := ne_of_none eop nfa
  have eop := h7 _ _ eop npop
  have ddnfa : dn ≠ fa := ne_of_none edn nfa
  have edn := h7 _ _ edn npdn
  have als : ∀ q ∈ ls, H q = none ∧ q ≠ p ∧ AtLink K H7 q ⟨0, 0, 0, none⟩ := fun q hq => by
    obtain ⟨y1, y2, y3⟩ := als q hq
    exact ⟨y1, y2, AtLink.fr y3 h7 y2⟩
  have fz7 : ∀ b o, F b = some o → H7 b = some o := fun b o e => f7 b o (fz0 b o e) (by rintro rfl; rw [hF] at e; cases e)
  refine fld_new (P := fun l H1 => H1 l = some (.lst (List.replicate hs.services.length (.int 0)))) (rep_new (v := .int 0) val_c (val_var rfl) (by omega)) rfl p7 T.c_Run T.n_Run_waiting (by show 7 < 1000; decide) fun wa G8 H8 nwa s8 xwa p8 g8 => ?_
  have npwa : wa ≠ p := fun z => by rw [z, p7] at nwa; cases nwa
  have h8 : Fr1 p H7 H8 := fun b o e z => g8 b o (s8 b o e) z
  have f8 := Fr1.trans f7 h8
  have zwa : H wa = none := Fr1.free f7 p7 nwa
  have ewa := g8 _ _ xwa npwa
  have drqwa : rq ≠ wa := ne_of_none erq nwa
  have erq := h8 _ _ erq nprq
  have dlkwa : lk ≠ wa := ne_of_none elk nwa
  have elk := h8 _ _ elk nplk
  have dopwa : op ≠ wa := ne_of_none eop nwa
  have eop := h8 _ _ eop npop
  have ddnwa : dn ≠ wa := ne_of_none edn nwa
  have edn := h8 _ _ edn npdn
  have dfawa : fa ≠ wa := ne_of_none efa nwa
  have efa := h8 _ _ efa npfa
  have als : ∀ q ∈ ls, H q = none ∧ q ≠ p ∧ AtLink K H8 q ⟨0, 0, 0, none⟩ := fun q hq => by
    obtain ⟨y1, y2, y3⟩ := als q hq
    exact ⟨y1, y2, AtLink.fr y3 h8 y2⟩
  have fz8 : ∀ b o, F b = some o → H8 b = some o := fun b o e => f8 b o (fz0 b o e) (by rintro rfl; rw [hF] at e; cases e)
  refine fld_new (P := fun l H1 => H1 l = some (.lst (List.replicate hs.services.length (.int 0)))) (rep_new (v := .int 0) val_c (val_var rfl) (by omega)) rfl p8 T.c_Run T.n_Run_occupied (by show 8 < 1000; decide) fun oc G9 H9 noc s9 xoc p9 g9 => ?_
  have npoc : oc ≠ p := fun z => by rw [z, p8] at noc; cases noc
  have h9 : Fr1 p H8 H9 := fun b o e z => g9 b o (s9 b o e) z
  have f9 := Fr1.trans f8 h9
  have zoc : H oc = none := Fr1.free f8 p8 noc
  have eoc := g9 _ _ xoc npoc
  have drqoc : rq ≠ oc := ne_of_none erq noc
  have erq := h9 _ _ erq nprq
  have dlkoc : lk ≠ oc := ne_of_none elk noc
  have elk := h9 _ _ elk nplk
  have dopoc : op ≠ oc := ne_of_none eop noc
  have eop := h9 _ _ eop npop
  have ddnoc : dn ≠ oc := ne_of_none edn noc
  have edn := h9 _ _ edn npdn
  have dfaoc : fa ≠ oc := ne_of_none efa noc
  have efa := h9 _ _ efa npfa
  have dwaoc : wa ≠ oc := ne_of_none ewa noc
  have ewa := h9 _ _ ewa npwa
  have als : ∀ q ∈ ls, H q = none ∧ q ≠ p ∧ AtLink K H9 q ⟨0, 0, 0, none⟩ := fun q hq => by
    obtain ⟨y1, y2, y3⟩ := als q hq
    exact ⟨y1, y2, AtLink.fr y3 h9 y2⟩
  have ef : putF "occupied" (V.ref oc) (putF "waiting" (V.ref wa) (putF "factors" (V.ref fa) (putF "down" (V.ref dn) (putF "optional" (V.ref op) (putF "links" (V.ref lk) (putF "requests" (V.ref rq) (putF "time" (V.int 0) (putF "plan" (V.ref pl) [])))))))) = rnF ⟨pl, rq, lk, op, dn, fa, wa, oc, [], ls⟩ 0 := by kernel_rfl
  rw [ef] at p9
  have own : ∀ b, Own p ⟨pl, rq, lk, op, dn, fa, wa, oc, [], ls⟩ b → b = p ∨ H b = none := fun b hb => by
    rcases hb with hb | hb | hb | hb
    · exact .inl hb
    · simp only [List.mem_cons, List.not_mem_nil, or_false] at hb
      rcases hb with hb | hb | hb | hb | hb | hb | hb <;> rw [hb] <;> refine .inr ?_ <;> assumption
    · cases hb
    · exact .inr (als b hb).1
  refine kk H9 ⟨pl, rq, lk, op, dn, fa, wa, oc, [], ls⟩ rfl ?_ f9 own
  exact {
    pl := ⟨P, _, plan0⟩
    fz := fun b o e => f9 b o (fz0 b o e) (by rintro rfl; rw [hF] at e; cases e)
    out := fun b hb => by
      rcases own b hb with z | z
      · rw [z]
        exact hF
      · cases q : F b with
        | none => rfl
        | some u => rw [fz0 b u q] at z; cases z
    run := ⟨dx, p9⟩
    rq := erq
    lk := elk
    op := eop
    dn := by rw [edn, down_new]
    fa := by rw [efa, slow_new]
    wa := by rw [ewa, wait_new]
    oc_ := by rw [eoc, occ_new]
    lrs := rfl
    lls := by show ls.length = (hs.asks.map _).length; rw [List.length_map]; exact lls
    lwt := Cw.waitsOf_len
    loc := Cw.occsOf_len
    rqs := fun i q r h1 h2 => by cases h1
    lks := fun i q l h1 h2 => by
      have h3 : (hs.asks.map fun _ => (⟨0, 0, 0, none⟩ : Gp27.Link))[i]? = some l := h2
      rw [List.getElem?_map] at h3
      cases e : hs.asks[i]? with
      | none => rw [e] at h3; cases h3
      | some y =>
        rw [e] at h3
        cases h3
        exact (als q (List.mem_of_getElem? h1)).2.2
    nd := by
      refine List.nodup_cons.mpr ⟨?_, List.nodup_cons.mpr ⟨?_, List.nodup_cons.mpr ⟨?_, List.nodup_cons.mpr ⟨?_, List.nodup_cons.mpr ⟨?_, List.nodup_cons.mpr ⟨?_, List.nodup_cons.mpr ⟨?_, List.nodup_nil⟩⟩⟩⟩⟩⟩⟩
      · simp only [List.mem_cons, List.not_mem_nil, or_false, not_or]
        exact ⟨drqlk, drqop, drqdn, drqfa, drqwa, drqoc⟩
      · simp only [List.mem_cons, List.not_mem_nil, or_false, not_or]
        exact ⟨dlkop, dlkdn, dlkfa, dlkwa, dlkoc⟩
      · simp only [List.mem_cons, List.not_mem_nil, or_false, not_or]
        exact ⟨dopdn, dopfa, dopwa, dopoc⟩
      · simp only [List.mem_cons, List.not_mem_nil, or_false, not_or]
        exact ⟨ddnfa, ddnwa, ddnoc⟩
      · simp only [List.mem_cons, List.not_mem_nil, or_false, not_or]
        exact ⟨dfawa, dfaoc⟩
      · simp only [List.mem_cons, List.not_mem_nil, or_false, not_or]
        exact dwaoc
      · exact fun z => by cases z
    ndr := List.nodup_nil
    ndl := ndl }
theorem ok_Run_init (T : Txt w K mg) : Has P w K mg base 4 (He.fAd K ("Run", some "__init__")) ["self", "plan"] (sp_Run_init K) := by
  have G_Link_init := ok_Link_init (P := P) (base := base) T
  refine Has.of (T.d_Run_init) sc_Run_init (fun _ _ _ _ _ _ us hl => match us, hl with | [_, _], _ => rfl) len_Run_init (t_Run_init K) (fun cdv A outer s H E hr => ?_) (pure_Run_init T)
  have nd := sc_Run_init.nd
  exact (pss_cons (ps_set (i := 2) nd rfl (Or.inl rfl) (pe_callB call_len_seq (by rfl) T.b_len PySem.boot_len (pa_cons (pe_fld (pw 1) rfl) pa_nil)))
      (pss_cons (ps_fld (pw 0) (pw 1) rfl)
      (pss_cons (ps_fld (pw 0) pe_int rfl)
      (pss_cons (ps_fld (pw 0) (pe_lst pa_nil) rfl)
      (pss_cons (ps_fld (pw 0) (pe_lc (own := [("ask", 3)]) (by rfl) nd (pi_list (pe_fld (pw 1) rfl)) (blkOk_by (own := [("ask", 3)]) (N := N_Run_init) (sc := defScope s_Run_init) (by decide +kernel)) (fun _ _ _ _ _ => (pg_name (i := 3) nd rfl (Or.inl rfl))) (fun _ _ _ _ _ => pts_nil) (fun _ _ _ _ _ => (pe_mk0 T.k_Link G_Link_init (hr.mono (by decide)) rfl T.g_Link))) rfl)
      (pss_cons (ps_fld (pw 0) (pe_lc (own := [("ask", 3)]) (by rfl) nd (pi_list (pe_fld (pw 1) rfl)) (blkOk_by (own := [("ask", 3)]) (N := N_Run_init) (sc := defScope s_Run_init) (by decide +kernel)) (fun _ _ _ _ _ => (pg_name (i := 3) nd rfl (Or.inl rfl))) (fun _ _ _ _ _ => pts_nil) (fun _ _ _ _ _ => (pe_fld (pw 3) rfl))) rfl)
      (pss_cons (ps_fld (pw 0) (pe_op op_rep (pe_lst (pa_cons pe_bl pa_nil)) (pw 2)) rfl)
      (pss_cons (ps_fld (pw 0) (pe_op op_rep (pe_lst (pa_cons pe_int pa_nil)) (pw 2)) rfl)
      (pss_cons (ps_fld (pw 0) (pe_op op_rep (pe_lst (pa_cons pe_int pa_nil)) (pw 2)) rfl)
      (pss_one (ps_fld (pw 0) (pe_op op_rep (pe_lst (pa_cons pe_int pa_nil)) (pw 2)) rfl)))))))))))
end
end Cc
end

/-! ## CcRunG -/
section
set_option maxRecDepth 100000
set_option maxHeartbeats 4000000
/-! An isolated request. -/
namespace Cc
open PySem PySem.Spec PyProof.Rows L2
open Cw (rawOf rawsOf waitsOf occsOf SameUp)
def sp_isolated (K : PySem.W.Frag) : Sp := fun vs H Q _ => ∃ (pl d o : Addr) (e : Nat) (P : PAd) (h h' : Gp27.House) (m : List Bool) (downs : List Nat), vs = [.ref pl, .int (e : Int), .ref d, .ref o] ∧ PlanAt K H pl P h m ∧ Cw.HouseOk h ∧ SameUp h h' ∧ e < h.entries.length ∧
  downs.Nodup ∧ (∀ s ∈ downs, s < h.services.length) ∧ SqL K H d ((List.range h.services.length).map fun s => V.bl (downs.contains s)) ∧ SqL K H o (mayV h') ∧
  ∀ (H' : Hp) (a : Addr) (A : Ad), RunW K H H' a A (Gp27.alone h' downs e) → Q (.ref a) H'
theorem len_isolated {K : PySem.W.Frag} : ∀ vs H Q E, sp_isolated K vs H Q E → vs.length = (["plan", "entry", "down", "optional"] : List Str).length := by rintro _ _ _ _ ⟨_, _, _, _, _, _, _, _, _, rfl, _⟩; rfl
abbrev N_isolated : List Str := ["plan", "entry", "down", "optional", "gate", "run"]
theorem sc_isolated : FnScope N_isolated ["plan", "entry", "down", "optional"] (defScope s_isolated) := ⟨rfl, rfl, rfl, by decide +kernel, rfl, by decide +kernel, by decide +kernel⟩
def t_isolated (K : PySem.W.Frag) : TS := (tSeq (tAsg (tOp (rIxL K) (tFld K (tVar 0) "gates") (tVar 1)) (gName 4))
  (tSeq (tAsg (tMake (cRun K) (sp_Run_init K) [] E0 (tCons (tVar 0) tNil)) (gName 5))
  (tSeq (sFld K (tVar 5) (tCB (rListQ K) (tCons (tVar 2) tNil)) "down")
  (tSeq (sFld K (tVar 5) (tCB (rListQ K) (tCons (tVar 3) tNil)) "optional")
  (tSeq (tDrop (tMeth (cRun K) "create" (sp_Run_create K) [] E0 (tVar 5) (tCons (tFld K (tVar 4) "service") (tCons (tOp rAddI (tVar 1) (tC (.int 1))) (tCons (tFld K (tVar 4) "timeout") tNil)))))
  (tSeq (tDrop (tMeth (cRun K) "do_ticks" (sp_Run_do_ticks K) [] E0 (tVar 5) (tCons (tC (.int (201))) tNil)))
  (tRet (tVar 5))))))))
section
variable {P : Program} {w : World} {K : PySem.W.Frag} {mg : Str → Option Value} {base : Heap}
theorem PlanAt.up {F : Hp} {pl : Addr} {P : PAd} {h h' : Gp27.House} {m : List Bool} (x : PlanAt K F pl P h m) (s : SameUp h h') : PlanAt K F pl P h' m := by
  refine ⟨x.at_, x.sv, x.ak, x.gt, by rw [s.sv]; exact x.ls, by rw [s.sv]; exact x.lt, by rw [s.la]; exact x.la, by rw [s.la]; exact x.lm, by rw [s.en]; exact x.lg, by rw [s.sv]; exact x.svs, fun i a' ha => ?_, by rw [s.en]; exact x.gts⟩
  obtain ⟨a, e1, e2⟩ := s.ak i a' ha
  obtain ⟨p, b, h1, h2, h3⟩ := x.aks i a e1
  refine ⟨p, b, h1, h2, ?_⟩
  rw [e2]
  exact h3
theorem PlanAt.own {F : Hp} {pl : Addr} {P : PAd} {h : Gp27.House} {m : List Bool} (x : PlanAt K F pl P h m) : PlanAt K F pl P (Cw.withMay h m) ((Cw.withMay h m).asks.map fun a => a.may) := by
  have y := x.up (Cw.withMay_same (m := m))
  have e : (Cw.withMay h m).asks.map (fun a => a.may) = m := by
    apply List.ext_getElem?
    intro i
    by_cases hi : i < h.asks.length
    · rw [List.getElem?_map, Cw.withMay_at (Cw.askOf_eq hi)]
      have hm : i < m.length := by rw [x.lm]; exact hi
      show some (m.getD i false) = _
      rw [List.getD_eq_getElem?_getD, List.getElem?_eq_getElem hm] <;> rfl
    · rw [List.getElem?_eq_none (by rw [List.length_map, Cw.withMay_len]; omega), List.getElem?_eq_none (by rw [x.lm]; omega)]
  rw [e]
  exact y
section
variable {F H H' : Hp} {a : Addr} {A : Ad} {w : Gp27.World} {raws : List Raw} {wt oc : List Int}
theorem own_dn {l b : Addr} (h : Own a { A with dn := l } b) : Own a A b ∨ b = l := by
  rcases h with h | h | h | h
  · exact .inl (.inl h)
  · simp only [List.mem_cons, List.not_mem_nil, or_false] at h
    rcases h with h | h | h | h | h | h | h
    · exact .inl (.inr (.inl (by rw [h]; simp)))
    · exact .inl (.inr (.inl (by rw [h]; simp)))
    · exact .inl (.inr (.inl (by rw [h]; simp)))
    · exact .inr h
    · exact .inl (.inr (.inl (by rw [h]; simp)))
    · exact .inl (.inr (.inl (by rw [h]; simp)))
    · exact .inl (.inr (.inl (by rw [h]; simp)))
  · exact .inl (.inr (.inr (.inl h)))
  · exact .inl (.inr (.inr (.inr h)))
theorem own_op {l b : Addr} (h : Own a { A with op := l } b) : Own a A b ∨ b = l := by
  rcases h with h | h | h | h
  · exact .inl (.inl h)
  · simp only [List.mem_cons, List.not_mem_nil, or_false] at h
    rcases h with h | h | h | h | h | h | h
    · exact .inl (.inr (.inl (by rw [h]; simp)))
    · exact .inl (.inr (.inl (by rw [h]; simp)))
    · exact .inr h
    · exact .inl (.inr (.inl (by rw [h]; simp)))
    · exact .inl (.inr (.inl (by rw [h]; simp)))
    · exact .inl (.inr (.inl (by rw [h]; simp)))
    · exact .inl (.inr (.inl (by rw [h]; simp)))
  · exact .inl (.inr (.inr (.inl h)))
  · exact .inl (.inr (.inr (.inr h)))
/-- another list of what is down -/
theorem RunAt.newD (R : RunAt K F H a A w raws wt oc) {l : Addr} {d : List Nat} (hl : H l = none) (h1 : AtRun K H' a { A with dn := l } w.now) (h2 : H' l = some (.lst (downV { w with down := d }))) (f : Fr1 a H H') : RunAt K F H' a { A with dn := l } { w with down := d } raws wt oc where
  pl := R.pl
  fz := fun b o e => f b o (R.fz b o e) (by rintro rfl; rw [R.out _ (.inl rfl)] at e; cases e)
  out := fun b hb => by
    rcases own_dn hb with z | z
    · exact R.out b z
    · cases q : F b with
      | none => rfl
      | some o =>
        rw [z] at q
        rw [R.fz l o q] at hl
        cases hl
  run := h1
  rq := f _ _ R.rq (ne_run_lst R.run R.rq).symm
  lk := f _ _ R.lk (ne_run_lst R.run R.lk).symm
  op := f _ _ R.op (ne_run_lst R.run R.op).symm
  dn := h2
  fa := f _ _ R.fa (ne_run_lst R.run R.fa).symm
  wa := f _ _ R.wa (ne_run_lst R.run R.wa).symm
  oc_ := f _ _ R.oc_ (ne_run_lst R.run R.oc_).symm
  lrs := R.lrs
  lls := R.lls
  lwt := R.lwt
  loc := R.loc
  rqs := fun i p r h1 h2 => (R.rqs i p r h1 h2).fr f (ne_run_rq R.run (R.rqs i p r h1 h2)).symm
  lks := fun i p l h1 h2 => (R.lks i p l h1 h2).fr f (ne_run_lk R.run (R.lks i p l h1 h2)).symm
  nd := by
    have n := R.nd
    simp only [List.nodup_cons, List.mem_cons, List.not_mem_nil, or_false, not_or, List.nodup_nil, and_true, not_false_eq_true] at n ⊢
    obtain ⟨⟨a1, a2, a3, a4, a5, a6⟩, ⟨b1, b2, b3, b4, b5⟩, ⟨c1, c2, c3, c4⟩, ⟨d1, d2, d3⟩, e⟩ := n
    exact ⟨⟨a1, a2, ne_of_none R.rq hl, a4, a5, a6⟩, ⟨b1, ne_of_none R.lk hl, b3, b4, b5⟩, ⟨ne_of_none R.op hl, c2, c3, c4⟩, ⟨(ne_of_none R.fa hl).symm, (ne_of_none R.wa hl).symm, (ne_of_none R.oc_ hl).symm⟩, e⟩
  ndr := R.ndr
  ndl := R.ndl
/-- another list of what is optional -/
theorem RunAt.newO (R : RunAt K F H a A w raws wt oc) {l : Addr} {h : Gp27.House} (s : SameUp w.house h) (hl : H l = none) (h1 : AtRun K H' a { A with op := l } w.now) (h2 : H' l = some (.lst (mayV h))) (f : Fr1 a H H') : RunAt K F H' a { A with op := l } { w with house := h } raws wt oc where
  pl := by
    obtain ⟨P, m, x⟩ := R.pl
    exact ⟨P, m, x.up s⟩
  fz := fun b o e => f b o (R.fz b o e) (by rintro rfl; rw [R.out _ (.inl rfl)] at e; cases e)
  out := fun b hb => by
    rcases own_op hb with z | z
    · exact R.out b z
    · cases q : F b with
      | none => rfl
      | some o =>
        rw [z] at q
        rw [R.fz l o q] at hl
        cases hl
  run := h1
  rq := f _ _ R.rq (ne_run_lst R.run R.rq).symm
  lk := f _ _ R.lk (ne_run_lst R.run R.lk).symm
  op := h2
  dn := by
    have e : downV { w with house := h } = downV w := by
      unfold downV
      rw [show ({ w with house := h } : Gp27.World).house.services = w.house.services from s.sv]
    rw [e]
    exact f _ _ R.dn (ne_run_lst R.run R.dn).symm
  fa := by
    have e : slowV { w with house := h } = slowV w := by
      unfold slowV
      rw [show ({ w with house := h } : Gp27.World).house.services = w.house.services from s.sv]
      rfl
    rw [e]
    exact f _ _ R.fa (ne_run_lst R.run R.fa).symm
  wa := f _ _ R.wa (ne_run_lst R.run R.wa).symm
  oc_ := f _ _ R.oc_ (ne_run_lst R.run R.oc_).symm
  lrs := R.lrs
  lls := R.lls
  lwt := by rw [show ({ w with house := h } : Gp27.World).house.services = w.house.services from s.sv]; exact R.lwt
  loc := by rw [show ({ w with house := h } : Gp27.World).house.services = w.house.services from s.sv]; exact R.loc
  rqs := fun i p r h1 h2 => (R.rqs i p r h1 h2).fr f (ne_run_rq R.run (R.rqs i p r h1 h2)).symm
  lks := fun i p l h1 h2 => (R.lks i p l h1 h2).fr f (ne_run_lk R.run (R.lks i p l h1 h2)).symm
  nd := by
    have n := R.nd
    simp only [List.nodup_cons, List.mem_cons, List.not_mem_nil, or_false, not_or, List.nodup_nil, and_true, not_false_eq_true] at n ⊢
    obtain ⟨⟨a1, a2, a3, a4, a5, a6⟩, ⟨b1, b2, b3, b4, b5⟩, ⟨c1, c2, c3, c4⟩, e⟩ := n
    exact ⟨⟨a1, ne_of_none R.rq hl, a3, a4, a5, a6⟩, ⟨ne_of_none R.lk hl, b2, b3, b4, b5⟩, ⟨(ne_of_none R.dn hl).symm, (ne_of_none R.fa hl).symm, (ne_of_none R.wa hl).symm, (ne_of_none R.oc_ hl).symm⟩, e⟩
  ndr := R.ndr
  ndl := R.ndl
end
/-- run.f = list(xs) -/
theorem fld_list {σ : L2.St} {H : Hp} {D : Ends} {i j : Nat} {p C dx d : Addr} {fs : List (Str × V)} {f : Str} {ys : List V} (h0 : σ[i]? = some (some (.ref p))) (h1 : σ[j]? = some (some (.ref d))) (hx : SqL K H d ys)
    (hp : H p = some (.ins C dx fs)) (c : Cls K C) (n : NoAttr K C f) (hl : fs.length < 1000)
    (q : ∀ (l : Addr) (H2 : Hp), H l = none → H2 l = some (.lst ys) → H2 p = some (.ins C dx (putF f (.ref l) fs)) → Fr1 p H H2 → D.nx σ H2) : sFld K (tVar i) (tCB (rListQ K) (tCons (tVar j) tNil)) f D σ H := by
  refine ⟨_, h1, d, ys, rfl, .inl hx, fun l hn => ⟨_, h0, p, C, dx, fs, rfl, same_new hn _ _ hp, c, n, hl, q l _ hn ?_ upd_same fun b o hb hne => ?_⟩⟩
  · rw [upd_ne (ne_of_none hp hn).symm]
    exact upd_same
  · rw [upd_ne hne]
    exact same_new hn b o hb
theorem pure_isolated (T : Txt w K mg) (vs : List V) (H : Hp) (Q : VK) (E : XK) (h : sp_isolated K vs H Q E) : t_isolated K { nx := fun _ H' => Q .non H', rt := Q } (start N_isolated vs) H := by
  obtain ⟨pl, d, o, e, P, h, h', m, downs, rfl, plan, HO, su, he, nd, hd, hxd, hxo, kk⟩ := h
  obtain ⟨gp, nm, g1, g2, g3⟩ := plan.gts e _ (List.getElem?_eq_getElem he)
  refine st_set (val_ix (vpl_gates T (val_var rfl) plan.at_) (val_var rfl) (SqL.of plan.gt) rfl (map_at g1)) ?_
  have HO' := su.ok HO
  refine st_mkset (va_cons (val_var rfl) va_nil) fun x dx nx ndx ne => ⟨x, dx, pl, H, P, Cw.withMay h m, rfl, upd_same, nx, fun b u hb => by rw [upd_ne (ne_of_none hb nx), upd_ne (ne_of_none hb ndx)]; exact hb, plan.own, by show h.services.length ≤ 1000; have := HO.ns; omega, by rw [Cw.withMay_len]; have := HO.na; omega, fun H1 A hA R f1 own => ⟨rfl, ?_⟩⟩
  obtain ⟨d1, e1⟩ := id R.run
  refine fld_list (i := 5) (j := 2) rfl rfl (Same.seq R.fz hxd) e1 T.c_Run T.n_Run_down (by show 9 < 1000; decide) fun l H2 hl q1 q2 f2 => ?_
  rw [rnF_put_down] at q2
  have R2 := RunAt.newD R (d := downs) hl ⟨d1, q2⟩ q1 f2
  refine fld_list (i := 5) (j := 3) rfl rfl (Same.seq R2.fz hxo) q2 T.c_Run T.n_Run_optional (by show 9 < 1000; decide) fun l2 H3 hl2 q3 q4 f3 => ?_
  rw [rnF_put_optional] at q4
  have R3 := RunAt.newO R2 (h := h') (Cw.withMay_up su m) hl2 ⟨d1, q4⟩ q3 f3
  have ew : ({ ({ Gp27.worldOf (Cw.withMay h m) with down := downs } : Gp27.World) with house := h' } : Gp27.World) = { Gp27.worldOf h' with down := downs } := Cw.world_up (Cw.withMay_up su m)
  have R4 : RunW K H H3 x { ({ A with dn := l } : Ad) with op := l2 } { Gp27.worldOf h' with down := downs } := by
    rw [← ew]
    have z1 : waitsOf { ({ Gp27.worldOf (Cw.withMay h m) with down := downs } : Gp27.World) with house := h' } = waitsOf (Gp27.worldOf (Cw.withMay h m)) := by
      unfold waitsOf
      rw [show ({ ({ Gp27.worldOf (Cw.withMay h m) with down := downs } : Gp27.World) with house := h' } : Gp27.World).house.services = (Gp27.worldOf (Cw.withMay h m)).house.services from su.sv]
      rfl
    have z2 : occsOf { ({ Gp27.worldOf (Cw.withMay h m) with down := downs } : Gp27.World) with house := h' } = occsOf (Gp27.worldOf (Cw.withMay h m)) := by
      unfold occsOf
      rw [show ({ ({ Gp27.worldOf (Cw.withMay h m) with down := downs } : Gp27.World) with house := h' } : Gp27.World).house.services = (Gp27.worldOf (Cw.withMay h m)).house.services from su.sv]
      rfl
    show RunAt K H H3 x _ _ _ _ _
    rw [z1, z2]
    exact R3
  have hx : ({ Gp27.worldOf h' with down := downs } : Gp27.World).house.entries[e]? = some (h.entries[e]) := by
    show h'.entries[e]? = _
    rw [su.en]
    exact List.getElem?_eq_getElem he
  have W0 : Cw.WOk { Gp27.worldOf h' with down := downs } := Cw.world_ok HO' nd (by rw [su.sv]; exact hd)
  have hs : (h.entries[e]).service < ({ Gp27.worldOf h' with down := downs } : Gp27.World).house.services.length := HO'.en _ (by rw [su.en]; exact List.getElem_mem he)
  have g2' : AtGate K H3 gp nm h.entries[e] := by
    obtain ⟨dg, z⟩ := g2
    exact ⟨dg, R4.fz _ _ z⟩
  obtain ⟨d4, e4⟩ := id R4.run
  refine st_mt (val_var rfl) e4 (rnF_m_create _ _) (va_cons (vgt_service T (val_var rfl) g2') (va_cons (val_add (val_var rfl) val_c) (va_cons (vgt_timeout T (val_var rfl) g2') va_nil))) ⟨x, H, _, _, _, (h.entries[e]).most, some e, rfl, R4, hs, by show 0 ≤ 10000; decide, fun H5 A5 R5 x5 => ?_⟩
  have ee : Gp27.comes { Gp27.worldOf h' with down := downs } (h.entries[e]).service (some e) (h.entries[e]).most = Gp27.enter { Gp27.worldOf h' with down := downs } e := by
    rw [Cw.enter_eq hx]
    show _ = Gp27.comes _ _ _ (0 + _)
    rw [Nat.zero_add]
  rw [ee] at R5
  obtain ⟨d5, e5⟩ := id R5.run
  have hl5 : (Gp27.enter { Gp27.worldOf h' with down := downs } e).requests.length = 1 := by
    rw [Cw.enter_eq hx, Cw.comes_len]
    rfl
  refine st_mt (val_var rfl) e5 (rnF_m_do_ticks _ _) (va_cons val_c va_nil) ⟨x, H, A5, _, 201, rfl, R5, Cw.enter_ok W0 hx, by rw [hl5]; decide, by decide, fun H6 A6 R6 x6 => ?_⟩
  exact st_ret (val_var rfl) (kk H6 x A6 R6)
theorem ok_isolated (T : Txt w K mg) : Has P w K mg base 11 (He.fAd K ("isolated", none)) ["plan", "entry", "down", "optional"] (sp_isolated K) := by
  have G_Run_init := ok_Run_init (P := P) (base := base) T
  have G_Run_create := ok_Run_create (P := P) (base := base) T
  have G_Run_do_ticks := ok_Run_do_ticks (P := P) (base := base) T
  refine Has.of (T.d_isolated) sc_isolated (fun _ _ _ _ _ _ us hl => match us, hl with | [_, _, _, _], _ => rfl) len_isolated (t_isolated K) (fun cdv A outer s H E hr => ?_) (pure_isolated T)
  have nd := sc_isolated.nd
  exact (pss_cons (ps_set (i := 4) nd rfl (Or.inl rfl) (pe_ix ix_list (pe_fld (pw 0) rfl) (pw 1) (fun _ _ => rfl)))
      (pss_cons (ps_set (i := 5) nd rfl (Or.inl rfl) (pe_mk T.k_Run G_Run_init (hr.mono (by decide)) rfl T.g_Run (pa_cons (pw 0) pa_nil)))
      (pss_cons (ps_fld (pw 5) (pe_callTy call_list_of (by rfl) T.b_list (by decide +kernel) (pa_cons (pw 2) pa_nil)) rfl)
      (pss_cons (ps_fld (pw 5) (pe_callTy call_list_of (by rfl) T.b_list (by decide +kernel) (pa_cons (pw 3) pa_nil)) rfl)
      (pss_cons (ps_expr (pe_mt (pw 5) T.c_Run T.m_Run_create G_Run_create (hr.mono (by decide)) (pa_cons (pe_fld (pw 4) rfl) (pa_cons (pe_op op_add (pw 1) pe_int) (pa_cons (pe_fld (pw 4) rfl) pa_nil)))))
      (pss_cons (ps_expr (pe_mt (pw 5) T.c_Run T.m_Run_do_ticks G_Run_do_ticks (hr.mono (by decide)) (pa_cons (pe_gi rfl T.i_ISOLATED_TICKS) pa_nil)))
      (pss_one (ps_ret (pw 5)))))))))
end
end Cc
end

/-! ## CcDeed -/
section
set_option maxRecDepth 100000
set_option maxHeartbeats 4000000
/-! The operations that change a run. -/
namespace Cc
open PySem PySem.Spec PyProof.Rows L2
open Cw (rawOf rawsOf waitsOf occsOf entN' GOk opOf)
/-- what an operation leaves: the world after it, its answer in a new list -/
def After (K : PySem.W.Frag) (F : Hp) (a : Addr) (A : Ad) (H : Hp) (w' : Gp27.World) (out : List Int) (Q : VK) : Prop :=
  ∀ (H' : Hp) (A' : Ad) (D : Addr), RunW K F H' a A' w' → Ext a A A' H H' → (¬ Own a A D → H D = none) → ¬ Own a A' D → H' D = some (.lst (out.map V.int)) → Q (.ref D) H'
/-- the promise of an operation: its number, how many arguments it takes -/
def spOp (K : PySem.W.Frag) (num ar : Nat) : Sp := fun vs H Q _ => ∃ (a p : Addr) (F : Hp) (A : Ad) (w : Gp27.World) (ns : List Nat), vs = [.ref a, .ref p] ∧ RunW K F H a A w ∧ GOk w ∧ H p = some (.lst (byV ns)) ∧ ns.length = ar ∧ ¬ Own a A p ∧
  After K F a A H (Gp27.step w (opOf num ns)).1 (Gp27.step w (opOf num ns)).2 Q
theorem len_op {K : PySem.W.Frag} {num ar : Nat} : ∀ vs H Q E, spOp K num ar vs H Q E → vs.length = (["run", "parts"] : List Str).length := by rintro _ _ _ _ ⟨_, _, _, _, _, _, rfl, _⟩; rfl
def sp_count_down (K : PySem.W.Frag) : Sp := fun vs H Q _ => ∃ (a : Addr) (F : Hp) (A : Ad) (w : Gp27.World), vs = [.ref a] ∧ RunW K F H a A w ∧ GOk w ∧ ∀ H', Same H H' → Q (.int (w.down.length : Nat)) H'
theorem len_count_down {K : PySem.W.Frag} : ∀ vs H Q E, sp_count_down K vs H Q E → vs.length = (["run"] : List Str).length := by rintro _ _ _ _ ⟨_, _, _, _, rfl, _⟩; rfl
abbrev sp_send (K : PySem.W.Frag) : Sp := spOp K 1 2
abbrev sp_passes (K : PySem.W.Frag) : Sp := spOp K 2 1
abbrev sp_take_down (K : PySem.W.Frag) : Sp := spOp K 3 1
abbrev sp_bring_up (K : PySem.W.Frag) : Sp := spOp K 4 1
abbrev sp_slow (K : PySem.W.Frag) : Sp := spOp K 5 2
theorem len_send {K : PySem.W.Frag} : ∀ vs H Q E, sp_send K vs H Q E → vs.length = (["run", "parts"] : List Str).length := len_op
theorem len_passes {K : PySem.W.Frag} : ∀ vs H Q E, sp_passes K vs H Q E → vs.length = (["run", "parts"] : List Str).length := len_op
theorem len_take_down {K : PySem.W.Frag} : ∀ vs H Q E, sp_take_down K vs H Q E → vs.length = (["run", "parts"] : List Str).length := len_op
theorem len_bring_up {K : PySem.W.Frag} : ∀ vs H Q E, sp_bring_up K vs H Q E → vs.length = (["run", "parts"] : List Str).length := len_op
theorem len_slow {K : PySem.W.Frag} : ∀ vs H Q E, sp_slow K vs H Q E → vs.length = (["run", "parts"] : List Str).length := len_op
abbrev N_send : List Str := ["run", "parts", "entry", "many", "gate", "begin", "turn", "ended", "request"]
theorem sc_send : FnScope N_send ["run", "parts"] (defScope s_send) := ⟨rfl, rfl, rfl, by decide +kernel, rfl, by decide +kernel, by decide +kernel⟩
def t_send (K : PySem.W.Frag) : TS := (tSeq (tPar 2 3 (tCons (tOp (rIxL K) (tVar 1) (tC (.int 0))) (tCons (tOp (rIxL K) (tVar 1) (tC (.int 1))) tNil)))
  (tSeq (tIfS (tTest (tOp rGeI (tVar 2) (tCB (rLenQ K) (tCons (tFld K (tFld K (tVar 0) "plan") "gates") tNil)))) (tRet (tLst (tCons (tC (.int (-2))) tNil))) tNext)
  (tSeq (tIfS (tOr (tTest (tOp rLtI (tVar 3) (tC (.int 1)))) (tTest (tOp rGtI (tVar 3) (tC (.int (20)))))) (tRet (tLst (tCons (tC (.int (-1))) tNil))) tNext)
  (tSeq (tIfS (tTest (tOp rGtI (tOp rAddI (tCB (rLenQ K) (tCons (tFld K (tVar 0) "requests") tNil)) (tVar 3)) (tC (.int (400))))) (tRet (tLst (tCons (tC (.int (-5))) tNil))) tNext)
  (tSeq (tAsg (tOp (rIxL K) (tFld K (tFld K (tVar 0) "plan") "gates") (tVar 2)) (gName 4))
  (tSeq (tAsg (tCB (rLenQ K) (tCons (tFld K (tVar 0) "requests") tNil)) (gName 5))
  (tSeq (tFor (iRng1 (tCons (tVar 3) tNil)) (gName 6) (tDrop (tMeth (cRun K) "create" (sp_Run_create K) [] E0 (tVar 0) (tCons (tFld K (tVar 4) "service") (tCons (tOp rAddI (tVar 2) (tC (.int 1))) (tCons (tOp rAddI (tFld K (tVar 0) "time") (tFld K (tVar 4) "timeout")) tNil))))))
  (tSeq (tAsg (tLc (iList K (tSl (rSlL K) (tFld K (tVar 0) "requests") (tPart (tVar 5)) tNoPart)) (gName 8) (tTest (tOp rEq (tFld K (tVar 8) "status") (tC (.int (4))))) (tVar 8) [8]) (gName 7))
  (tRet (tLst (tCons (tVar 5) (tCons (tCB (rLenQ K) (tCons (tVar 7) tNil)) tNil))))))))))))
abbrev N_passes : List Str := ["run", "parts", "many"]
theorem sc_passes : FnScope N_passes ["run", "parts"] (defScope s_passes) := ⟨rfl, rfl, rfl, by decide +kernel, rfl, by decide +kernel, by decide +kernel⟩
def t_passes (K : PySem.W.Frag) : TS := (tSeq (tAsg (tOp (rIxL K) (tVar 1) (tC (.int 0))) (gName 2))
  (tSeq (tIfS (tOr (tTest (tOp rLtI (tVar 2) (tC (.int 1)))) (tTest (tOp rGtI (tVar 2) (tC (.int (200)))))) (tRet (tLst (tCons (tC (.int (-1))) tNil))) tNext)
  (tSeq (tIfS (tTest (tOp rGtI (tCB (rLenQ K) (tCons (tFld K (tVar 0) "requests") tNil)) (tC (.int (400))))) (tRet (tLst (tCons (tC (.int (-5))) tNil))) tNext)
  (tSeq (tDrop (tMeth (cRun K) "do_ticks" (sp_Run_do_ticks K) [] E0 (tVar 0) (tCons (tVar 2) tNil)))
  (tRet (tLst (tCons (tFld K (tVar 0) "time") (tCons (tCB (rLenQ K) (tCons (tFld K (tVar 0) "requests") tNil)) (tCons (tCB (rLenQ K) (tCons (tMeth (cRun K) "active" (sp_Run_active K) [] E0 (tVar 0) tNil) tNil)) tNil)))))))))
abbrev N_count_down : List Str := ["run", "is_down"]
theorem sc_count_down : FnScope N_count_down ["run"] (defScope s_count_down) := ⟨rfl, rfl, rfl, by decide +kernel, rfl, by decide +kernel, by decide +kernel⟩
def t_count_down (K : PySem.W.Frag) : TS := (tRet (tCB (rLenQ K) (tCons (tLc (iList K (tFld K (tVar 0) "down")) (gName 1) (tB (tVar 1)) (tVar 1) [1]) tNil)))
abbrev N_take_down : List Str := ["run", "parts", "service"]
theorem sc_take_down : FnScope N_take_down ["run", "parts"] (defScope s_take_down) := ⟨rfl, rfl, rfl, by decide +kernel, rfl, by decide +kernel, by decide +kernel⟩
def t_take_down (K : PySem.W.Frag) : TS := (tSeq (tAsg (tOp (rIxL K) (tVar 1) (tC (.int 0))) (gName 2))
  (tSeq (tIfS (tTest (tOp rGeI (tVar 2) (tCB (rLenQ K) (tCons (tFld K (tVar 0) "down") tNil)))) (tRet (tLst (tCons (tC (.int (-2))) tNil))) tNext)
  (tSeq (tIfS (tB (tOp (rIxL K) (tFld K (tVar 0) "down") (tVar 2))) (tRet (tLst (tCons (tC (.int (-4))) tNil))) tNext)
  (tSeq (tAsg (tC (.bl true)) (gSub (tFld K (tVar 0) "down") (tVar 2) rSetL))
  (tRet (tLst (tCons (tCall (sp_count_down K) [] E0 (tCons (tVar 0) tNil)) tNil)))))))
abbrev N_bring_up : List Str := ["run", "parts", "service"]
theorem sc_bring_up : FnScope N_bring_up ["run", "parts"] (defScope s_bring_up) := ⟨rfl, rfl, rfl, by decide +kernel, rfl, by decide +kernel, by decide +kernel⟩
def t_bring_up (K : PySem.W.Frag) : TS := (tSeq (tAsg (tOp (rIxL K) (tVar 1) (tC (.int 0))) (gName 2))
  (tSeq (tIfS (tTest (tOp rGeI (tVar 2) (tCB (rLenQ K) (tCons (tFld K (tVar 0) "down") tNil)))) (tRet (tLst (tCons (tC (.int (-2))) tNil))) tNext)
  (tSeq (tIfS (tNot (tB (tOp (rIxL K) (tFld K (tVar 0) "down") (tVar 2)))) (tRet (tLst (tCons (tC (.int (-4))) tNil))) tNext)
  (tSeq (tAsg (tC (.bl false)) (gSub (tFld K (tVar 0) "down") (tVar 2) rSetL))
  (tRet (tLst (tCons (tCall (sp_count_down K) [] E0 (tCons (tVar 0) tNil)) tNil)))))))
abbrev N_slow : List Str := ["run", "parts", "service", "factor"]
theorem sc_slow : FnScope N_slow ["run", "parts"] (defScope s_slow) := ⟨rfl, rfl, rfl, by decide +kernel, rfl, by decide +kernel, by decide +kernel⟩
def t_slow (K : PySem.W.Frag) : TS := (tSeq (tPar 2 3 (tCons (tOp (rIxL K) (tVar 1) (tC (.int 0))) (tCons (tOp (rIxL K) (tVar 1) (tC (.int 1))) tNil)))
  (tSeq (tIfS (tTest (tOp rGeI (tVar 2) (tCB (rLenQ K) (tCons (tFld K (tVar 0) "factors") tNil)))) (tRet (tLst (tCons (tC (.int (-2))) tNil))) tNext)
  (tSeq (tIfS (tOr (tTest (tOp rLtI (tVar 3) (tC (.int 1)))) (tTest (tOp rGtI (tVar 3) (tC (.int (10)))))) (tRet (tLst (tCons (tC (.int (-1))) tNil))) tNext)
  (tSeq (tAsg (tVar 3) (gSub (tFld K (tVar 0) "factors") (tVar 2) rSetL))
  (tRet (tLst (tCons (tVar 3) tNil)))))))
section
variable {σ : L2.St} {K : PySem.W.Frag} {F H H1 : Hp} {a : Addr} {A A1 : Ad} {w w1 : Gp27.World} {D : Ends}
theorem Ext.none {A' : Ad} {H' : Hp} {d : Addr} (x : Ext a A A' H H') (h : H' d = none) : ¬ Own a A d → H d = none := fun n => by
  cases e : H d with
  | none => rfl
  | some o =>
    have := (x.keep d o e n).1
    rw [h] at this
    cases this
theorem ret_lst {r : TA} {vs : List V} (hv : VA r σ H vs) (hl : vs.length ≤ sizeLine) (q : ∀ p, H p = none → D.rt (.ref p) (upd H p (.lst vs))) : tRet (tLst r) D σ H := hv _ ⟨hl, q⟩
/-- a list is the answer -/
theorem op_new {out : List Int} {Q : VK} {d : Addr} (R : RunW K F H1 a A1 w1) (x : Ext a A A1 H H1) (kk : After K F a A H w1 out Q) (hd : H1 d = none) : Q (.ref d) (upd H1 d (.lst (out.map V.int))) :=
  kk _ A1 d (RunAt.mono R (same_new hd)) (x.trans (Ext.same (same_new hd))) (x.none hd) (R.not_own hd) upd_same
theorem op_ret {r : TA} {vs : List V} {out : List Int} (R : RunW K F H1 a A1 w1) (x : Ext a A A1 H H1) (kk : After K F a A H w1 out D.rt) (hv : VA r σ H1 vs) (he : vs = out.map V.int := by rfl) (hl : vs.length.ble 1000 = true := by rfl) : tRet (tLst r) D σ H1 :=
  ret_lst hv (Nat.le_trans (Nat.le_of_ble_eq_true hl) (by decide)) fun p hp => by
    rw [he]
    exact op_new R x kk hp
theorem st_par {i j : Nat} {x y : V} {r : TA} (hv : VA r σ H [x, y]) (q : D.nx ((σ.set i (some x)).set j (some y)) H) : tPar i j r D σ H := hv _ ⟨x, y, rfl, q⟩
theorem val_part {te : TE} {p : Addr} {ns : List Nat} {i x : Nat} (h : Val te σ H (.ref p)) (hp : H p = some (.lst (byV ns))) (hi : ns[i]? = some x) : Val (tOp (rIxL K) te (tC (.int (i : Int)))) σ H (.int (x : Nat)) := by
  refine val_ix h val_c (SqL.of hp) rfl ?_
  unfold byV
  rw [List.getElem?_map, hi] <;> rfl
theorem e_cut {te tl : TE} {p : Addr} {xs : List V} {n : Nat} {Q : VK} (h : Val te σ H (.ref p)) (hl : Val tl σ H (.int (n : Int))) (hx : SqL K H p xs) (q : ∀ d, H d = none → Q (.ref d) (upd H d (.lst (xs.drop n)))) : tSl (rSlL K) te (tPart tl) tNoPart σ H Q := by
  refine h _ (hl _ ⟨(n : Int), rfl, p, xs, rfl, hx, fun d hd => ?_⟩)
  have e : cutV xs (some (n : Int)) none = xs.drop n := by
    unfold cutV
    rw [HT.sIx_none, HT.sIx_nat]
    by_cases z : n ≤ xs.length
    · rw [Nat.min_eq_left z, List.take_of_length_le (by rw [List.length_drop]; omega)]
    · rw [Nat.min_eq_right (by omega), List.drop_of_length_le (Nat.le_refl _), List.drop_of_length_le (by omega), List.take_nil]
  rw [e]
  exact q d hd
theorem e_len {te : TE} {Q : VK} (h : te σ H fun v H' => ∃ p ys, [v] = [.ref p] ∧ (SqL K H' p ys ∨ SqT K H' p ys) ∧ Q (.int (ys.length : Nat)) H') : tCB (rLenQ K) (tCons te tNil) σ H Q := h
theorem e_ret {te : TE} (h : te σ H D.rt) : tRet te D σ H := h
theorem c_one {te : TE} {Q : List V → Hp → Prop} (h : te σ H fun v H' => Q [v] H') : tCons te tNil σ H Q := h
theorem e_asg {te : TE} {g : TG} (h : te σ H fun v H' => g v σ H' fun σ2 H2 => D.nx σ2 H2) : tAsg te g D σ H := h
theorem e_lcN {tl te : TE} {tt : TT} {g : TG} {vs : List Nat} {Q : VK} (h : tl σ H fun x H1 => tLc (iList K (tC x)) g tt te vs σ H1 Q) : tLc (iList K tl) g tt te vs σ H Q := h
theorem ret3 {t1 t2 t3 : TE} {x y : V} (h1 : Val t1 σ H x) (h2 : Val t2 σ H y) (h3 : t3 σ H fun v H' => [x, y, v].length ≤ sizeLine ∧ ∀ p, H' p = none → D.rt (.ref p) (upd H' p (.lst [x, y, v]))) : tRet (tLst (tCons t1 (tCons t2 (tCons t3 tNil)))) D σ H := h1 _ (h2 _ h3)
theorem RunAt.gates {raws : List Raw} {wt oc : List Int} (R : RunAt K F H a A w raws wt oc) : ∃ sv ak gt ss, AtPlan K H A.pl sv ak gt ∧ H gt = some (.lst ss) ∧ ss.length = w.house.entries.length ∧
    ∀ (s : Nat) e, w.house.entries[s]? = some e → ∃ p nm, ss[s]? = some (.ref p) ∧ AtGate K F p nm e := by
  obtain ⟨P, m, h⟩ := R.pl
  have h' := h.mono R.fz
  refine ⟨_, _, _, _, h'.at_, h'.gt, by rw [List.length_map]; exact h.lg, fun s e he => ?_⟩
  obtain ⟨p, nm, h1, h3, _⟩ := h.gts s _ he
  exact ⟨p, nm, by rw [List.getElem?_map, h1]; rfl, h3⟩
theorem AtGate.mono {p nm : Addr} {e : Gp27.Entry} (h : AtGate K F p nm e) (f : ∀ b o, F b = some o → H b = some o) : AtGate K H p nm e := by
  obtain ⟨d, z⟩ := h
  exact ⟨d, f _ _ z⟩
theorem reqs_eq {v : Gp27.World} : (List.range v.requests.length).map (Gp27.reqAt v) = v.requests := by
  apply List.ext_getElem?
  intro i
  by_cases hi : i < v.requests.length
  · rw [List.getElem?_map, List.getElem?_range hi, Cw.reqAt_eq hi] <;> rfl
  · rw [List.getElem?_eq_none (by rw [List.length_map, List.length_range]; omega), List.getElem?_eq_none (by omega)]
theorem cnt_drop {v : Gp27.World} {f : Gp27.Request → Bool} (n : Nat) : (((List.range v.requests.length).drop n).filter fun k => f (Gp27.reqAt v k)).length = ((v.requests.drop n).filter f).length := by
  conv => rhs; rw [← reqs_eq, ← List.map_drop, List.filter_map, List.length_map]
  rfl
theorem cnt_all {v : Gp27.World} {f : Gp27.Request → Bool} : ((List.range v.requests.length).filter fun k => f (Gp27.reqAt v k)).length = (v.requests.filter f).length := by
  have := cnt_drop (v := v) (f := f) 0
  exact this
/-- run.requests, cut -/
theorem refs_drop {A : Ad} {n m : Nat} (h : A.rs.length = n) : (A.rs.map V.ref).drop m = refsOf A ((List.range n).drop m) := by
  rw [← refs_all h]
  unfold refsOf
  rw [List.map_drop]
theorem downV_len : (downV w).length = w.house.services.length := by
  unfold downV
  rw [List.length_map, List.length_range]
theorem slowV_len : (slowV w).length = w.house.services.length := by
  unfold slowV
  rw [List.length_map, List.length_range]
theorem downV_set {s : Nat} {b : Bool} {d : List Nat} (hs : s < w.house.services.length) (h : ∀ j, d.contains j = if j = s then b else w.down.contains j) : (downV w).set s (.bl b) = downV { w with down := d } := by
  apply List.ext_getElem?
  intro i
  by_cases hi : i < w.house.services.length
  · rw [downV_at (w := { w with down := d }) hi, h]
    by_cases e : i = s
    · subst e
      rw [List.getElem?_set_self (by rw [downV_len]; exact hi), if_pos rfl]
    · rw [List.getElem?_set_ne (fun z => e z.symm), if_neg e, downV_at hi]
  · rw [List.getElem?_eq_none (by rw [List.length_set, downV_len]; omega), List.getElem?_eq_none (by rw [downV_len]; exact Nat.le_of_not_lt hi)]
theorem slowV_set {s k : Nat} {d : List (Nat × Nat)} (hs : s < w.house.services.length) (h : ∀ j, Gp27.slowness { w with slow := d } j = if j = s then k else Gp27.slowness w j) : (slowV w).set s (.int (k : Nat)) = slowV { w with slow := d } := by
  apply List.ext_getElem?
  intro i
  by_cases hi : i < w.house.services.length
  · rw [slowV_at (w := { w with slow := d }) hi, h]
    by_cases e : i = s
    · subst e
      rw [List.getElem?_set_self (by rw [slowV_len]; exact hi), if_pos rfl]
    · rw [List.getElem?_set_ne (fun z => e z.symm), if_neg e, slowV_at hi]
  · rw [List.getElem?_eq_none (by rw [List.length_set, slowV_len]; omega), List.getElem?_eq_none (by rw [slowV_len]; exact Nat.le_of_not_lt hi)]
theorem len1 {ns : List Nat} (h : ns.length = 1) : ∃ x, ns = [x] := by
  match ns, h with
  | [x], _ => exact ⟨x, rfl⟩
theorem len2 {ns : List Nat} (h : ns.length = 2) : ∃ x y, ns = [x, y] := by
  match ns, h with
  | [x, y], _ => exact ⟨x, y, rfl⟩
/-- how many requests are thus -/
theorem e_reqs {te tl : TE} {tt : TT} {j : Nat} {vs : List Nat} {Q : VK} {p : Addr} {ks : List Nat} (f : Gp27.Request → Bool) (R : RunW K F H a A w) (ha : Val tl σ H (.ref p)) (hx : H p = some (.lst (refsOf A ks))) (hk : ∀ k ∈ ks, k < w.requests.length) (hz : ks.length ≤ 1000000)
    (hw : ∀ v, wipe ((wipe σ vs).set j (some v)) vs = wipe σ vs)
    (ht : ∀ k q H', k < w.requests.length → AtRequest K H' q (rawOf (Gp27.reqAt w k)) → Ans tt ((wipe σ vs).set j (some (.ref q))) H' (f (Gp27.reqAt w k))) (he : ∀ q H', Val te ((wipe σ vs).set j (some (.ref q))) H' (.ref q))
    (q : ∀ D H', H D = none → Same H H' → H' D = some (.lst (refsOf A (ks.filter fun k => f (Gp27.reqAt w k)))) → Q (.ref D) H') : tLc (iList K tl) (gName j) tt te vs σ H Q := by
  refine e_lc ks (fun k => V.ref (A.rs.getD k 0)) (fun k => V.ref (A.rs.getD k 0)) (fun k => f (Gp27.reqAt w k)) ha (SqL.of hx) hz hw (fun k hm H' s => ?_) (fun k hm _ H' s => he _ _) q
  have hk' := hk k hm
  have R' := RunAt.mono R s
  exact ht k _ H' hk' (RunW.raw R' hk' (getD_get (by rw [R.len]; exact hk')))
end
section
variable {P : Program} {w : World} {K : PySem.W.Frag} {mg : Str → Option Value} {base : Heap}
theorem pure_count_down (T : Txt w K mg) (vs : List V) (H : Hp) (Q : VK) (E : XK) (h : sp_count_down K vs H Q E) : t_count_down K { nx := fun _ H' => Q .non H', rt := Q } (start N_count_down vs) H := by
  obtain ⟨a, F, A, w, rfl, R, G, kk⟩ := h
  refine e_ret (e_len ?_)
  refine e_lc (List.range w.house.services.length) (fun s => V.bl (w.down.contains s)) (fun s => V.bl (w.down.contains s)) (fun s => w.down.contains s) (vrn_down T (val_var rfl) R.run) (SqL.of R.dn) (by rw [List.length_range]; have := G.ok.hs.ns; omega) (fun _ => rfl) (fun k hk H' s => by exact ans_b (val_var rfl)) (fun k hk _ H' s => by exact val_var rfl) fun D H' hD s hd => ⟨D, _, rfl, .inl (SqL.of hd), ?_⟩
  rw [List.length_map, Cw.count_in G.ok.dn G.ok.db]
  exact kk H' s
theorem pure_take_down (T : Txt w K mg) (vs : List V) (H : Hp) (Q : VK) (E : XK) (h : sp_take_down K vs H Q E) : t_take_down K { nx := fun _ H' => Q .non H', rt := Q } (start N_take_down vs) H := by
  obtain ⟨a, p, F, A, w, ns, rfl, R, G, hp, hl, np, kk⟩ := h
  obtain ⟨s, rfl⟩ := len1 hl
  have kk : After K F a A H (if Gp27.hasService w s = false then (w, [-2]) else if w.down.contains s = true then (w, [-4]) else ({ w with down := w.down ++ [s] }, Gp27.ints [w.down.length + 1]) : Gp27.St × List Int).1 (if Gp27.hasService w s = false then (w, [-2]) else if w.down.contains s = true then (w, [-4]) else ({ w with down := w.down ++ [s] }, Gp27.ints [w.down.length + 1]) : Gp27.St × List Int).2 Q := kk
  refine st_set (val_part (val_var rfl) hp (i := 0) rfl) ?_
  refine st_ifd (p := Gp27.hasService w s = false) (Ans.to (ans_t (val_ge (val_var rfl) (val_len (vrn_down T (val_var rfl) R.run) (SqL.of R.dn)))) (decide_eq_decide.mpr (by rw [Cw.has_iff, downV_len]; show ((w.house.services.length : Int) ≤ (s : Int)) ↔ _; omega))) (fun h1 => ?_) (fun h1 => ?_)
  · rw [if_pos h1] at kk
    exact op_ret R Ext.refl kk (va_cons val_c va_nil)
  rw [if_neg h1] at kk
  have hs : s < w.house.services.length := Decidable.of_not_not fun z => h1 (Cw.has_iff.mpr z)
  refine st_if (b := w.down.contains s) (ans_b (val_ix (vrn_down T (val_var rfl) R.run) (val_var rfl) (SqL.of R.dn) rfl (downV_at hs))) (fun h2 => ?_) (fun h2 => ?_)
  · rw [if_pos h2] at kk
    exact op_ret R Ext.refl kk (va_cons val_c va_nil)
  rw [if_neg (by rw [h2]; decide)] at kk
  have R1 : RunW K F (upd H A.dn (.lst ((downV w).set s (.bl true)))) a A { w with down := w.down ++ [s] } := RunAt.setD R (d := w.down ++ [s]) (by
    rw [upd_same, downV_set hs (b := true) (d := w.down ++ [s])]
    intro j
    rw [List.contains_append]
    by_cases e : j = s
    · rw [if_pos e, e]; simp
    · rw [if_neg e]; simp [e]) fr_upd
  have G1 : GOk { w with down := w.down ++ [s] } := by
    have := Cw.step_ok G (.down s) (fun _ z => nomatch z)
    have e : (Gp27.step w (.down s)).1 = { w with down := w.down ++ [s] } := by
      show (if Gp27.hasService w s = false then (w, [-2]) else if w.down.contains s = true then (w, [-4]) else ({ w with down := w.down ++ [s] }, Gp27.ints [w.down.length + 1]) : Gp27.St × List Int).1 = _
      rw [if_neg h1, if_neg (by rw [h2]; decide)]
    rwa [e] at this
  refine st_setL (n := s) val_c (vrn_down T (val_var rfl) R.run) (val_var rfl) R.dn rfl (by rw [downV_len]; exact hs) ?_
  have x1 : Ext a A A H (upd H A.dn (.lst ((downV w).set s (.bl true)))) := Ext.one (own_lst (i := 3) rfl) fr_upd
  generalize upd H A.dn (.lst ((downV w).set s (.bl true))) = H1 at R1 x1
  refine e_fn (va_cons (val_var rfl) va_nil) ⟨a, F, A, _, rfl, R1, G1, fun H2 s2 => ⟨Nat.le_trans (show 1 ≤ 1000 by decide) (by decide), fun d hd => ?_⟩⟩
  have e : ([V.int (({ w with down := w.down ++ [s] } : Gp27.World).down.length : Nat)] : List V) = (Gp27.ints [w.down.length + 1]).map V.int := by
    show [V.int ((w.down ++ [s]).length : Nat)] = [V.int (w.down.length + 1 : Nat)]
    rw [List.length_append] <;> rfl
  rw [e]
  exact op_new (RunAt.mono R1 s2) (x1.trans (Ext.same s2)) kk hd
theorem pure_bring_up (T : Txt w K mg) (vs : List V) (H : Hp) (Q : VK) (E : XK) (h : sp_bring_up K vs H Q E) : t_bring_up K { nx := fun _ H' => Q .non H', rt := Q } (start N_bring_up vs) H := by
  obtain ⟨a, p, F, A, w, ns, rfl, R, G, hp, hl, np, kk⟩ := h
  obtain ⟨s, rfl⟩ := len1 hl
  have kk : After K F a A H (if Gp27.hasService w s = false then (w, [-2]) else if w.down.contains s = false then (w, [-4]) else ({ w with down := w.down.filter fun x => x != s }, Gp27.ints [w.down.length - 1]) : Gp27.St × List Int).1 (if Gp27.hasService w s = false then (w, [-2]) else if w.down.contains s = false then (w, [-4]) else ({ w with down := w.down.filter fun x => x != s }, Gp27.ints [w.down.length - 1]) : Gp27.St × List Int).2 Q := kk
  refine st_set (val_part (val_var rfl) hp (i := 0) rfl) ?_
  refine st_ifd (p := Gp27.hasService w s = false) (Ans.to (ans_t (val_ge (val_var rfl) (val_len (vrn_down T (val_var rfl) R.run) (SqL.of R.dn)))) (decide_eq_decide.mpr (by rw [Cw.has_iff, downV_len]; show ((w.house.services.length : Int) ≤ (s : Int)) ↔ _; omega))) (fun h1 => ?_) (fun h1 => ?_)
  · rw [if_pos h1] at kk
    exact op_ret R Ext.refl kk (va_cons val_c va_nil)
  rw [if_neg h1] at kk
  have hs : s < w.house.services.length := Decidable.of_not_not fun z => h1 (Cw.has_iff.mpr z)
  refine st_if (b := !w.down.contains s) (ans_not (ans_b (val_ix (vrn_down T (val_var rfl) R.run) (val_var rfl) (SqL.of R.dn) rfl (downV_at hs)))) (fun h2 => ?_) (fun h2 => ?_)
  · rw [if_pos (by simpa using h2)] at kk
    exact op_ret R Ext.refl kk (va_cons val_c va_nil)
  have h2' : w.down.contains s = true := by simpa using h2
  rw [if_neg (by rw [h2']; decide)] at kk
  have R1 : RunW K F (upd H A.dn (.lst ((downV w).set s (.bl false)))) a A { w with down := w.down.filter fun x => x != s } := RunAt.setD R (d := w.down.filter fun x => x != s) (by
    rw [upd_same, downV_set hs (b := false) (d := w.down.filter fun x => x != s)]
    intro j
    rw [Bool.eq_iff_iff, List.contains_iff_mem, List.mem_filter]
    by_cases e : j = s
    · rw [if_pos e, e]; simp
    · rw [if_neg e, List.contains_iff_mem]; simp [e]) fr_upd
  have G1 : GOk { w with down := w.down.filter fun x => x != s } := by
    have := Cw.step_ok G (.up s) (fun _ z => nomatch z)
    have e : (Gp27.step w (.up s)).1 = { w with down := w.down.filter fun x => x != s } := by
      show (if Gp27.hasService w s = false then (w, [-2]) else if w.down.contains s = false then (w, [-4]) else ({ w with down := w.down.filter fun x => x != s }, Gp27.ints [w.down.length - 1]) : Gp27.St × List Int).1 = _
      rw [if_neg h1, if_neg (by rw [h2']; decide)]
    rwa [e] at this
  refine st_setL (n := s) val_c (vrn_down T (val_var rfl) R.run) (val_var rfl) R.dn rfl (by rw [downV_len]; exact hs) ?_
  have x1 : Ext a A A H (upd H A.dn (.lst ((downV w).set s (.bl false)))) := Ext.one (own_lst (i := 3) rfl) fr_upd
  generalize upd H A.dn (.lst ((downV w).set s (.bl false))) = H1 at R1 x1
  refine e_fn (va_cons (val_var rfl) va_nil) ⟨a, F, A, _, rfl, R1, G1, fun H2 s2 => ⟨Nat.le_trans (show 1 ≤ 1000 by decide) (by decide), fun d hd => ?_⟩⟩
  have e : ([V.int (({ w with down := w.down.filter fun x => x != s } : Gp27.World).down.length : Nat)] : List V) = (Gp27.ints [w.down.length - 1]).map V.int := by
    show [V.int ((w.down.filter fun x => x != s).length : Nat)] = [V.int (w.down.length - 1 : Nat)]
    rw [Cw.len_without G.ok.dn (List.contains_iff_mem.mp h2')]
  rw [e]
  exact op_new (RunAt.mono R1 s2) (x1.trans (Ext.same s2)) kk hd
theorem pure_slow (T : Txt w K mg) (vs : List V) (H : Hp) (Q : VK) (E : XK) (h : sp_slow K vs H Q E) : t_slow K { nx := fun _ H' => Q .non H', rt := Q } (start N_slow vs) H := by
  obtain ⟨a, p, F, A, w, ns, rfl, R, G, hp, hl, np, kk⟩ := h
  obtain ⟨s, k, rfl⟩ := len2 hl
  have kk : After K F a A H (if Gp27.hasService w s = false then (w, [-2]) else if k = 0 ∨ 10 < k then (w, [-1]) else ({ w with slow := (s, k) :: w.slow.filter fun x => x.1 != s }, Gp27.ints [k]) : Gp27.St × List Int).1 (if Gp27.hasService w s = false then (w, [-2]) else if k = 0 ∨ 10 < k then (w, [-1]) else ({ w with slow := (s, k) :: w.slow.filter fun x => x.1 != s }, Gp27.ints [k]) : Gp27.St × List Int).2 Q := kk
  refine st_par (va_cons (val_part (val_var rfl) hp (i := 0) rfl) (va_cons (val_part (val_var rfl) hp (i := 1) rfl) va_nil)) ?_
  refine st_ifd (p := Gp27.hasService w s = false) (Ans.to (ans_t (val_ge (val_var rfl) (val_len (vrn_factors T (val_var rfl) R.run) (SqL.of R.fa)))) (decide_eq_decide.mpr (by rw [Cw.has_iff, slowV_len]; show ((w.house.services.length : Int) ≤ (s : Int)) ↔ _; omega))) (fun h1 => ?_) (fun h1 => ?_)
  · rw [if_pos h1] at kk
    exact op_ret R Ext.refl kk (va_cons val_c va_nil)
  rw [if_neg h1] at kk
  have hs : s < w.house.services.length := Decidable.of_not_not fun z => h1 (Cw.has_iff.mpr z)
  refine st_ifd (p := k = 0 ∨ 10 < k) (Ans.to (ans_or2 (ans_t (val_lt (val_var rfl) val_c)) fun _ => ans_t (val_gt (val_var rfl) val_c)) (by rw [Bool.eq_iff_iff, Bool.or_eq_true, decide_eq_true_iff, decide_eq_true_iff, decide_eq_true_iff]; show ((k : Int) < 1 ∨ (10 : Int) < (k : Int)) ↔ _; omega)) (fun h2 => ?_) (fun h2 => ?_)
  · rw [if_pos h2] at kk
    exact op_ret R Ext.refl kk (va_cons val_c va_nil)
  rw [if_neg h2] at kk
  have R1 : RunW K F (upd H A.fa (.lst ((slowV w).set s (.int (k : Nat))))) a A { w with slow := (s, k) :: w.slow.filter fun x => x.1 != s } := RunAt.setF R (d := (s, k) :: w.slow.filter fun x => x.1 != s) (by
    rw [upd_same, slowV_set hs (k := k) (d := (s, k) :: w.slow.filter fun x => x.1 != s) fun j => Cw.slow_at]) fr_upd
  refine st_setL (n := s) (val_var rfl) (vrn_factors T (val_var rfl) R.run) (val_var rfl) R.fa rfl (by rw [slowV_len]; exact hs) ?_
  exact op_ret R1 (Ext.one (own_lst (i := 4) rfl) fr_upd) kk (va_cons (val_var rfl) va_nil)
theorem pure_passes (T : Txt w K mg) (vs : List V) (H : Hp) (Q : VK) (E : XK) (h : sp_passes K vs H Q E) : t_passes K { nx := fun _ H' => Q .non H', rt := Q } (start N_passes vs) H := by
  obtain ⟨a, p, F, A, w, ns, rfl, R, G, hp, hl, np, kk⟩ := h
  obtain ⟨n, rfl⟩ := len1 hl
  have hlen := R.len
  refine st_set (val_part (val_var rfl) hp (i := 0) rfl) ?_
  have kk : After K F a A H (if n = 0 ∨ 200 < n then (w, [-1]) else if Gp27.MOST < w.requests.length then (w, [-5]) else (Gp27.ticks n w, Gp27.ints [(Gp27.ticks n w).now, (Gp27.ticks n w).requests.length, ((Gp27.ticks n w).requests.filter fun r => !Gp27.isOver r).length]) : Gp27.St × List Int).1 (if n = 0 ∨ 200 < n then (w, [-1]) else if Gp27.MOST < w.requests.length then (w, [-5]) else (Gp27.ticks n w, Gp27.ints [(Gp27.ticks n w).now, (Gp27.ticks n w).requests.length, ((Gp27.ticks n w).requests.filter fun r => !Gp27.isOver r).length]) : Gp27.St × List Int).2 Q := kk
  refine st_ifd (p := n = 0 ∨ 200 < n) (Ans.to (ans_or2 (ans_t (val_lt (val_var rfl) val_c)) fun _ => ans_t (val_gt (val_var rfl) val_c)) (by rw [Bool.eq_iff_iff, Bool.or_eq_true, decide_eq_true_iff, decide_eq_true_iff, decide_eq_true_iff]; show ((n : Int) < 1 ∨ (200 : Int) < (n : Int)) ↔ _; omega)) (fun h1 => ?_) (fun h1 => ?_)
  · rw [if_pos h1] at kk
    exact op_ret R Ext.refl kk (va_cons val_c va_nil)
  rw [if_neg h1] at kk
  refine st_ifd (p := Gp27.MOST < w.requests.length) (Ans.to (ans_t (val_gt (val_len (vrn_requests T (val_var rfl) R.run) (SqL.of R.rq)) val_c)) (decide_eq_decide.mpr (by rw [List.length_map, hlen]; show ((400 : Int) < (w.requests.length : Int)) ↔ 400 < _; omega))) (fun h2 => ?_) (fun h2 => ?_)
  · rw [if_pos h2] at kk
    exact op_ret R Ext.refl kk (va_cons val_c va_nil)
  rw [if_neg h2] at kk
  obtain ⟨dx, e⟩ := id R.run
  obtain ⟨_, _, hl2⟩ := Cw.ticks_ok G.ok G.len n
  refine st_mt (val_var rfl) e (rnF_m_do_ticks _ _) (va_cons (val_var rfl) va_nil) ⟨a, F, A, w, n, rfl, R, G.ok, G.len, by omega, fun H1 A1 R1 x1 => ?_⟩
  have hl1 := R1.len
  obtain ⟨d1, e1⟩ := id R1.run
  refine ret3 (vrn_time T (val_var rfl) R1.run) (val_len (vrn_requests T (val_var rfl) R1.run) (SqL.of R1.rq)) (e_len ?_)
  refine e_mt (val_var rfl) e1 (rnF_m_active _ _) va_nil ⟨a, F, A1, _, rfl, R1, by omega, fun d H2 hd s2 h2 => ⟨d, _, rfl, .inl (SqL.of h2), Nat.le_trans (show 3 ≤ 1000 by decide) (by decide), fun d3 hd3 => ?_⟩⟩
  have ee : ([V.int ((Gp27.ticks n w).now : Nat), V.int ((A1.rs.map V.ref).length : Nat), V.int ((refsOf A1 (Cw.act (Gp27.ticks n w))).length : Nat)] : List V) = (Gp27.ints [(Gp27.ticks n w).now, (Gp27.ticks n w).requests.length, ((Gp27.ticks n w).requests.filter fun r => !Gp27.isOver r).length]).map V.int := by
    unfold refsOf
    rw [List.length_map, List.length_map, hl1, ← cnt_all (f := fun r => !Gp27.isOver r)] <;> rfl
  rw [ee]
  exact op_new (RunAt.mono R1 s2) (x1.trans (Ext.same s2)) kk hd3
theorem pure_send (T : Txt w K mg) (vs : List V) (H : Hp) (Q : VK) (E : XK) (h : sp_send K vs H Q E) : t_send K { nx := fun _ H' => Q .non H', rt := Q } (start N_send vs) H := by
  obtain ⟨a, p, F, A, w, ns, rfl, R, G, hp, hl, np, kk⟩ := h
  obtain ⟨g, n, rfl⟩ := len2 hl
  have hlen := R.len
  have kk : After K F a A H (if w.house.entries.length ≤ g then (w, [-2]) else if n = 0 ∨ 20 < n then (w, [-1]) else if Gp27.MOST < w.requests.length + n then (w, [-5]) else (entN' w g n, Gp27.ints [w.requests.length, (((entN' w g n).requests.drop w.requests.length).filter (fun r => Gp27.isOver r)).length]) : Gp27.St × List Int).1 (if w.house.entries.length ≤ g then (w, [-2]) else if n = 0 ∨ 20 < n then (w, [-1]) else if Gp27.MOST < w.requests.length + n then (w, [-5]) else (entN' w g n, Gp27.ints [w.requests.length, (((entN' w g n).requests.drop w.requests.length).filter (fun r => Gp27.isOver r)).length]) : Gp27.St × List Int).2 Q := kk
  refine st_par (va_cons (val_part (val_var rfl) hp (i := 0) rfl) (va_cons (val_part (val_var rfl) hp (i := 1) rfl) va_nil)) ?_
  obtain ⟨sv, ak, gt, ss, p1, p2, p3, p4⟩ := R.gates
  refine st_ifd (p := w.house.entries.length ≤ g) (Ans.to (ans_t (val_ge (val_var rfl) (val_len (vpl_gates T (vrn_plan T (val_var rfl) R.run) p1) (SqL.of p2)))) (decide_eq_decide.mpr (by rw [p3]; show ((w.house.entries.length : Int) ≤ (g : Int)) ↔ _; omega))) (fun h1 => ?_) (fun h1 => ?_)
  · rw [if_pos h1] at kk
    exact op_ret R Ext.refl kk (va_cons val_c va_nil)
  rw [if_neg h1] at kk
  refine st_ifd (p := n = 0 ∨ 20 < n) (Ans.to (ans_or2 (ans_t (val_lt (val_var rfl) val_c)) fun _ => ans_t (val_gt (val_var rfl) val_c)) (by rw [Bool.eq_iff_iff, Bool.or_eq_true, decide_eq_true_iff, decide_eq_true_iff, decide_eq_true_iff]; show ((n : Int) < 1 ∨ (20 : Int) < (n : Int)) ↔ _; omega)) (fun h2 => ?_) (fun h2 => ?_)
  · rw [if_pos h2] at kk
    exact op_ret R Ext.refl kk (va_cons val_c va_nil)
  rw [if_neg h2] at kk
  refine st_ifd (p := Gp27.MOST < w.requests.length + n) (Ans.to (ans_t (val_gt (val_add (val_len (vrn_requests T (val_var rfl) R.run) (SqL.of R.rq)) (val_var rfl)) val_c)) (decide_eq_decide.mpr (by rw [List.length_map, hlen]; show ((400 : Int) < (w.requests.length : Int) + (n : Int)) ↔ 400 < _; omega))) (fun h3 => ?_) (fun h3 => ?_)
  · rw [if_pos h3] at kk
    exact op_ret R Ext.refl kk (va_cons val_c va_nil)
  rw [if_neg h3] at kk
  have hg : g < w.house.entries.length := Nat.lt_of_not_le h1
  have hx := List.getElem?_eq_getElem hg
  generalize w.house.entries[g] = x at hx
  obtain ⟨gp, nm, q1, q2⟩ := p4 g x hx
  refine st_set (val_ix (vpl_gates T (vrn_plan T (val_var rfl) R.run) p1) (val_var rfl) (SqL.of p2) rfl q1) ?_
  refine st_set (val_to (val_len (vrn_requests T (val_var rfl) R.run) (SqL.of R.rq)) (by rw [List.length_map, hlen])) ?_
  refine st_range1 (n := n) (va_cons (val_var rfl) va_nil) (by omega) (fun i σ' H' => ∃ (A' : Ad) (y : Option V), σ' = [some (.ref a), some (.ref p), some (.int (g : Int)), some (.int (n : Int)), some (.ref gp), some (.int (w.requests.length : Nat)), y, none, none] ∧ RunW K F H' a A' (entN' w g i) ∧ Ext a A A' H H') ⟨A, none, rfl, R, Ext.refl⟩ ?_ ?_
  · rintro i σ' H' hi ⟨A', y, rfl, R', x'⟩
    have en := Cw.entN_ok G.ok hx i
    have hx' : (entN' w g i).house.entries[g]? = some x := by rw [en.hh]; exact hx
    obtain ⟨d', e'⟩ := id R'.run
    have q3 := q2.mono R'.fz
    refine st_mt (val_var rfl) e' (rnF_m_create _ _) (va_cons (vgt_service T (val_var rfl) q3) (va_cons (val_add (val_var rfl) val_c) (va_cons (val_add (vrn_time T (val_var rfl) R'.run) (vgt_timeout T (val_var rfl) q3)) va_nil))) ⟨a, F, A', _, x.service, (entN' w g i).now + x.most, some g, rfl, R', by rw [en.hh]; exact G.ok.hs.en _ (List.mem_of_getElem? hx), by rw [en.ln]; have := G.len; omega, fun H3 A3 R3 x3 => ⟨A3, _, rfl, ?_, x'.trans x3⟩⟩
    rw [Cw.entN_succ, Cw.enter_eq hx']
    exact R3
  · rintro σ' H1 ⟨A1, y, rfl, R1, x1⟩
    have en := Cw.entN_ok G.ok hx n
    have hl1 := R1.len
    refine e_asg (e_lcN (e_cut (n := w.requests.length) (vrn_requests T (val_var rfl) R1.run) (val_var rfl) (SqL.of R1.rq) fun d hd => ?_))
    have R2 : RunW K F (upd H1 d (.lst ((A1.rs.map V.ref).drop w.requests.length))) a A1 (entN' w g n) := RunAt.mono R1 (same_new hd)
    have x2 := x1.trans (Ext.same (A := A1) (same_new (o := .lst ((A1.rs.map V.ref).drop w.requests.length)) hd))
    have hd2 : upd H1 d (.lst ((A1.rs.map V.ref).drop w.requests.length)) d = some (.lst (refsOf A1 ((List.range (entN' w g n).requests.length).drop w.requests.length))) := by rw [upd_same, refs_drop hl1]
    generalize upd H1 d (.lst ((A1.rs.map V.ref).drop w.requests.length)) = H2 at R2 x2 hd2
    refine e_reqs (tl := tC (.ref d)) (j := 8) (vs := [8]) (fun r => Gp27.isOver r) R2 val_c hd2 (fun k hk => List.mem_range.mp (List.mem_of_mem_drop hk)) (by rw [List.length_drop, List.length_range]; have := G.len; have := en.ln; omega) (fun _ => rfl) (fun k q H' hk hr => ?_) (fun q H' => by exact val_var rfl) fun D H3 hD s3 h3 => ?_
    · refine Ans.to (ans_t (val_eq (vrq_status T (val_var rfl) hr) val_c)) ?_
      rw [Bool.eq_iff_iff, decide_eq_true_iff, Cw.isOver_iff]
      exact ⟨fun z => Int.ofNat.inj (vi_eq.mp z), fun z => vi_eq.mpr (congrArg (fun n : Nat => (n : Int)) z)⟩
    · refine op_ret (RunAt.mono R2 s3) (x2.trans (Ext.same s3)) kk (va_cons (val_var rfl) (va_cons (val_len (val_var rfl) (SqL.of h3)) va_nil)) ?_
      unfold refsOf
      rw [List.length_map, cnt_drop (f := fun r => Gp27.isOver r)] <;> rfl
theorem ok_send (T : Txt w K mg) : Has P w K mg base 11 (He.fAd K ("send", none)) ["run", "parts"] (sp_send K) := by
  have G_Run_create := ok_Run_create (P := P) (base := base) T
  refine Has.of (T.d_send) sc_send (fun _ _ _ _ _ _ us hl => match us, hl with | [_, _], _ => rfl) len_send (t_send K) (fun cdv A outer s H E hr => ?_) (pure_send T)
  have nd := sc_send.nd
  exact (pss_cons (ps_par rfl nd rfl rfl (by decide) rfl rfl (pa_cons (pe_ix ix_list (pw 1) pe_int (fun _ _ => rfl)) (pa_cons (pe_ix ix_list (pw 1) pe_int (fun _ _ => rfl)) pa_nil)) rfl)
      (pss_cons (ps_if (pt_cmpR op_ge (pw 2) (pe_callB call_len_seq (by rfl) T.b_len PySem.boot_len (pa_cons (pe_fld (pe_fld (pw 0) rfl) rfl) pa_nil)) (nomark _)) (pss_one (ps_ret (pe_lst (pa_cons (pe_gi rfl T.i_NO_SUCH_deeds) pa_nil)))) pss_nil)
      (pss_cons (ps_if (PW.pt (pw_or (pt_cmpR op_lt (pw 3) pe_int (nomark _)) (pw_or1 (pt_cmpR op_gt (pw 3) (pe_gi rfl T.i_MOST_SENT) (nomark _))))) (pss_one (ps_ret (pe_lst (pa_cons (pe_gi rfl T.i_BAD_NUMBER) pa_nil)))) pss_nil)
      (pss_cons (ps_if (pt_cmpR op_gt (pe_op op_add (pe_callB call_len_seq (by rfl) T.b_len PySem.boot_len (pa_cons (pe_fld (pw 0) rfl) pa_nil)) (pw 3)) (pe_gi rfl T.i_MOST_REQUESTS) (nomark _)) (pss_one (ps_ret (pe_lst (pa_cons (pe_gi rfl T.i_TOO_MANY_REQUESTS) pa_nil)))) pss_nil)
      (pss_cons (ps_set (i := 4) nd rfl (Or.inl rfl) (pe_ix ix_list (pe_fld (pe_fld (pw 0) rfl) rfl) (pw 2) (fun _ _ => rfl)))
      (pss_cons (ps_set (i := 5) nd rfl (Or.inl rfl) (pe_callB call_len_seq (by rfl) T.b_len PySem.boot_len (pa_cons (pe_fld (pw 0) rfl) pa_nil)))
      (pss_cons (ps_for PassesOwn.never rfl (pi_range1 rfl T.b_range (pa_cons (pw 3) pa_nil)) (pg_name (i := 6) nd rfl (Or.inl rfl)) (pss_one (ps_expr (pe_mt (pw 0) T.c_Run T.m_Run_create G_Run_create (hr.mono (by decide)) (pa_cons (pe_fld (pw 4) rfl) (pa_cons (pe_op op_add (pw 2) pe_int) (pa_cons (pe_op op_add (pe_fld (pw 0) rfl) (pe_fld (pw 4) rfl)) pa_nil)))))))
      (pss_cons (ps_setLc (i := 7) (own := [("request", 8)]) (by rfl) nd rfl rfl (sw_true rfl rfl rfl (by decide +kernel)) (pi_list (pe_slice sl_list (pe_fld (pw 0) rfl) (po_some (pw 5)) po_none)) (blkOk_by (own := [("request", 8)]) (N := N_send) (sc := defScope s_send) (by decide +kernel)) (fun _ _ _ _ _ => (pg_name (i := 8) nd rfl (Or.inl rfl))) (fun _ _ _ _ _ => pts_one (pt_cmpR op_eq (pe_fld (pw 8) rfl) (pe_gi rfl T.i_ENDED) (nomark _))) (fun _ _ _ _ _ => (pw 8)))
      (pss_one (ps_ret (pe_lst (pa_cons (pw 5) (pa_cons (pe_callB call_len_seq (by rfl) T.b_len PySem.boot_len (pa_cons (pw 7) pa_nil)) pa_nil)))))))))))))
theorem ok_passes (T : Txt w K mg) : Has P w K mg base 11 (He.fAd K ("passes", none)) ["run", "parts"] (sp_passes K) := by
  have G_Run_do_ticks := ok_Run_do_ticks (P := P) (base := base) T
  have G_Run_active := ok_Run_active (P := P) (base := base) T
  refine Has.of (T.d_passes) sc_passes (fun _ _ _ _ _ _ us hl => match us, hl with | [_, _], _ => rfl) len_passes (t_passes K) (fun cdv A outer s H E hr => ?_) (pure_passes T)
  have nd := sc_passes.nd
  exact (pss_cons (ps_set (i := 2) nd rfl (Or.inl rfl) (pe_ix ix_list (pw 1) pe_int (fun _ _ => rfl)))
      (pss_cons (ps_if (PW.pt (pw_or (pt_cmpR op_lt (pw 2) pe_int (nomark _)) (pw_or1 (pt_cmpR op_gt (pw 2) (pe_gi rfl T.i_MOST_TICKS) (nomark _))))) (pss_one (ps_ret (pe_lst (pa_cons (pe_gi rfl T.i_BAD_NUMBER) pa_nil)))) pss_nil)
      (pss_cons (ps_if (pt_cmpR op_gt (pe_callB call_len_seq (by rfl) T.b_len PySem.boot_len (pa_cons (pe_fld (pw 0) rfl) pa_nil)) (pe_gi rfl T.i_MOST_REQUESTS) (nomark _)) (pss_one (ps_ret (pe_lst (pa_cons (pe_gi rfl T.i_TOO_MANY_REQUESTS) pa_nil)))) pss_nil)
      (pss_cons (ps_expr (pe_mt (pw 0) T.c_Run T.m_Run_do_ticks G_Run_do_ticks (hr.mono (by decide)) (pa_cons (pw 2) pa_nil)))
      (pss_one (ps_ret (pe_lst (pa_cons (pe_fld (pw 0) rfl) (pa_cons (pe_callB call_len_seq (by rfl) T.b_len PySem.boot_len (pa_cons (pe_fld (pw 0) rfl) pa_nil)) (pa_cons (pe_callB call_len_seq (by rfl) T.b_len PySem.boot_len (pa_cons (pe_mt0 (pw 0) T.c_Run T.m_Run_active G_Run_active (hr.mono (by decide))) pa_nil)) pa_nil))))))))))
theorem ok_count_down (T : Txt w K mg) : Has P w K mg base 1 (He.fAd K ("count_down", none)) ["run"] (sp_count_down K) := by
  refine Has.of (T.d_count_down) sc_count_down (fun _ _ _ _ _ _ us hl => match us, hl with | [_], _ => rfl) len_count_down (t_count_down K) (fun cdv A outer s H E hr => ?_) (pure_count_down T)
  have nd := sc_count_down.nd
  exact (pss_one (ps_ret (pe_callB call_len_seq (by rfl) T.b_len PySem.boot_len (pa_cons (pe_lc (own := [("is_down", 1)]) (by rfl) nd (pi_list (pe_fld (pw 0) rfl)) (blkOk_by (own := [("is_down", 1)]) (N := N_count_down) (sc := defScope s_count_down) (by decide +kernel)) (fun _ _ _ _ _ => (pg_name (i := 1) nd rfl (Or.inl rfl))) (fun _ _ _ _ _ => pts_one (pt_val (pw 1))) (fun _ _ _ _ _ => (pw 1))) pa_nil))))
theorem ok_take_down (T : Txt w K mg) : Has P w K mg base 2 (He.fAd K ("take_down", none)) ["run", "parts"] (sp_take_down K) := by
  have G_count_down := ok_count_down (P := P) (base := base) T
  refine Has.of (T.d_take_down) sc_take_down (fun _ _ _ _ _ _ us hl => match us, hl with | [_, _], _ => rfl) len_take_down (t_take_down K) (fun cdv A outer s H E hr => ?_) (pure_take_down T)
  have nd := sc_take_down.nd
  exact (pss_cons (ps_set (i := 2) nd rfl (Or.inl rfl) (pe_ix ix_list (pw 1) pe_int (fun _ _ => rfl)))
      (pss_cons (ps_if (pt_cmpR op_ge (pw 2) (pe_callB call_len_seq (by rfl) T.b_len PySem.boot_len (pa_cons (pe_fld (pw 0) rfl) pa_nil)) (nomark _)) (pss_one (ps_ret (pe_lst (pa_cons (pe_gi rfl T.i_NO_SUCH_deeds) pa_nil)))) pss_nil)
      (pss_cons (ps_if (pt_val (pe_ix ix_list (pe_fld (pw 0) rfl) (pw 2) (fun _ _ => rfl))) (pss_one (ps_ret (pe_lst (pa_cons (pe_gi rfl T.i_NOT_SO) pa_nil)))) pss_nil)
      (pss_cons (ps_asg pe_bl (pg_sub (pe_fld (pw 0) rfl) (pw 2) set_list))
      (pss_one (ps_ret (pe_lst (pa_cons (pe_fn G_count_down (hr.mono (by decide)) rfl T.g_count_down (pa_cons (pw 0) pa_nil)) pa_nil))))))))
theorem ok_bring_up (T : Txt w K mg) : Has P w K mg base 2 (He.fAd K ("bring_up", none)) ["run", "parts"] (sp_bring_up K) := by
  have G_count_down := ok_count_down (P := P) (base := base) T
  refine Has.of (T.d_bring_up) sc_bring_up (fun _ _ _ _ _ _ us hl => match us, hl with | [_, _], _ => rfl) len_bring_up (t_bring_up K) (fun cdv A outer s H E hr => ?_) (pure_bring_up T)
  have nd := sc_bring_up.nd
  exact (pss_cons (ps_set (i := 2) nd rfl (Or.inl rfl) (pe_ix ix_list (pw 1) pe_int (fun _ _ => rfl)))
      (pss_cons (ps_if (pt_cmpR op_ge (pw 2) (pe_callB call_len_seq (by rfl) T.b_len PySem.boot_len (pa_cons (pe_fld (pw 0) rfl) pa_nil)) (nomark _)) (pss_one (ps_ret (pe_lst (pa_cons (pe_gi rfl T.i_NO_SUCH_deeds) pa_nil)))) pss_nil)
      (pss_cons (ps_if (pt_not (pt_val (pe_ix ix_list (pe_fld (pw 0) rfl) (pw 2) (fun _ _ => rfl)))) (pss_one (ps_ret (pe_lst (pa_cons (pe_gi rfl T.i_NOT_SO) pa_nil)))) pss_nil)
      (pss_cons (ps_asg pe_bl (pg_sub (pe_fld (pw 0) rfl) (pw 2) set_list))
      (pss_one (ps_ret (pe_lst (pa_cons (pe_fn G_count_down (hr.mono (by decide)) rfl T.g_count_down (pa_cons (pw 0) pa_nil)) pa_nil))))))))
theorem ok_slow (T : Txt w K mg) : Has P w K mg base 1 (He.fAd K ("slow", none)) ["run", "parts"] (sp_slow K) := by
  refine Has.of (T.d_slow) sc_slow (fun _ _ _ _ _ _ us hl => match us, hl with | [_, _], _ => rfl) len_slow (t_slow K) (fun cdv A outer s H E hr => ?_) (pure_slow T)
  have nd := sc_slow.nd
  exact (pss_cons (ps_par rfl nd rfl rfl (by decide) rfl rfl (pa_cons (pe_ix ix_list (pw 1) pe_int (fun _ _ => rfl)) (pa_cons (pe_ix ix_list (pw 1) pe_int (fun _ _ => rfl)) pa_nil)) rfl)
      (pss_cons (ps_if (pt_cmpR op_ge (pw 2) (pe_callB call_len_seq (by rfl) T.b_len PySem.boot_len (pa_cons (pe_fld (pw 0) rfl) pa_nil)) (nomark _)) (pss_one (ps_ret (pe_lst (pa_cons (pe_gi rfl T.i_NO_SUCH_deeds) pa_nil)))) pss_nil)
      (pss_cons (ps_if (PW.pt (pw_or (pt_cmpR op_lt (pw 3) pe_int (nomark _)) (pw_or1 (pt_cmpR op_gt (pw 3) (pe_gi rfl T.i_MOST_FACTOR) (nomark _))))) (pss_one (ps_ret (pe_lst (pa_cons (pe_gi rfl T.i_BAD_NUMBER) pa_nil)))) pss_nil)
      (pss_cons (ps_asg (pw 3) (pg_sub (pe_fld (pw 0) rfl) (pw 2) set_list))
      (pss_one (ps_ret (pe_lst (pa_cons (pw 3) pa_nil))))))))
end
end Cc
end

/-! ## CcQuA -/
section
set_option maxRecDepth 100000
set_option maxHeartbeats 4000000
/-! The questions that look at the run. -/
namespace Cc
open PySem PySem.Spec PyProof.Rows L2
open Cw (rawOf rawsOf waitsOf occsOf entN' GOk opOf)
def cnt (w : Gp27.World) (ks : List Nat) (how : Nat) : Nat := (ks.filter fun k => (Gp27.reqAt w k).state == .over how).length
def outs (w : Gp27.World) (ks : List Nat) : List Int := (List.range 5).map fun how => (cnt w ks how : Int)
def sp_count_outcomes (K : PySem.W.Frag) : Sp := fun vs H Q _ => ∃ (a p : Addr) (F : Hp) (A : Ad) (w : Gp27.World) (ks : List Nat), vs = [.ref p] ∧ RunW K F H a A w ∧ Cw.WOk w ∧ H p = some (.lst (refsOf A ks)) ∧ (∀ k ∈ ks, k < w.requests.length) ∧
  ∀ D H', H D = none → Same H H' → H' D = some (.lst ((outs w ks).map V.int)) → Q (.ref D) H'
theorem len_count_outcomes {K : PySem.W.Frag} : ∀ vs H Q E, sp_count_outcomes K vs H Q E → vs.length = (["requests"] : List Str).length := by rintro _ _ _ _ ⟨_, _, _, _, _, _, rfl, _⟩; rfl
abbrev sp_tell_service (K : PySem.W.Frag) : Sp := spOp K 6 1
abbrev sp_tell_request (K : PySem.W.Frag) : Sp := spOp K 7 1
abbrev sp_tell_entry (K : PySem.W.Frag) : Sp := spOp K 8 1
abbrev sp_tell_link (K : PySem.W.Frag) : Sp := spOp K 9 1
theorem len_tell_service {K : PySem.W.Frag} : ∀ vs H Q E, sp_tell_service K vs H Q E → vs.length = (["run", "parts"] : List Str).length := len_op
theorem len_tell_request {K : PySem.W.Frag} : ∀ vs H Q E, sp_tell_request K vs H Q E → vs.length = (["run", "parts"] : List Str).length := len_op
theorem len_tell_entry {K : PySem.W.Frag} : ∀ vs H Q E, sp_tell_entry K vs H Q E → vs.length = (["run", "parts"] : List Str).length := len_op
theorem len_tell_link {K : PySem.W.Frag} : ∀ vs H Q E, sp_tell_link K vs H Q E → vs.length = (["run", "parts"] : List Str).length := len_op
abbrev N_count_outcomes : List Str := ["requests", "found", "request"]
theorem sc_count_outcomes : FnScope N_count_outcomes ["requests"] (defScope s_count_outcomes) := ⟨rfl, rfl, rfl, by decide +kernel, rfl, by decide +kernel, by decide +kernel⟩
def t_count_outcomes (K : PySem.W.Frag) : TS := (tSeq (tAsg (tOp rRep (tLst (tCons (tC (.int 0)) tNil)) (tOp rAddI (tC (.int (4))) (tC (.int 1)))) (gName 1))
  (tSeq (tFor (iList K (tVar 0)) (gName 2) (tIfS (tTest (tOp rEq (tFld K (tVar 2) "status") (tC (.int (4))))) (tAugS (tVar 1) (tFld K (tVar 2) "first") (tC (.int 1)) (rGetL K) ipAdd rSetL) tNext))
  (tRet (tVar 1))))
abbrev N_tell_service : List Str := ["run", "parts", "service", "own", "request"]
theorem sc_tell_service : FnScope N_tell_service ["run", "parts"] (defScope s_tell_service) := ⟨rfl, rfl, rfl, by decide +kernel, rfl, by decide +kernel, by decide +kernel⟩
def t_tell_service (K : PySem.W.Frag) : TS := (tSeq (tAsg (tOp (rIxL K) (tVar 1) (tC (.int 0))) (gName 2))
  (tSeq (tIfS (tTest (tOp rGeI (tVar 2) (tCB (rLenQ K) (tCons (tFld K (tVar 0) "down") tNil)))) (tRet (tLst (tCons (tC (.int (-2))) tNil))) tNext)
  (tSeq (tAsg (tLc (iList K (tFld K (tVar 0) "requests")) (gName 4) (tTest (tOp rEq (tFld K (tVar 4) "service") (tVar 2))) (tVar 4) [4]) (gName 3))
  (tRet (tOp rCat (tLst (tCons (tOp (rIxL K) (tFld K (tVar 0) "occupied") (tVar 2)) (tCons (tOp (rIxL K) (tFld K (tVar 0) "waiting") (tVar 2)) tNil))) (tCall (sp_count_outcomes K) [] E0 (tCons (tVar 3) tNil)))))))
abbrev N_tell_request : List Str := ["run", "parts", "request", "told"]
theorem sc_tell_request : FnScope N_tell_request ["run", "parts"] (defScope s_tell_request) := ⟨rfl, rfl, rfl, by decide +kernel, rfl, by decide +kernel, by decide +kernel⟩
def t_tell_request (K : PySem.W.Frag) : TS := (tSeq (tIfS (tTest (tOp rGeI (tOp (rIxL K) (tVar 1) (tC (.int 0))) (tCB (rLenQ K) (tCons (tFld K (tVar 0) "requests") tNil)))) (tRet (tLst (tCons (tC (.int (-3))) tNil))) tNext)
  (tSeq (tAsg (tOp (rIxL K) (tFld K (tVar 0) "requests") (tOp (rIxL K) (tVar 1) (tC (.int 0)))) (gName 2))
  (tSeq (tAsg (tLst (tCons (tFld K (tVar 2) "service") (tCons (tFld K (tVar 2) "entry") (tCons (tFld K (tVar 2) "deadline") (tCons (tFld K (tVar 2) "step") tNil))))) (gName 3))
  (tRet (tOp rCat (tVar 3) (tLst (tCons (tFld K (tVar 2) "status") (tCons (tFld K (tVar 2) "first") (tCons (tFld K (tVar 2) "second") tNil)))))))))
abbrev N_tell_entry : List Str := ["run", "parts", "entry", "own", "request"]
theorem sc_tell_entry : FnScope N_tell_entry ["run", "parts"] (defScope s_tell_entry) := ⟨rfl, rfl, rfl, by decide +kernel, rfl, by decide +kernel, by decide +kernel⟩
def t_tell_entry (K : PySem.W.Frag) : TS := (tSeq (tAsg (tOp (rIxL K) (tVar 1) (tC (.int 0))) (gName 2))
  (tSeq (tIfS (tTest (tOp rGeI (tVar 2) (tCB (rLenQ K) (tCons (tFld K (tFld K (tVar 0) "plan") "gates") tNil)))) (tRet (tLst (tCons (tC (.int (-2))) tNil))) tNext)
  (tSeq (tAsg (tLc (iList K (tFld K (tVar 0) "requests")) (gName 4) (tTest (tOp rEq (tFld K (tVar 4) "entry") (tOp rAddI (tVar 2) (tC (.int 1))))) (tVar 4) [4]) (gName 3))
  (tRet (tOp rCat (tLst (tCons (tCB (rLenQ K) (tCons (tVar 3) tNil)) tNil)) (tCall (sp_count_outcomes K) [] E0 (tCons (tVar 3) tNil)))))))
abbrev N_tell_link : List Str := ["run", "parts", "number", "link", "probe", "told"]
theorem sc_tell_link : FnScope N_tell_link ["run", "parts"] (defScope s_tell_link) := ⟨rfl, rfl, rfl, by decide +kernel, rfl, by decide +kernel, by decide +kernel⟩
def t_tell_link (K : PySem.W.Frag) : TS := (tSeq (tAsg (tOp (rIxL K) (tVar 1) (tC (.int 0))) (gName 2))
  (tSeq (tIfS (tTest (tOp rGeI (tVar 2) (tCB (rLenQ K) (tCons (tFld K (tVar 0) "links") tNil)))) (tRet (tLst (tCons (tC (.int (-2))) tNil))) tNext)
  (tSeq (tAsg (tOp (rIxL K) (tFld K (tVar 0) "links") (tVar 2)) (gName 3))
  (tSeq (tAsg (tIf (tTest (tOp rIsN (tFld K (tVar 3) "probe") (tC .non))) (tC (.int 0)) (tOp rAddI (tFld K (tVar 3) "probe") (tC (.int 1)))) (gName 4))
  (tSeq (tAsg (tLst (tCons (tFld K (tOp (rIxL K) (tFld K (tFld K (tVar 0) "plan") "asks") (tVar 2)) "target") (tCons (tIf (tB (tOp (rIxL K) (tFld K (tVar 0) "optional") (tVar 2))) (tC (.int 1)) (tC (.int 0))) tNil))) (gName 5))
  (tRet (tOp rCat (tVar 5) (tLst (tCons (tFld K (tVar 3) "tokens") (tCons (tFld K (tVar 3) "failures") (tCons (tFld K (tVar 3) "until") (tCons (tVar 4) tNil))))))))))))
section
variable {σ : L2.St} {K : PySem.W.Frag} {F H H1 : Hp} {a : Addr} {A A1 : Ad} {w w1 : Gp27.World} {D : Ends}
theorem e_lst {r : TA} {vs : List V} {Q : VK} (hv : VA r σ H vs) (hl : vs.length.ble 1000 = true) (q : ∀ p, H p = none → Q (.ref p) (upd H p (.lst vs))) : tLst r σ H Q := hv _ ⟨Nat.le_trans (Nat.le_of_ble_eq_true hl) (by decide), q⟩
theorem c_op {ta tb : TE} {r : R2} {Q : VK} (h : ta σ H fun x H1 => tb σ H1 fun y H2 => r x y H2 Q) : tOp r ta tb σ H Q := h
theorem for_c {tl : TE} {g : TG} {tb : TS} (h : tl σ H fun x H1 => tFor (iList K (tC x)) g tb D σ H1) : tFor (iList K tl) g tb D σ H := h
theorem same_upd {H H' : Hp} {d : Addr} {o : HO} (s : Same H H') (hd : H d = none) : Same H (upd H' d o) := same_put s hd
/-! counting -/
theorem cnt_snoc {l : List Nat} {k how : Nat} : cnt w (l ++ [k]) how = cnt w l how + if (Gp27.reqAt w k).state = .over how then 1 else 0 := by
  unfold cnt
  rw [List.filter_append, List.length_append]
  congr 1
  by_cases e : (Gp27.reqAt w k).state = .over how
  · rw [if_pos e, List.filter_cons, if_pos (by simpa using e)] <;> rfl
  · rw [if_neg e, List.filter_cons, if_neg (by simpa using e)] <;> rfl
theorem outs_at {ks : List Nat} {f : Nat} (h : f < 5) : (outs w ks)[f]? = some (cnt w ks f : Int) := by
  unfold outs
  rw [List.getElem?_map, List.getElem?_range h] <;> rfl
theorem outs_len {ks : List Nat} : (outs w ks).length = 5 := by
  unfold outs
  rw [List.length_map, List.length_range]
theorem outs_set {l : List Nat} {k f : Nat} (h : (Gp27.reqAt w k).state = .over f) : (outs w l).set f ((cnt w l f : Int) + 1) = outs w (l ++ [k]) := by
  apply List.ext_getElem?
  intro i
  by_cases hi : i < 5
  · rw [outs_at hi, cnt_snoc, h]
    by_cases e : i = f
    · subst e
      rw [List.getElem?_set_self (by rw [outs_len]; exact hi), if_pos rfl] <;> rfl
    · rw [List.getElem?_set_ne (fun z => e z.symm), outs_at hi, if_neg (fun z => e (by injection z with z; exact z.symm))] <;> rfl
  · rw [List.getElem?_eq_none (by rw [List.length_set, outs_len]; omega), List.getElem?_eq_none (by rw [outs_len]; omega)]
theorem outs_same {l : List Nat} {k : Nat} (h : ∀ f, (Gp27.reqAt w k).state ≠ .over f) : outs w (l ++ [k]) = outs w l := by
  unfold outs
  refine List.map_congr_left fun i _ => ?_
  rw [cnt_snoc, if_neg (h i)] <;> rfl
theorem outs_nil : outs w [] = [0, 0, 0, 0, 0] := rfl
theorem outs_many {f : Gp27.Request → Bool} : outs w ((List.range w.requests.length).filter fun k => f (Gp27.reqAt w k)) = ([0, 1, 2, 3, 4].map (Gp27.howMany w f)).map fun (n : Nat) => (n : Int) := by
  unfold outs
  rw [show ([0, 1, 2, 3, 4] : List Nat) = List.range 5 by rfl, List.map_map]
  refine List.map_congr_left fun i _ => ?_
  show ((cnt w _ i : Nat) : Int) = ((Gp27.howMany w f i : Nat) : Int)
  congr 1
  unfold cnt Gp27.howMany
  rw [List.filter_filter, ← cnt_all (f := fun r => f r && r.state == .over i)]
  congr 2
  funext k
  exact Bool.and_comm _ _
theorem own_len {f : Gp27.Request → Bool} {A : Ad} : ((refsOf A ((List.range w.requests.length).filter fun k => f (Gp27.reqAt w k))).length) = (w.requests.filter f).length := by
  unfold refsOf
  rw [List.length_map, cnt_all]
end
section
variable {P : Program} {w : World} {K : PySem.W.Frag} {mg : Str → Option Value} {base : Heap}
theorem pure_count_outcomes (T : Txt w K mg) (vs : List V) (H : Hp) (Q : VK) (E : XK) (h : sp_count_outcomes K vs H Q E) : t_count_outcomes K { nx := fun _ H' => Q .non H', rt := Q } (start N_count_outcomes vs) H := by
  obtain ⟨a, p, F, A, w, ks, rfl, R, W, hp, hk, kk⟩ := h
  refine e_asg (c_op (e_lst (va_cons val_c va_nil) rfl fun p1 hp1 => val_add val_c val_c _ ⟨p1, _, _, rfl, rfl, upd_same, by decide, by decide, Nat.le_trans (show 5 ≤ 1000 by decide) (by decide), fun D hD => ?_⟩))
  have hD0 : H D = none := by
    by_cases e : D = p1
    · rw [e]; exact hp1
    · rw [upd_ne e] at hD; exact hD
  have s0 : Same H (upd (upd H p1 (.lst [V.int 0])) D (.lst ((outs w ([] : List Nat)).map V.int))) := same_upd (fun b o h => same_new hp1 _ _ h) hD0
  have d0 : upd (upd H p1 (.lst [V.int 0])) D (.lst ((outs w ([] : List Nat)).map V.int)) D = some (.lst ((outs w ([] : List Nat)).map V.int)) := upd_same
  have e0 : (List.replicate (((4 : Int) + 1)).toNat [V.int 0]).flatten = (outs w ([] : List Nat)).map V.int := rfl
  rw [e0]
  generalize upd (upd H p1 (.lst [V.int 0])) D (.lst ((outs w ([] : List Nat)).map V.int)) = H0 at s0 d0
  refine st_list ks (fun k => V.ref (A.rs.getD k 0)) (val_var rfl) (SqL.of (s0 _ _ hp)) (fun i σ' H' => ∃ y : Option V, σ' = [some (.ref p), some (.ref D), y] ∧ Same H H' ∧ H' D = some (.lst ((outs w (ks.take i)).map V.int))) ⟨none, rfl, s0, d0⟩ ?_ ?_ ?_
  · rintro i σ' H' ⟨y, _, s, _⟩
    exact SqL.of (s _ _ hp)
  · rintro i k σ' H' hi ⟨y, rfl, s, hd⟩
    have hkl := hk k (List.mem_of_getElem? hi)
    have R' := RunAt.mono R s
    have hr := RunW.raw R' hkl (getD_get (by rw [R.len]; exact hkl))
    have hS := (W.req hkl).ok
    unfold Cw.StOk at hS
    refine st_if (b := Gp27.isOver (Gp27.reqAt w k)) (Ans.to (ans_t (val_eq (vrq_status T (val_var rfl) hr) val_c)) ?_) (fun ho => ?_) (fun ho => ?_)
    · rw [Bool.eq_iff_iff, decide_eq_true_iff, Cw.isOver_iff]
      exact ⟨fun z => Int.ofNat.inj (vi_eq.mp z), fun z => vi_eq.mpr (congrArg (fun n : Nat => (n : Int)) z)⟩
    · cases hs : (Gp27.reqAt w k).state with
      | over f =>
        rw [hs] at hS
        refine st_augL (n := f) (k := (cnt w (ks.take i) f : Int)) (d := 1) (val_var rfl) (vrq_first T (val_var rfl) hr) val_c hd (by show ((Cw.cd2 (Gp27.reqAt w k).state : Nat) : Int) = _; rw [hs]; rfl) (map_at (outs_at (Nat.lt_succ_of_le hS))) ?_
        refine ⟨_, rfl, same_upd s hD0, ?_⟩
        rw [upd_same, take_more hi, ← outs_set hs, List.map_set]
      | queued => unfold Gp27.isOver at ho; rw [hs] at ho; cases ho
      | work _ => unfold Gp27.isOver at ho; rw [hs] at ho; cases ho
      | ready _ _ => unfold Gp27.isOver at ho; rw [hs] at ho; cases ho
      | asked _ _ => unfold Gp27.isOver at ho; rw [hs] at ho; cases ho
    · refine ⟨_, rfl, s, ?_⟩
      rw [take_more hi, outs_same fun f hf => by unfold Gp27.isOver at ho; rw [hf] at ho; cases ho]
      exact hd
  · rintro σ' H' ⟨y, rfl, s, hd⟩
    rw [List.take_length] at hd
    exact st_ret (val_var rfl) (kk D H' hD0 s hd)
theorem pure_tell_service (T : Txt w K mg) (vs : List V) (H : Hp) (Q : VK) (E : XK) (h : sp_tell_service K vs H Q E) : t_tell_service K { nx := fun _ H' => Q .non H', rt := Q } (start N_tell_service vs) H := by
  obtain ⟨a, p, F, A, w, ns, rfl, R, G, hp, hl, np, kk⟩ := h
  obtain ⟨s, rfl⟩ := len1 hl
  have hlen := R.len
  have kk : After K F a A H w (if Gp27.hasService w s = false then [-2] else Gp27.ints ([Gp27.working w s, Gp27.queued w s] ++ [0, 1, 2, 3, 4].map (Gp27.howMany w fun r => r.service == s))) Q := kk
  refine st_set (val_part (val_var rfl) hp (i := 0) rfl) ?_
  refine st_ifd (p := Gp27.hasService w s = false) (Ans.to (ans_t (val_ge (val_var rfl) (val_len (vrn_down T (val_var rfl) R.run) (SqL.of R.dn)))) (decide_eq_decide.mpr (by rw [Cw.has_iff, downV_len]; show ((w.house.services.length : Int) ≤ (s : Int)) ↔ _; omega))) (fun h1 => ?_) (fun h1 => ?_)
  · rw [if_pos h1] at kk
    exact op_ret R Ext.refl kk (va_cons val_c va_nil)
  rw [if_neg h1] at kk
  have hs : s < w.house.services.length := Decidable.of_not_not fun z => h1 (Cw.has_iff.mpr z)
  refine e_asg (e_reqs (j := 4) (vs := [4]) (ks := List.range w.requests.length) (fun r => r.service == s) R (vrn_requests T (val_var rfl) R.run) (R.rq.trans (by rw [← refs_all hlen])) (fun k hk => List.mem_range.mp hk) (by rw [List.length_range]; have := G.len; omega) (fun _ => rfl) (fun k q H' hk hr => ?_) (fun q H' => by exact val_var rfl) fun D H1 hD s1 h1 => ?_)
  · refine Ans.to (ans_t (val_eq (vrq_service T (val_var rfl) hr) (val_var rfl))) ?_
    rw [Bool.eq_iff_iff, decide_eq_true_iff, beq_iff_eq]
    exact ⟨fun z => Int.ofNat.inj (vi_eq.mp z), fun z => vi_eq.mpr (congrArg (fun n : Nat => (n : Int)) z)⟩
  have R1 := RunAt.mono R s1
  refine e_ret (c_op (e_lst (va_cons (val_ix (vrn_occupied T (val_var rfl) R1.run) (val_var rfl) (SqL.of R1.oc_) rfl (map_at (Cw.occsOf_at hs))) (va_cons (val_ix (vrn_waiting T (val_var rfl) R1.run) (val_var rfl) (SqL.of R1.wa) rfl (map_at (Cw.waitsOf_at hs))) va_nil)) rfl fun p1 hp1 => ?_))
  have R2 := RunAt.mono R1 (same_new (o := .lst [V.int (Gp27.working w s : Nat), V.int (Gp27.queued w s : Nat)]) hp1)
  refine e_fn (va_cons (val_var rfl) va_nil) ⟨a, D, F, A, w, _, rfl, R2, G.ok, same_new hp1 _ _ h1, fun k hk => List.mem_range.mp (List.mem_filter.mp hk).1, fun D2 H3 hD2 s3 hd3 => ⟨p1, D2, _, _, rfl, rfl, s3 _ _ upd_same, hd3, ?_, fun d hd => ?_⟩⟩
  · rw [List.length_map, outs_len]
    exact Nat.le_trans (show 7 ≤ 1000 by decide) (by decide)
  · have e : ([V.int (Gp27.working w s : Nat), V.int (Gp27.queued w s : Nat)] ++ (outs w ((List.range w.requests.length).filter fun k => (Gp27.reqAt w k).service == s)).map V.int : List V) = (Gp27.ints ([Gp27.working w s, Gp27.queued w s] ++ [0, 1, 2, 3, 4].map (Gp27.howMany w fun r => r.service == s))).map V.int := by
      rw [outs_many (f := fun r => r.service == s)] <;> rfl
    rw [e]
    exact op_new (RunAt.mono R2 s3) (Ext.same fun b o z => s3 _ _ (same_new hp1 _ _ (s1 _ _ z))) kk hd
theorem pure_tell_entry (T : Txt w K mg) (vs : List V) (H : Hp) (Q : VK) (E : XK) (h : sp_tell_entry K vs H Q E) : t_tell_entry K { nx := fun _ H' => Q .non H', rt := Q } (start N_tell_entry vs) H := by
  obtain ⟨a, p, F, A, w, ns, rfl, R, G, hp, hl, np, kk⟩ := h
  obtain ⟨g, rfl⟩ := len1 hl
  have hlen := R.len
  obtain ⟨sv, ak, gt, ss, p1, p2, p3, p4⟩ := R.gates
  have kk : After K F a A H w (if w.house.entries.length ≤ g then [-2] else Gp27.ints ((w.requests.filter fun r => r.entry == some g).length :: [0, 1, 2, 3, 4].map (Gp27.howMany w fun r => r.entry == some g))) Q := kk
  refine st_set (val_part (val_var rfl) hp (i := 0) rfl) ?_
  refine st_ifd (p := w.house.entries.length ≤ g) (Ans.to (ans_t (val_ge (val_var rfl) (val_len (vpl_gates T (vrn_plan T (val_var rfl) R.run) p1) (SqL.of p2)))) (decide_eq_decide.mpr (by rw [p3]; show ((w.house.entries.length : Int) ≤ (g : Int)) ↔ _; omega))) (fun h1 => ?_) (fun h1 => ?_)
  · rw [if_pos h1] at kk
    exact op_ret R Ext.refl kk (va_cons val_c va_nil)
  rw [if_neg h1] at kk
  refine e_asg (e_reqs (j := 4) (vs := [4]) (ks := List.range w.requests.length) (fun r => r.entry == some g) R (vrn_requests T (val_var rfl) R.run) (R.rq.trans (by rw [← refs_all hlen])) (fun k hk => List.mem_range.mp hk) (by rw [List.length_range]; have := G.len; omega) (fun _ => rfl) (fun k q H' hk hr => ?_) (fun q H' => by exact val_var rfl) fun D H1 hD s1 h1 => ?_)
  · refine Ans.to (ans_t (val_eq (vrq_entry T (val_var rfl) hr) (val_add (val_var rfl) val_c))) ?_
    rw [Bool.eq_iff_iff, decide_eq_true_iff, beq_iff_eq]
    show V.int (Cw.entN (Gp27.reqAt w k).entry : Nat) = V.int ((g : Int) + 1) ↔ _
    rw [vi_eq]
    cases (Gp27.reqAt w k).entry with
    | none => exact ⟨fun z => by have z : ((0 : Nat) : Int) = (g : Int) + 1 := z; omega, fun z => nomatch z⟩
    | some e => exact ⟨fun z => by have z : ((e + 1 : Nat) : Int) = (g : Int) + 1 := z; rw [show e = g by omega], fun z => by cases z; rfl⟩
  have R1 := RunAt.mono R s1
  refine e_ret (c_op (e_lst (va_cons (val_len (val_var rfl) (SqL.of h1)) va_nil) rfl fun p1 hp1 => ?_))
  rw [own_len (f := fun r => r.entry == some g)]
  have R2 := RunAt.mono R1 (same_new (o := .lst [V.int ((w.requests.filter fun r => r.entry == some g).length : Nat)]) hp1)
  refine e_fn (va_cons (val_var rfl) va_nil) ⟨a, D, F, A, w, _, rfl, R2, G.ok, same_new hp1 _ _ h1, fun k hk => List.mem_range.mp (List.mem_filter.mp hk).1, fun D2 H3 hD2 s3 hd3 => ⟨p1, D2, _, _, rfl, rfl, s3 _ _ upd_same, hd3, ?_, fun d hd => ?_⟩⟩
  · rw [List.length_map, outs_len]
    exact Nat.le_trans (show 6 ≤ 1000 by decide) (by decide)
  · have e : ([V.int ((w.requests.filter fun r => r.entry == some g).length : Nat)] ++ (outs w ((List.range w.requests.length).filter fun k => (Gp27.reqAt w k).entry == some g)).map V.int : List V) = (Gp27.ints ((w.requests.filter fun r => r.entry == some g).length :: [0, 1, 2, 3, 4].map (Gp27.howMany w fun r => r.entry == some g))).map V.int := by
      rw [outs_many (f := fun r => r.entry == some g)] <;> rfl
    rw [e]
    exact op_new (RunAt.mono R2 s3) (Ext.same fun b o z => s3 _ _ (same_new hp1 _ _ (s1 _ _ z))) kk hd
theorem pure_tell_request (T : Txt w K mg) (vs : List V) (H : Hp) (Q : VK) (E : XK) (h : sp_tell_request K vs H Q E) : t_tell_request K { nx := fun _ H' => Q .non H', rt := Q } (start N_tell_request vs) H := by
  obtain ⟨a, p, F, A, w, ns, rfl, R, G, hp, hl, np, kk⟩ := h
  obtain ⟨k, rfl⟩ := len1 hl
  have hlen := R.len
  have kk : After K F a A H w (match w.requests[k]? with
    | none => [-3]
    | some r => Gp27.ints ([r.service, match r.entry with
      | none => 0
      | some e => e + 1, r.deadline, r.step] ++ Gp27.toldState r.state)) Q := kk
  refine st_ifd (p := w.requests.length ≤ k) (Ans.to (ans_t (val_ge (val_part (val_var rfl) hp (i := 0) rfl) (val_len (vrn_requests T (val_var rfl) R.run) (SqL.of R.rq)))) (decide_eq_decide.mpr (by rw [List.length_map, hlen]; show ((w.requests.length : Int) ≤ (k : Int)) ↔ _; omega))) (fun h1 => ?_) (fun h1 => ?_)
  · rw [List.getElem?_eq_none h1] at kk
    exact op_ret R Ext.refl kk (va_cons val_c va_nil)
  have hk : k < w.requests.length := Nat.lt_of_not_le h1
  rw [Cw.reqAt_eq hk] at kk
  have hq := getD_get (l := A.rs) (k := k) (by rw [hlen]; exact hk)
  have hr := RunW.raw R hk hq
  refine st_set (val_ix (vrn_requests T (val_var rfl) R.run) (val_part (val_var rfl) hp (i := 0) rfl) (SqL.of R.rq) rfl (map_at hq)) ?_
  refine e_asg (e_lst (va_cons (vrq_service T (val_var rfl) hr) (va_cons (vrq_entry T (val_var rfl) hr) (va_cons (vrq_deadline T (val_var rfl) hr) (va_cons (vrq_step T (val_var rfl) hr) va_nil)))) rfl fun p1 hp1 => ?_)
  have R1 := RunAt.mono R (same_new (o := .lst [V.int ((rawOf (Gp27.reqAt w k)).service : Nat), V.int ((rawOf (Gp27.reqAt w k)).entry : Nat), V.int ((rawOf (Gp27.reqAt w k)).deadline : Nat), V.int ((rawOf (Gp27.reqAt w k)).step : Nat)]) hp1)
  have x1 : Ext a A A H _ := Ext.same (same_new (o := .lst [V.int ((rawOf (Gp27.reqAt w k)).service : Nat), V.int ((rawOf (Gp27.reqAt w k)).entry : Nat), V.int ((rawOf (Gp27.reqAt w k)).deadline : Nat), V.int ((rawOf (Gp27.reqAt w k)).step : Nat)]) hp1)
  have hd1 : upd H p1 (.lst [V.int ((rawOf (Gp27.reqAt w k)).service : Nat), V.int ((rawOf (Gp27.reqAt w k)).entry : Nat), V.int ((rawOf (Gp27.reqAt w k)).deadline : Nat), V.int ((rawOf (Gp27.reqAt w k)).step : Nat)]) p1 = _ := upd_same
  generalize upd H p1 (.lst [V.int ((rawOf (Gp27.reqAt w k)).service : Nat), V.int ((rawOf (Gp27.reqAt w k)).entry : Nat), V.int ((rawOf (Gp27.reqAt w k)).deadline : Nat), V.int ((rawOf (Gp27.reqAt w k)).step : Nat)]) = H1 at R1 x1 hd1
  have hr1 := RunW.raw R1 hk hq
  refine e_ret (c_op (val_var (v := .ref p1) rfl _ (e_lst (va_cons (vrq_status T (val_var rfl) hr1) (va_cons (vrq_first T (val_var rfl) hr1) (va_cons (vrq_second T (val_var rfl) hr1) va_nil))) rfl fun p2 hp2 => ⟨p1, p2, _, _, rfl, rfl, same_new hp2 _ _ hd1, upd_same, Nat.le_trans (show 7 ≤ 1000 by decide) (by decide), fun d hd => ?_⟩)))
  have R2 := RunAt.mono R1 (same_new (o := .lst [V.int ((rawOf (Gp27.reqAt w k)).status : Nat), V.int ((rawOf (Gp27.reqAt w k)).first : Nat), V.int ((rawOf (Gp27.reqAt w k)).second : Nat)]) hp2)
  have e : ([V.int ((rawOf (Gp27.reqAt w k)).service : Nat), V.int ((rawOf (Gp27.reqAt w k)).entry : Nat), V.int ((rawOf (Gp27.reqAt w k)).deadline : Nat), V.int ((rawOf (Gp27.reqAt w k)).step : Nat)] ++ [V.int ((rawOf (Gp27.reqAt w k)).status : Nat), V.int ((rawOf (Gp27.reqAt w k)).first : Nat), V.int ((rawOf (Gp27.reqAt w k)).second : Nat)] : List V) = (Gp27.ints ([(Gp27.reqAt w k).service, match (Gp27.reqAt w k).entry with
      | none => 0
      | some e => e + 1, (Gp27.reqAt w k).deadline, (Gp27.reqAt w k).step] ++ Gp27.toldState (Gp27.reqAt w k).state)).map V.int := by
    unfold rawOf
    cases (Gp27.reqAt w k).entry <;> cases (Gp27.reqAt w k).state <;> rfl
  rw [e]
  exact op_new R2 (x1.trans (Ext.same (same_new hp2))) kk hd
theorem pure_tell_link (T : Txt w K mg) (vs : List V) (H : Hp) (Q : VK) (E : XK) (h : sp_tell_link K vs H Q E) : t_tell_link K { nx := fun _ H' => Q .non H', rt := Q } (start N_tell_link vs) H := by
  obtain ⟨a, p, F, A, w, ns, rfl, R, G, hp, hl, np, kk⟩ := h
  obtain ⟨i, rfl⟩ := len1 hl
  have hll : w.links.length = w.house.asks.length := G.ok.ll
  have hla := R.lls
  have kk : After K F a A H w (if w.house.asks.length ≤ i then [-2] else Gp27.ints [(Gp27.askAt w i).whom, if (Gp27.askAt w i).may = true then 1 else 0, (Gp27.linkAt w i).tokens, (Gp27.linkAt w i).failed, (Gp27.linkAt w i).openTill, match (Gp27.linkAt w i).trial with
      | none => 0
      | some c => c + 1]) Q := kk
  refine st_set (val_part (val_var rfl) hp (i := 0) rfl) ?_
  refine st_ifd (p := w.house.asks.length ≤ i) (Ans.to (ans_t (val_ge (val_var rfl) (val_len (vrn_links T (val_var rfl) R.run) (SqL.of R.lk)))) (decide_eq_decide.mpr (by rw [List.length_map, hla, hll]; show ((w.house.asks.length : Int) ≤ (i : Int)) ↔ _; omega))) (fun h1 => ?_) (fun h1 => ?_)
  · rw [if_pos h1] at kk
    exact op_ret R Ext.refl kk (va_cons val_c va_nil)
  rw [if_neg h1] at kk
  have hi : i < w.house.asks.length := Nat.lt_of_not_le h1
  have el : w.links[i]? = some (Gp27.linkAt w i) := by
    unfold Gp27.linkAt
    rw [List.getD_eq_getElem?_getD, List.getElem?_eq_getElem (by rw [hll]; exact hi)] <;> rfl
  obtain ⟨lq, hq, hl⟩ := R.link el
  obtain ⟨sv, ak, gt, ss, ap, ab, a1, a2, a3, a4⟩ := R.askF hi
  have ea : Cw.askOf w.house i = Gp27.askAt w i := rfl
  rw [ea] at a4
  refine st_set (val_ix (vrn_links T (val_var rfl) R.run) (val_var rfl) (SqL.of R.lk) rfl (map_at hq)) ?_
  refine st_set (v := .int ((match (Gp27.linkAt w i).trial with
      | none => 0
      | some c => c + 1 : Nat) : Int)) (val_if (b := (Gp27.linkAt w i).trial.isNone) (Ans.to (ans_t (val_isN (vlk_probe T (val_var rfl) hl))) (by cases (Gp27.linkAt w i).trial <;> rfl)) (fun h => ?_) (fun h => ?_)) ?_
  · cases e : (Gp27.linkAt w i).trial with
    | none => exact val_c
    | some c => rw [e] at h; cases h
  · cases e : (Gp27.linkAt w i).trial with
    | none => rw [e] at h; cases h
    | some c =>
      have z := vlk_probe T (σ := [some (.ref a), some (.ref p), some (.int (i : Int)), some (.ref lq), none, none]) (te := tVar 3) (val_var rfl) hl
      rw [e] at z
      exact val_add (i := (c : Int)) z val_c
  have a4' : AtAsk K H ap (Gp27.askAt w i) ab := by
    obtain ⟨d, z⟩ := a4
    exact ⟨d, R.fz _ _ z⟩
  have hmay : (mayV w.house)[i]? = some (.bl (Gp27.askAt w i).may) := by
    unfold mayV
    exact map_at (by rw [Cw.askOf_eq hi]; rfl)
  refine e_asg (e_lst (va_cons (vak_target T (val_ix (vpl_asks T (vrn_plan T (val_var rfl) R.run) a1) (val_var rfl) (SqL.of a2) rfl a3) a4') (va_cons (val_if (v := .int ((if (Gp27.askAt w i).may = true then 1 else 0 : Nat) : Int)) (ans_b (val_ix (vrn_optional T (val_var rfl) R.run) (val_var rfl) (SqL.of R.op) rfl hmay)) (fun h => by rw [if_pos h]; exact val_c) (fun h => by rw [if_neg (by rw [h]; decide)]; exact val_c)) va_nil)) rfl fun p1 hp1 => ?_)
  have R1 := RunAt.mono R (same_new (o := .lst [V.int ((Gp27.askAt w i).whom : Nat), V.int ((if (Gp27.askAt w i).may = true then 1 else 0 : Nat) : Int)]) hp1)
  have x1 : Ext a A A H _ := Ext.same (same_new (o := .lst [V.int ((Gp27.askAt w i).whom : Nat), V.int ((if (Gp27.askAt w i).may = true then 1 else 0 : Nat) : Int)]) hp1)
  have hd1 : upd H p1 (.lst [V.int ((Gp27.askAt w i).whom : Nat), V.int ((if (Gp27.askAt w i).may = true then 1 else 0 : Nat) : Int)]) p1 = _ := upd_same
  generalize upd H p1 (.lst [V.int ((Gp27.askAt w i).whom : Nat), V.int ((if (Gp27.askAt w i).may = true then 1 else 0 : Nat) : Int)]) = H1 at R1 x1 hd1
  have hl1 := R1.lks i lq _ hq el
  refine e_ret (c_op (val_var (v := .ref p1) rfl _ (e_lst (va_cons (vlk_tokens T (val_var rfl) hl1) (va_cons (vlk_failures T (val_var rfl) hl1) (va_cons (vlk_until T (val_var rfl) hl1) (va_cons (val_var rfl) va_nil)))) rfl fun p2 hp2 => ⟨p1, p2, _, _, rfl, rfl, same_new hp2 _ _ hd1, upd_same, Nat.le_trans (show 6 ≤ 1000 by decide) (by decide), fun d hd => ?_⟩)))
  exact op_new (RunAt.mono R1 (same_new hp2)) (x1.trans (Ext.same (same_new hp2))) kk hd
theorem ok_count_outcomes (T : Txt w K mg) : Has P w K mg base 1 (He.fAd K ("count_outcomes", none)) ["requests"] (sp_count_outcomes K) := by
  refine Has.of (T.d_count_outcomes) sc_count_outcomes (fun _ _ _ _ _ _ us hl => match us, hl with | [_], _ => rfl) len_count_outcomes (t_count_outcomes K) (fun cdv A outer s H E hr => ?_) (pure_count_outcomes T)
  have nd := sc_count_outcomes.nd
  exact (pss_cons (ps_set (i := 1) nd rfl (Or.inl rfl) (pe_op op_rep (pe_lst (pa_cons pe_int pa_nil)) (pe_op op_add (pe_gi rfl T.i_SERVICE_DOWN) pe_int)))
      (pss_cons (ps_for PassesOwn.never rfl (pi_list (pw 0)) (pg_name (i := 2) nd rfl (Or.inl rfl)) (pss_one (ps_if (pt_cmpR op_eq (pe_fld (pw 2) rfl) (pe_gi rfl T.i_ENDED) (nomark _)) (pss_one (ps_augS (pw 1) (pe_fld (pw 2) rfl) get_list pe_int ip_add set_list)) pss_nil)))
      (pss_one (ps_ret (pw 1)))))
theorem ok_tell_service (T : Txt w K mg) : Has P w K mg base 2 (He.fAd K ("tell_service", none)) ["run", "parts"] (sp_tell_service K) := by
  have G_count_outcomes := ok_count_outcomes (P := P) (base := base) T
  refine Has.of (T.d_tell_service) sc_tell_service (fun _ _ _ _ _ _ us hl => match us, hl with | [_, _], _ => rfl) len_tell_service (t_tell_service K) (fun cdv A outer s H E hr => ?_) (pure_tell_service T)
  have nd := sc_tell_service.nd
  exact (pss_cons (ps_set (i := 2) nd rfl (Or.inr rfl) (pe_ix ix_list (pw 1) pe_int (fun _ _ => rfl)))
      (pss_cons (ps_if (pt_cmpR op_ge (pw 2) (pe_callB call_len_seq (by rfl) T.b_len PySem.boot_len (pa_cons (pe_fld (pw 0) rfl) pa_nil)) (nomark _)) (pss_one (ps_ret (pe_lst (pa_cons (pe_gi rfl T.i_NO_SUCH_questions) pa_nil)))) pss_nil)
      (pss_cons (ps_setLc (i := 3) (own := [("request", 4)]) (by rfl) nd rfl rfl (sw_true rfl rfl rfl (by decide +kernel)) (pi_list (pe_fld (pw 0) rfl)) (blkOk_by (own := [("request", 4)]) (N := N_tell_service) (sc := defScope s_tell_service) (by decide +kernel)) (fun _ _ _ _ _ => (pg_name (i := 4) nd rfl (Or.inl rfl))) (fun _ _ _ _ _ => pts_one (pt_cmpR op_eq (pe_fld (pw 4) rfl) (pw 2) (nomark _))) (fun _ _ _ _ _ => (pw 4)))
      (pss_one (ps_ret (pe_op op_cat (pe_lst (pa_cons (pe_ix ix_list (pe_fld (pw 0) rfl) (pw 2) (fun _ _ => rfl)) (pa_cons (pe_ix ix_list (pe_fld (pw 0) rfl) (pw 2) (fun _ _ => rfl)) pa_nil))) (pe_fn G_count_outcomes (hr.mono (by decide)) rfl T.g_count_outcomes (pa_cons (pw 3) pa_nil))))))))
theorem ok_tell_request (T : Txt w K mg) : Has P w K mg base 1 (He.fAd K ("tell_request", none)) ["run", "parts"] (sp_tell_request K) := by
  refine Has.of (T.d_tell_request) sc_tell_request (fun _ _ _ _ _ _ us hl => match us, hl with | [_, _], _ => rfl) len_tell_request (t_tell_request K) (fun cdv A outer s H E hr => ?_) (pure_tell_request T)
  have nd := sc_tell_request.nd
  exact (pss_cons (ps_if (pt_cmpR op_ge (pe_ix ix_list (pw 1) pe_int (fun _ _ => rfl)) (pe_callB call_len_seq (by rfl) T.b_len PySem.boot_len (pa_cons (pe_fld (pw 0) rfl) pa_nil)) (nomark _)) (pss_one (ps_ret (pe_lst (pa_cons (pe_gi rfl T.i_NO_REQUEST) pa_nil)))) pss_nil)
      (pss_cons (ps_set (i := 2) nd rfl (Or.inl rfl) (pe_ix ix_list (pe_fld (pw 0) rfl) (pe_ix ix_list (pw 1) pe_int (fun _ _ => rfl)) (fun _ _ => rfl)))
      (pss_cons (ps_set (i := 3) nd rfl (Or.inl rfl) (pe_lst (pa_cons (pe_fld (pw 2) rfl) (pa_cons (pe_fld (pw 2) rfl) (pa_cons (pe_fld (pw 2) rfl) (pa_cons (pe_fld (pw 2) rfl) pa_nil))))))
      (pss_one (ps_ret (pe_op op_cat (pw 3) (pe_lst (pa_cons (pe_fld (pw 2) rfl) (pa_cons (pe_fld (pw 2) rfl) (pa_cons (pe_fld (pw 2) rfl) pa_nil))))))))))
theorem ok_tell_entry (T : Txt w K mg) : Has P w K mg base 2 (He.fAd K ("tell_entry", none)) ["run", "parts"] (sp_tell_entry K) := by
  have G_count_outcomes := ok_count_outcomes (P := P) (base := base) T
  refine Has.of (T.d_tell_entry) sc_tell_entry (fun _ _ _ _ _ _ us hl => match us, hl with | [_, _], _ => rfl) len_tell_entry (t_tell_entry K) (fun cdv A outer s H E hr => ?_) (pure_tell_entry T)
  have nd := sc_tell_entry.nd
  exact (pss_cons (ps_set (i := 2) nd rfl (Or.inr rfl) (pe_ix ix_list (pw 1) pe_int (fun _ _ => rfl)))
      (pss_cons (ps_if (pt_cmpR op_ge (pw 2) (pe_callB call_len_seq (by rfl) T.b_len PySem.boot_len (pa_cons (pe_fld (pe_fld (pw 0) rfl) rfl) pa_nil)) (nomark _)) (pss_one (ps_ret (pe_lst (pa_cons (pe_gi rfl T.i_NO_SUCH_questions) pa_nil)))) pss_nil)
      (pss_cons (ps_setLc (i := 3) (own := [("request", 4)]) (by rfl) nd rfl rfl (sw_true rfl rfl rfl (by decide +kernel)) (pi_list (pe_fld (pw 0) rfl)) (blkOk_by (own := [("request", 4)]) (N := N_tell_entry) (sc := defScope s_tell_entry) (by decide +kernel)) (fun _ _ _ _ _ => (pg_name (i := 4) nd rfl (Or.inl rfl))) (fun _ _ _ _ _ => pts_one (pt_cmpR op_eq (pe_fld (pw 4) rfl) (pe_op op_add (pw 2) pe_int) (nomark _))) (fun _ _ _ _ _ => (pw 4)))
      (pss_one (ps_ret (pe_op op_cat (pe_lst (pa_cons (pe_callB call_len_seq (by rfl) T.b_len PySem.boot_len (pa_cons (pw 3) pa_nil)) pa_nil)) (pe_fn G_count_outcomes (hr.mono (by decide)) rfl T.g_count_outcomes (pa_cons (pw 3) pa_nil))))))))
theorem ok_tell_link (T : Txt w K mg) : Has P w K mg base 1 (He.fAd K ("tell_link", none)) ["run", "parts"] (sp_tell_link K) := by
  refine Has.of (T.d_tell_link) sc_tell_link (fun _ _ _ _ _ _ us hl => match us, hl with | [_, _], _ => rfl) len_tell_link (t_tell_link K) (fun cdv A outer s H E hr => ?_) (pure_tell_link T)
  have nd := sc_tell_link.nd
  exact (pss_cons (ps_set (i := 2) nd rfl (Or.inl rfl) (pe_ix ix_list (pw 1) pe_int (fun _ _ => rfl)))
      (pss_cons (ps_if (pt_cmpR op_ge (pw 2) (pe_callB call_len_seq (by rfl) T.b_len PySem.boot_len (pa_cons (pe_fld (pw 0) rfl) pa_nil)) (nomark _)) (pss_one (ps_ret (pe_lst (pa_cons (pe_gi rfl T.i_NO_SUCH_questions) pa_nil)))) pss_nil)
      (pss_cons (ps_set (i := 3) nd rfl (Or.inl rfl) (pe_ix ix_list (pe_fld (pw 0) rfl) (pw 2) (fun _ _ => rfl)))
      (pss_cons (ps_set (i := 4) nd rfl (Or.inl rfl) (pe_ifExp (pt_cmpR op_isN1 (pe_fld (pw 3) rfl) pe_non (nomark _)) pe_int (pe_op op_add (pe_fld (pw 3) rfl) pe_int)))
      (pss_cons (ps_set (i := 5) nd rfl (Or.inl rfl) (pe_lst (pa_cons (pe_fld (pe_ix ix_list (pe_fld (pe_fld (pw 0) rfl) rfl) (pw 2) (fun _ _ => rfl)) rfl) (pa_cons (pe_ifExp (pt_val (pe_ix ix_list (pe_fld (pw 0) rfl) (pw 2) (fun _ _ => rfl))) pe_int pe_int) pa_nil))))
      (pss_one (ps_ret (pe_op op_cat (pw 5) (pe_lst (pa_cons (pe_fld (pw 3) rfl) (pa_cons (pe_fld (pw 3) rfl) (pa_cons (pe_fld (pw 3) rfl) (pa_cons (pw 4) pa_nil)))))))))))))
end
end Cc
end

/-! ## CcQuB -/
section
set_option maxRecDepth 100000
set_option maxHeartbeats 4000000
/-! The questions that try requests by themselves. -/
namespace Cc
open PySem PySem.Spec PyProof.Rows L2
open Cw (rawOf rawsOf waitsOf occsOf entN' GOk opOf)
def dnV (h : Gp27.House) (downs : List Nat) : List V := (List.range h.services.length).map fun s => V.bl (downs.contains s)
def endOf (w : Gp27.World) : Nat := match (Gp27.reqAt w 0).state with
  | .over k => k
  | _ => 9
def sp_none_down (K : PySem.W.Frag) : Sp := fun vs H Q _ => ∃ (a : Addr) (F : Hp) (A : Ad) (w : Gp27.World), vs = [.ref a] ∧ RunW K F H a A w ∧ GOk w ∧ ∀ D H', H D = none → Same H H' → H' D = some (.lst (dnV w.house [])) → Q (.ref D) H'
def sp_one_down (K : PySem.W.Frag) : Sp := fun vs H Q _ => ∃ (a : Addr) (F : Hp) (A : Ad) (w : Gp27.World) (s : Nat), vs = [.ref a, .int (s : Int)] ∧ RunW K F H a A w ∧ GOk w ∧ ∀ D H', H D = none → Same H H' → H' D = some (.lst (dnV w.house [s])) → Q (.ref D) H'
def sp_outcome_of (K : PySem.W.Frag) : Sp := fun vs H Q _ => ∃ (a : Addr) (F : Hp) (A : Ad) (w : Gp27.World), vs = [.ref a] ∧ RunW K F H a A w ∧ 0 < w.requests.length ∧ Q (.int (endOf w : Nat)) H
def sp_count_asked (K : PySem.W.Frag) : Sp := fun vs H Q _ => ∃ (a d : Addr) (F : Hp) (A : Ad) (w : Gp27.World) (e s : Nat) (downs : List Nat), vs = [.ref a, .int (e : Int), .int (s : Int), .ref d] ∧ RunW K F H a A w ∧ GOk w ∧ e < w.house.entries.length ∧
  downs.Nodup ∧ (∀ s ∈ downs, s < w.house.services.length) ∧ SqL K H d (dnV w.house downs) ∧ ∀ H', Same H H' → Q (.int (Gp27.timesAsked w.house downs e s : Nat)) H'
/-- a list of lists of numbers -/
def ListsAt (H : Hp) (D : Addr) (L : List (List Nat)) : Prop := ∃ ps : List Addr, H D = some (.lst (ps.map V.ref)) ∧ ps.length = L.length ∧ ∀ (i : Nat) l, L[i]? = some l → ∃ p, ps[i]? = some p ∧ p ≠ D ∧ H p = some (.lst (byV l))
def sp_sets_of_calls (K : PySem.W.Frag) : Sp := fun vs H Q _ => ∃ n : Nat, vs = [.int (n : Int)] ∧ n ≤ 12 ∧ ∀ D H', H D = none → Same H H' → ListsAt H' D (Gp27.pairsOf n) → Q (.ref D) H'
def sp_optional_with (K : PySem.W.Frag) : Sp := fun vs H Q _ => ∃ (o c : Addr) (h : Gp27.House) (l : List Nat), vs = [.ref o, .ref c] ∧ SqL K H o (mayV h) ∧ SqL K H c (byV l) ∧ h.asks.length ≤ 12 ∧ ∀ D H', H D = none → Same H H' → H' D = some (.lst (mayV (Gp27.mayFail h l))) → Q (.ref D) H'
abbrev sp_falls (K : PySem.W.Frag) : Sp := spOp K 10 1
abbrev sp_asked (K : PySem.W.Frag) : Sp := spOp K 11 2
abbrev sp_cure (K : PySem.W.Frag) : Sp := spOp K 12 2
section
variable {K : PySem.W.Frag}
theorem len_none_down : ∀ vs H Q E, sp_none_down K vs H Q E → vs.length = (["run"] : List Str).length := by rintro _ _ _ _ ⟨_, _, _, _, rfl, _⟩; rfl
theorem len_one_down : ∀ vs H Q E, sp_one_down K vs H Q E → vs.length = (["run", "service"] : List Str).length := by rintro _ _ _ _ ⟨_, _, _, _, _, rfl, _⟩; rfl
theorem len_outcome_of : ∀ vs H Q E, sp_outcome_of K vs H Q E → vs.length = (["run"] : List Str).length := by rintro _ _ _ _ ⟨_, _, _, _, rfl, _⟩; rfl
theorem len_count_asked : ∀ vs H Q E, sp_count_asked K vs H Q E → vs.length = (["run", "entry", "service", "down"] : List Str).length := by rintro _ _ _ _ ⟨_, _, _, _, _, _, _, _, rfl, _⟩; rfl
theorem len_sets_of_calls : ∀ vs H Q E, sp_sets_of_calls K vs H Q E → vs.length = (["many"] : List Str).length := by rintro _ _ _ _ ⟨_, rfl, _⟩; rfl
theorem len_optional_with : ∀ vs H Q E, sp_optional_with K vs H Q E → vs.length = (["optional", "calls"] : List Str).length := by rintro _ _ _ _ ⟨_, _, _, _, rfl, _⟩; rfl
theorem len_falls : ∀ vs H Q E, sp_falls K vs H Q E → vs.length = (["run", "parts"] : List Str).length := len_op
theorem len_asked : ∀ vs H Q E, sp_asked K vs H Q E → vs.length = (["run", "parts"] : List Str).length := len_op
theorem len_cure : ∀ vs H Q E, sp_cure K vs H Q E → vs.length = (["run", "parts"] : List Str).length := len_op
end
abbrev N_none_down : List Str := ["run"]
theorem sc_none_down : FnScope N_none_down ["run"] (defScope s_none_down) := ⟨rfl, rfl, rfl, by decide +kernel, rfl, by decide +kernel, by decide +kernel⟩
def t_none_down (K : PySem.W.Frag) : TS := (tRet (tOp rRep (tLst (tCons (tC (.bl false)) tNil)) (tCB (rLenQ K) (tCons (tFld K (tVar 0) "down") tNil))))
abbrev N_one_down : List Str := ["run", "service", "other"]
theorem sc_one_down : FnScope N_one_down ["run", "service"] (defScope s_one_down) := ⟨rfl, rfl, rfl, by decide +kernel, rfl, by decide +kernel, by decide +kernel⟩
def t_one_down (K : PySem.W.Frag) : TS := (tRet (tLc (iRng1 (tCons (tCB (rLenQ K) (tCons (tFld K (tVar 0) "down") tNil)) tNil)) (gName 2) tYes (tOp rEq (tVar 2) (tVar 1)) [2]))
abbrev N_outcome_of : List Str := ["run", "request"]
theorem sc_outcome_of : FnScope N_outcome_of ["run"] (defScope s_outcome_of) := ⟨rfl, rfl, rfl, by decide +kernel, rfl, by decide +kernel, by decide +kernel⟩
def t_outcome_of (K : PySem.W.Frag) : TS := (tSeq (tAsg (tOp (rIxL K) (tFld K (tVar 0) "requests") (tC (.int 0))) (gName 1))
  (tRet (tIf (tTest (tOp rEq (tFld K (tVar 1) "status") (tC (.int (4))))) (tFld K (tVar 1) "first") (tC (.int (9))))))
abbrev N_falls : List Str := ["run", "parts", "service", "down", "entry"]
theorem sc_falls : FnScope N_falls ["run", "parts"] (defScope s_falls) := ⟨rfl, rfl, rfl, by decide +kernel, rfl, by decide +kernel, by decide +kernel⟩
def t_falls (K : PySem.W.Frag) : TS := (tSeq (tAsg (tOp (rIxL K) (tVar 1) (tC (.int 0))) (gName 2))
  (tSeq (tIfS (tTest (tOp rGeI (tVar 2) (tCB (rLenQ K) (tCons (tFld K (tVar 0) "down") tNil)))) (tRet (tLst (tCons (tC (.int (-2))) tNil))) tNext)
  (tSeq (tAsg (tCall (sp_one_down K) [] E0 (tCons (tVar 0) (tCons (tVar 2) tNil))) (gName 3))
  (tRet (tLc (iRng1 (tCons (tCB (rLenQ K) (tCons (tFld K (tFld K (tVar 0) "plan") "gates") tNil)) tNil)) (gName 4) tYes (tCall (sp_outcome_of K) [] E0 (tCons (tCall (sp_isolated K) [] E0 (tCons (tFld K (tVar 0) "plan") (tCons (tVar 4) (tCons (tVar 3) (tCons (tFld K (tVar 0) "optional") tNil))))) tNil)) [4])))))
abbrev N_count_asked : List Str := ["run", "entry", "service", "down", "alone", "request"]
theorem sc_count_asked : FnScope N_count_asked ["run", "entry", "service", "down"] (defScope s_count_asked) := ⟨rfl, rfl, rfl, by decide +kernel, rfl, by decide +kernel, by decide +kernel⟩
def t_count_asked (K : PySem.W.Frag) : TS := (tSeq (tAsg (tCall (sp_isolated K) [] E0 (tCons (tFld K (tVar 0) "plan") (tCons (tVar 1) (tCons (tVar 3) (tCons (tFld K (tVar 0) "optional") tNil))))) (gName 4))
  (tRet (tCB (rLenQ K) (tCons (tLc (iList K (tFld K (tVar 4) "requests")) (gName 5) (tTest (tOp rEq (tFld K (tVar 5) "service") (tVar 2))) (tVar 5) [5]) tNil))))
abbrev N_asked : List Str := ["run", "parts", "entry", "service", "normal"]
theorem sc_asked : FnScope N_asked ["run", "parts"] (defScope s_asked) := ⟨rfl, rfl, rfl, by decide +kernel, rfl, by decide +kernel, by decide +kernel⟩
def t_asked (K : PySem.W.Frag) : TS := (tSeq (tPar 2 3 (tCons (tOp (rIxL K) (tVar 1) (tC (.int 0))) (tCons (tOp (rIxL K) (tVar 1) (tC (.int 1))) tNil)))
  (tSeq (tIfS (tOr (tTest (tOp rGeI (tVar 2) (tCB (rLenQ K) (tCons (tFld K (tFld K (tVar 0) "plan") "gates") tNil)))) (tTest (tOp rGeI (tVar 3) (tCB (rLenQ K) (tCons (tFld K (tVar 0) "down") tNil))))) (tRet (tLst (tCons (tC (.int (-2))) tNil))) tNext)
  (tSeq (tAsg (tCall (sp_count_asked K) [] E0 (tCons (tVar 0) (tCons (tVar 2) (tCons (tVar 3) (tCons (tCall (sp_none_down K) [] E0 (tCons (tVar 0) tNil)) tNil))))) (gName 4))
  (tRet (tLst (tCons (tVar 4) (tCons (tCall (sp_count_asked K) [] E0 (tCons (tVar 0) (tCons (tVar 2) (tCons (tVar 3) (tCons (tCall (sp_one_down K) [] E0 (tCons (tVar 0) (tCons (tVar 3) tNil))) tNil))))) tNil)))))))
abbrev N_sets_of_calls : List Str := ["many", "found", "one", "other"]
theorem sc_sets_of_calls : FnScope N_sets_of_calls ["many"] (defScope s_sets_of_calls) := ⟨rfl, rfl, rfl, by decide +kernel, rfl, by decide +kernel, by decide +kernel⟩
def t_sets_of_calls (K : PySem.W.Frag) : TS := (tSeq (tAsg (tLst (tCons (tLst tNil) tNil)) (gName 1))
  (tSeq (tFor (iRng1 (tCons (tVar 0) tNil)) (gName 2) (tDrop (tBM K "list" rAppend (tVar 1) (tCons (tLst (tCons (tVar 2) tNil)) tNil))))
  (tSeq (tFor (iRng1 (tCons (tVar 0) tNil)) (gName 2) (tFor (iRng2 (tCons (tOp rAddI (tVar 2) (tC (.int 1))) (tCons (tVar 0) tNil))) (gName 3) (tDrop (tBM K "list" rAppend (tVar 1) (tCons (tLst (tCons (tVar 2) (tCons (tVar 3) tNil))) tNil)))))
  (tRet (tVar 1)))))
abbrev N_optional_with : List Str := ["optional", "calls", "number", "is_optional"]
theorem sc_optional_with : FnScope N_optional_with ["optional", "calls"] (defScope s_optional_with) := ⟨rfl, rfl, rfl, by decide +kernel, rfl, by decide +kernel, by decide +kernel⟩
def t_optional_with (K : PySem.W.Frag) : TS := (tRet (tLc (iEnum K (tCons (tVar 0) tNil)) (gTup K 2 (gCons (gName 2) (gCons (gName 3) gNil))) tYes (tOrV (tVar 3) (tOp (rIn K false) (tVar 2) (tVar 1))) [2, 3]))
abbrev N_cure : List Str := ["run", "parts", "entry", "service", "down", "calls"]
theorem sc_cure : FnScope N_cure ["run", "parts"] (defScope s_cure) := ⟨rfl, rfl, rfl, by decide +kernel, rfl, by decide +kernel, by decide +kernel⟩
def t_cure (K : PySem.W.Frag) : TS := (tSeq (tPar 2 3 (tCons (tOp (rIxL K) (tVar 1) (tC (.int 0))) (tCons (tOp (rIxL K) (tVar 1) (tC (.int 1))) tNil)))
  (tSeq (tIfS (tOr (tTest (tOp rGeI (tVar 2) (tCB (rLenQ K) (tCons (tFld K (tFld K (tVar 0) "plan") "gates") tNil)))) (tTest (tOp rGeI (tVar 3) (tCB (rLenQ K) (tCons (tFld K (tVar 0) "down") tNil))))) (tRet (tLst (tCons (tC (.int (-2))) tNil))) tNext)
  (tSeq (tAsg (tCall (sp_one_down K) [] E0 (tCons (tVar 0) (tCons (tVar 3) tNil))) (gName 4))
  (tSeq (tFor (iList K (tCall (sp_sets_of_calls K) [] E0 (tCons (tCB (rLenQ K) (tCons (tFld K (tVar 0) "optional") tNil)) tNil))) (gName 5) (tIfS (tTest (tOp rEq (tCall (sp_outcome_of K) [] E0 (tCons (tCall (sp_isolated K) [] E0 (tCons (tFld K (tVar 0) "plan") (tCons (tVar 2) (tCons (tVar 4) (tCons (tCall (sp_optional_with K) [] E0 (tCons (tFld K (tVar 0) "optional") (tCons (tVar 5) tNil))) tNil))))) tNil)) (tC (.int (0))))) (tRet (tOp rCat (tLst (tCons (tCB (rLenQ K) (tCons (tVar 5) tNil)) tNil)) (tVar 5))) tNext))
  (tRet (tLst (tCons (tC (.int (-6))) tNil)))))))
section
variable {σ : L2.St} {K : PySem.W.Frag} {F H H1 : Hp} {a : Addr} {A A1 : Ad} {w w1 : Gp27.World} {D : Ends} {Q : VK}
theorem e_call1 {sp : Sp} {te : TE} {E : XK} (h : te σ H fun v H1 => sp [v] H1 Q E) : tCall sp [] E (tCons te tNil) σ H Q := h
theorem e_call4 {sp : Sp} {t1 t2 t3 t4 : TE} {x y z : V} {E : XK} (h1 : Val t1 σ H x) (h2 : Val t2 σ H y) (h3 : Val t3 σ H z) (h : t4 σ H fun v H1 => sp [x, y, z, v] H1 Q E) : tCall sp [] E (tCons t1 (tCons t2 (tCons t3 (tCons t4 tNil)))) σ H Q := h1 _ (h2 _ (h3 _ h))
theorem ret2 {t1 t2 : TE} {x : V} (h1 : Val t1 σ H x) (h2 : t2 σ H fun v H' => [x, v].length ≤ sizeLine ∧ ∀ p, H' p = none → D.rt (.ref p) (upd H' p (.lst [x, v]))) : tRet (tLst (tCons t1 (tCons t2 tNil))) D σ H := h1 _ h2
theorem e_lst1 {te : TE} (h : te σ H fun v H1 => [v].length ≤ sizeLine ∧ ∀ p, H1 p = none → Q (.ref p) (upd H1 p (.lst [v]))) : tLst (tCons te tNil) σ H Q := h
theorem st_ifeq {te : TE} {t1 t2 : TS} {c : V} (h : te σ H fun x H1 => scal x c = true ∧ ∃ b, V.bl (decide (x = c)) = .bl b ∧ if b = true then t1 D σ H1 else t2 D σ H1) : tIfS (tTest (tOp rEq te (tC c))) t1 t2 D σ H := h
/-- a comprehension over range(n) whose turns only add to the heap -/
theorem e_lcRS {te : TE} {ta : TA} {j n : Nat} {vs : List Nat} (out : Nat → V) (ha : VA ta σ H [.int (n : Int)]) (hz : n ≤ 1000000) (hw : ∀ v, wipe ((wipe σ vs).set j (some v)) vs = wipe σ vs)
    (he : ∀ i, i < n → ∀ H' (Q' : VK), Same H H' → (∀ H2, Same H' H2 → Q' (out i) H2) → te ((wipe σ vs).set j (some (.int (i : Int)))) H' Q')
    (q : ∀ D H', H D = none → Same H H' → H' D = some (.lst ((List.range n).map out)) → Q (.ref D) H') : tLc (iRng1 ta) (gName j) tYes te vs σ H Q := by
  refine ha _ ⟨(n : Int), rfl, by omega, by omega, fun D hD => lc_range (lo := 0) (n := n) (fun i H' => Same H H' ∧ H' D = some (.lst ((List.range i).map out))) ⟨same_put (Same.refl H) hD, upd_same⟩ ?_ ?_⟩
  · rintro i H' hi ⟨s, hd⟩
    refine ⟨hw _, ans_yes _ ?_⟩
    have e0 : (0 : Int) + (i : Int) = (i : Int) := Int.zero_add _
    simp only [if_true, e0]
    refine he i hi H' _ s fun H2 s2 => ⟨_, s2 _ _ hd, by rw [List.length_map, List.length_range]; exact Nat.lt_of_lt_of_le hi (Nat.le_trans hz (by decide)), same_put (fun b o z => s2 _ _ (s _ _ z)) hD, ?_⟩
    rw [upd_same, List.range_succ, List.map_append] <;> rfl
  · rintro H' ⟨s, hd⟩
    exact q D H' hD s hd
theorem dnV_self : downV w = dnV w.house w.down := rfl
theorem nodup1 {s : Nat} : [s].Nodup := List.nodup_cons.mpr ⟨List.not_mem_nil, List.nodup_nil⟩
theorem trS {H1 H2 H3 : Hp} (a : Same H1 H2) (b : Same H2 H3) : Same H1 H3 := fun _ _ z => b _ _ (a _ _ z)
/-- filter by one limit -/
theorem above {n i : Nat} (h : i < n) : (List.range n).filter (fun j => decide (i < j)) = (List.range (n - (i + 1))).map fun d => i + 1 + d := by
  induction n with
  | zero => omega
  | succ n ih =>
    rw [List.range_succ, List.filter_append]
    by_cases e : i = n
    · subst e
      rw [show i + 1 - (i + 1) = 0 by omega, List.filter_eq_nil_iff.mpr fun x hx => by have := List.mem_range.mp hx; simp; omega]
      simp
    · rw [ih (by omega), show n + 1 - (i + 1) = (n - (i + 1)) + 1 by omega, List.range_succ, List.map_append, List.filter_cons, if_pos (by simp; omega)]
      congr 1
      show [n] = [i + 1 + (n - (i + 1))]
      congr 1
      omega
theorem lists_add {L : List (List Nat)} {l : List Nat} {D p : Addr} (h : ListsAt H D L) (hp : H p = none) : ∃ ps : List Addr, H D = some (.lst (ps.map V.ref)) ∧ ps.length = L.length ∧ ListsAt (upd (upd H p (.lst (byV l))) D (.lst (ps.map V.ref ++ [V.ref p]))) D (L ++ [l]) := by
  obtain ⟨ps, h1, h2, h3⟩ := h
  have ne : p ≠ D := fun e => by rw [e, h1] at hp; cases hp
  refine ⟨ps, h1, h2, ps ++ [p], by rw [upd_same, List.map_append] <;> rfl, by rw [List.length_append, List.length_append, h2] <;> rfl, fun i x hx => ?_⟩
  by_cases hi : i < L.length
  · rw [List.getElem?_append_left hi] at hx
    obtain ⟨q, e1, e2, e3⟩ := h3 i x hx
    refine ⟨q, by rw [List.getElem?_append_left (by rw [h2]; exact hi)]; exact e1, e2, ?_⟩
    rw [upd_ne e2, upd_ne (ne_of_none e3 hp)]
    exact e3
  · have hl := (List.getElem?_eq_some_iff.mp hx).1
    rw [List.length_append] at hl
    have e1 : ([l] : List (List Nat)).length = 1 := rfl
    have e : i = L.length := by omega
    subst e
    rw [List.getElem?_append_right (Nat.le_refl _), Nat.sub_self] at hx
    cases hx
    refine ⟨p, by rw [← h2, List.getElem?_append_right (Nat.le_refl _), Nat.sub_self] <;> rfl, ne, ?_⟩
    rw [upd_ne ne, upd_same]
theorem st_appE {to te : TE} {p : Addr} {xs : List V} (ho : Val to σ H (.ref p)) (hx : H p = some (.lst xs)) (h : te σ H fun v H1 => rAppend (.ref p) [v] H1 fun _ H2 => D.nx σ H2) : tDrop (tBM K "list" rAppend to (tCons te tNil)) D σ H :=
  ho _ ⟨.inl ⟨rfl, _, SqL.of hx⟩, h⟩
/-- found.append([..]) -/
theorem st_appL {L : List (List Nat)} {l : List Nat} {r : TA} {i : Nat} {d : Addr} {H0 : Hp} (hd : σ[i]? = some (some (.ref d))) (hv : VA r σ H (byV l)) (hl : (byV l).length.ble 1000 = true) (h : ListsAt H d L) (hL : L.length ≤ 1000) (s : Same H0 H) (h0 : H0 d = none)
    (q : ∀ H', Same H0 H' → ListsAt H' d (L ++ [l]) → D.nx σ H') : tDrop (tBM K "list" rAppend (tVar i) (tCons (tLst r) tNil)) D σ H := by
  have h' := h
  obtain ⟨ps0, e0, _⟩ := h'
  refine st_appE (val_var hd) e0 (e_lst hv hl fun p hp => ?_)
  obtain ⟨ps, e1, e2, e3⟩ := lists_add (l := l) h hp
  have ne : d ≠ p := fun e => by rw [← e, e1] at hp; cases hp
  exact ⟨d, _, _, rfl, rfl, by rw [upd_ne ne]; exact e1, Nat.lt_of_le_of_lt (by rw [List.length_map, e2]; exact hL) (by decide), q _ (same_put (fun b o z => by rw [upd_ne (ne_of_none (s _ _ z) hp)]; exact s _ _ z) h0) e3⟩
theorem find_at {α : Type} {L : List α} {p : α → Bool} {i : Nat} {l : α} (h : (L.take i).find? p = none) (hi : L[i]? = some l) (hp : p l = true) : L.find? p = some l := by
  have e : L = L.take i ++ l :: L.drop (i + 1) := by
    have hl := (List.getElem?_eq_some_iff.mp hi).1
    have e1 := (List.getElem?_eq_some_iff.mp hi).2
    rw [← e1, List.getElem_cons_drop, List.take_append_drop]
  rw [e, List.find?_append, h, List.find?_cons_of_pos hp] <;> rfl
theorem find_no {α : Type} {L : List α} {p : α → Bool} {i : Nat} {l : α} (h : (L.take i).find? p = none) (hi : L[i]? = some l) (hp : p l = false) : (L.take (i + 1)).find? p = none := by
  rw [take_more hi, List.find?_append, h, List.find?_cons_of_neg (by rw [hp]; decide)] <;> rfl
/-- the pairs, up to a place -/
def sofar (n i : Nat) : List (List Nat) := [[]] ++ ((List.range n).map fun i => [i]) ++ (List.range i).flatMap fun i => ((List.range n).filter fun j => decide (i < j)).map fun j => [i, j]
theorem sofar_succ {n i : Nat} (h : i < n) : sofar n (i + 1) = sofar n i ++ (List.range (n - (i + 1))).map fun d => [i, i + 1 + d] := by
  unfold sofar
  rw [List.range_succ, List.flatMap_append, ← List.append_assoc]
  congr 1
  rw [List.flatMap_cons, List.flatMap_nil, List.append_nil, above h, List.map_map] <;> rfl
theorem sofar_len {n : Nat} (hn : n ≤ 12) : ∀ i, i ≤ n → (sofar n i).length ≤ 1 + 12 + 12 * i
  | 0, _ => by
    unfold sofar
    rw [List.range_zero, List.flatMap_nil, List.append_nil, List.length_append, List.length_map, List.length_range]
    show 1 + n ≤ _
    omega
  | i + 1, hi => by
    have := sofar_len hn i (by omega)
    rw [sofar_succ (by omega), List.length_append, List.length_map, List.length_range]
    omega
theorem inV_byV {i : Nat} : ∀ {l : List Nat}, inV (.int (i : Int)) (byV l) = l.contains i
  | [] => rfl
  | x :: r => by
    show (eqV (V.int (x : Int)) (V.int (i : Int)) || inV (.int (i : Int)) (byV r)) = _
    rw [inV_byV, List.contains_cons]
    congr 1
    show ((x : Int) == (i : Int)) = (i == x)
    rw [Bool.eq_iff_iff, beq_iff_eq, beq_iff_eq]
    omega
theorem flat_byV {l : List Nat} : (byV l).all flatV = true := by
  unfold byV
  rw [List.all_map, List.all_eq_true]
  exact fun _ _ => rfl
theorem val_in {ta tb : TE} {i : Nat} {c : Addr} {l : List Nat} (ha : Val ta σ H (.int (i : Int))) (hb : Val tb σ H (.ref c)) (hc : SqL K H c (byV l)) : Val (tOp (rIn K false) ta tb) σ H (.bl (l.contains i)) := val_op ha hb fun _ q => ⟨c, byV l, rfl, .inl hc, rfl, flat_byV, by
  rw [inV_byV]
  exact q⟩
theorem mayV_len {h : Gp27.House} : (mayV h).length = h.asks.length := by
  unfold mayV
  rw [List.length_map]
end
section
variable {P : Program} {w : World} {K : PySem.W.Frag} {mg : Str → Option Value} {base : Heap}
theorem pure_none_down (T : Txt w K mg) (vs : List V) (H : Hp) (Q : VK) (E : XK) (h : sp_none_down K vs H Q E) : t_none_down K { nx := fun _ H' => Q .non H', rt := Q } (start N_none_down vs) H := by
  obtain ⟨a, F, A, w, rfl, R, G, kk⟩ := h
  have hn := G.ok.hs.ns
  refine e_ret (c_op (e_lst (va_cons val_c va_nil) rfl fun p1 hp1 => ?_))
  have R1 := RunAt.mono R (same_new (o := .lst [V.bl false]) hp1)
  refine val_len (vrn_down T (val_var rfl) R1.run) (SqL.of R1.dn) _ ⟨p1, _, _, rfl, rfl, upd_same, ?_, ?_, ?_, fun D hD => ?_⟩
  · omega
  · rw [downV_len]; omega
  · rw [downV_len]
    show 1 * (((w.house.services.length : Nat) : Int)).toNat ≤ _
    exact Nat.le_trans (show _ ≤ 8 by omega) (by decide)
  · have hD0 : H D = none := by
      by_cases e : D = p1
      · rw [e]; exact hp1
      · rw [upd_ne e] at hD; exact hD
    refine kk D _ hD0 (same_upd (fun b o z => same_new hp1 _ _ z) hD0) ?_
    rw [upd_same, downV_len]
    have e : (List.replicate (((w.house.services.length : Nat) : Int)).toNat [V.bl false]).flatten = dnV w.house [] := by
      unfold dnV
      rw [show (((w.house.services.length : Nat) : Int)).toNat = w.house.services.length by omega]
      generalize w.house.services.length = n
      induction n with
      | zero => rfl
      | succ n ih => rw [List.replicate_succ', List.flatten_append, ih, List.range_succ, List.map_append] <;> rfl
    rw [e]
theorem pure_one_down (T : Txt w K mg) (vs : List V) (H : Hp) (Q : VK) (E : XK) (h : sp_one_down K vs H Q E) : t_one_down K { nx := fun _ H' => Q .non H', rt := Q } (start N_one_down vs) H := by
  obtain ⟨a, F, A, w, s, rfl, R, G, kk⟩ := h
  have hn := G.ok.hs.ns
  refine e_lcR (n := w.house.services.length) (fun i => V.bl (List.contains [s] i)) (va_cons (val_to (val_len (vrn_down T (val_var rfl) R.run) (SqL.of R.dn)) (by rw [downV_len])) va_nil) (by omega) (fun _ => rfl) (fun i hi H' _ => ?_) kk
  refine val_to (val_eq (val_var (v := .int (i : Int)) rfl) (val_var (v := .int (s : Int)) rfl)) ?_
  congr 1
  rw [Bool.eq_iff_iff, decide_eq_true_iff, List.contains_iff_mem, List.mem_singleton]
  exact ⟨fun z => Int.ofNat.inj (vi_eq.mp z), fun z => vi_eq.mpr (congrArg (fun n : Nat => (n : Int)) z)⟩
theorem pure_outcome_of (T : Txt w K mg) (vs : List V) (H : Hp) (Q : VK) (E : XK) (h : sp_outcome_of K vs H Q E) : t_outcome_of K { nx := fun _ H' => Q .non H', rt := Q } (start N_outcome_of vs) H := by
  obtain ⟨a, F, A, w, rfl, R, hk, kk⟩ := h
  have hq := getD_get (l := A.rs) (k := 0) (by rw [R.len]; exact hk)
  have hr := RunW.raw R hk hq
  refine st_set (val_ix (n := 0) (vrn_requests T (val_var rfl) R.run) val_c (SqL.of R.rq) rfl (map_at hq)) ?_
  refine st_ret (val_if (v := .int (endOf w : Nat)) (b := Gp27.isOver (Gp27.reqAt w 0)) (Ans.to (ans_t (val_eq (vrq_status T (val_var rfl) hr) val_c)) ?_) (fun h => ?_) (fun h => ?_)) kk
  · rw [Bool.eq_iff_iff, decide_eq_true_iff, Cw.isOver_iff]
    exact ⟨fun z => Int.ofNat.inj (vi_eq.mp z), fun z => vi_eq.mpr (congrArg (fun n : Nat => (n : Int)) z)⟩
  · refine val_to (vrq_first T (val_var rfl) hr) ?_
    show V.int (Cw.cd2 (Gp27.reqAt w 0).state : Nat) = _
    unfold Gp27.isOver at h
    unfold endOf
    cases e : (Gp27.reqAt w 0).state <;> rw [e] at h <;> first | rfl | cases h
  · refine val_to val_c ?_
    unfold Gp27.isOver at h
    unfold endOf
    cases e : (Gp27.reqAt w 0).state <;> rw [e] at h <;> first | rfl | cases h
theorem pure_falls (T : Txt w K mg) (vs : List V) (H : Hp) (Q : VK) (E : XK) (h : sp_falls K vs H Q E) : t_falls K { nx := fun _ H' => Q .non H', rt := Q } (start N_falls vs) H := by
  obtain ⟨a, p, F, A, w, ns, rfl, R, G, hp, hl, np, kk⟩ := h
  obtain ⟨s, rfl⟩ := len1 hl
  have kk : After K F a A H w (if Gp27.hasService w s = false then [-2] else Gp27.ints ((List.range w.house.entries.length).map fun e => Gp27.ends w.house [s] e)) Q := kk
  refine st_set (val_part (val_var rfl) hp (i := 0) rfl) ?_
  refine st_ifd (p := Gp27.hasService w s = false) (Ans.to (ans_t (val_ge (val_var rfl) (val_len (vrn_down T (val_var rfl) R.run) (SqL.of R.dn)))) (decide_eq_decide.mpr (by rw [Cw.has_iff, downV_len]; show ((w.house.services.length : Int) ≤ (s : Int)) ↔ _; omega))) (fun h1 => ?_) (fun h1 => ?_)
  · rw [if_pos h1] at kk
    exact op_ret R Ext.refl kk (va_cons val_c va_nil)
  rw [if_neg h1] at kk
  have hs : s < w.house.services.length := Decidable.of_not_not fun z => h1 (Cw.has_iff.mpr z)
  refine e_asg (e_fn (va_cons (val_var rfl) (va_cons (val_var rfl) va_nil)) ⟨a, F, A, w, s, rfl, R, G, fun D1 H1 hD1 s1 h1 => ?_⟩)
  have R1 := RunAt.mono R s1
  obtain ⟨sv, ak, gt, ss, p1, p2, p3, p4⟩ := R1.gates
  refine e_ret (e_lcRS (n := w.house.entries.length) (fun e => V.int (Gp27.ends w.house [s] e : Nat)) (va_cons (val_to (val_len (vpl_gates T (vrn_plan T (val_var rfl) R1.run) p1) (SqL.of p2)) (by rw [p3])) va_nil) (by have := G.ok.hs.ne; omega) (fun _ => rfl) (fun e he H2 Q2 s2 q2 => ?_) fun D2 H2 hD2 s2 h2 => ?_)
  · have R2 := RunAt.mono R1 s2
    obtain ⟨PP, m, x⟩ := R2.plan
    refine e_call1 (e_fn (va_cons (vrn_plan T (val_var rfl) R2.run) (va_cons (val_var rfl) (va_cons (val_var rfl) (va_cons (vrn_optional T (val_var rfl) R2.run) va_nil)))) ⟨_, D1, _, e, PP, w.house, w.house, m, [s], rfl, x, G.ok.hs, Cw.SameUp.refl, he, nodup1, fun z hz => by rw [List.mem_singleton.mp hz]; exact hs, SqL.of (s2 _ _ h1), SqL.of R2.op, fun H3 r A3 R3 => ⟨r, _, A3, _, rfl, R3, (Cw.alone_ok G.ok.hs nodup1 (fun z hz => by rw [List.mem_singleton.mp hz]; exact hs) he).2.1, q2 H3 R3.fz⟩⟩)
  · have e : (List.range w.house.entries.length).map (fun e => V.int (Gp27.ends w.house [s] e : Nat)) = (Gp27.ints ((List.range w.house.entries.length).map fun e => Gp27.ends w.house [s] e)).map V.int := by
      unfold Gp27.ints
      rw [List.map_map, List.map_map] <;> rfl
    rw [e] at h2
    exact kk H2 A D2 (RunAt.mono R1 s2) (Ext.same (trS s1 s2)) (fun _ => by
      cases z : H D2 with
      | none => rfl
      | some o => rw [s1 _ _ z] at hD2; cases hD2) (R1.not_own hD2) h2
theorem pure_count_asked (T : Txt w K mg) (vs : List V) (H : Hp) (Q : VK) (E : XK) (h : sp_count_asked K vs H Q E) : t_count_asked K { nx := fun _ H' => Q .non H', rt := Q } (start N_count_asked vs) H := by
  obtain ⟨a, d, F, A, w, e, s, downs, rfl, R, G, he, nd, hd, hx, kk⟩ := h
  obtain ⟨PP, m, x⟩ := R.plan
  refine e_asg (e_fn (va_cons (vrn_plan T (val_var rfl) R.run) (va_cons (val_var rfl) (va_cons (val_var rfl) (va_cons (vrn_optional T (val_var rfl) R.run) va_nil)))) ⟨_, d, _, e, PP, w.house, w.house, m, downs, rfl, x, G.ok.hs, Cw.SameUp.refl, he, nd, hd, hx, SqL.of R.op, fun H1 r A1 R1 => ?_⟩)
  have hlen := R1.len
  have hmx := (Cw.alone_ok G.ok.hs nd hd he).2.2
  refine e_ret (e_len (e_reqs (j := 5) (vs := [5]) (ks := List.range (Gp27.alone w.house downs e).requests.length) (fun r => r.service == s) R1 (vrn_requests T (val_var rfl) R1.run) (R1.rq.trans (by rw [← refs_all hlen])) (fun k hk => List.mem_range.mp hk) (by rw [List.length_range]; omega) (fun _ => rfl) (fun k q H' hk hr => ?_) (fun q H' => by exact val_var rfl) fun D2 H2 hD2 s2 h2 => ⟨D2, _, rfl, .inl (SqL.of h2), ?_⟩))
  · refine Ans.to (ans_t (val_eq (vrq_service T (val_var rfl) hr) (val_var rfl))) ?_
    rw [Bool.eq_iff_iff, decide_eq_true_iff, beq_iff_eq]
    exact ⟨fun z => Int.ofNat.inj (vi_eq.mp z), fun z => vi_eq.mpr (congrArg (fun n : Nat => (n : Int)) z)⟩
  · rw [own_len (f := fun r => r.service == s)]
    exact kk H2 (trS R1.fz s2)
theorem pure_asked (T : Txt w K mg) (vs : List V) (H : Hp) (Q : VK) (E : XK) (h : sp_asked K vs H Q E) : t_asked K { nx := fun _ H' => Q .non H', rt := Q } (start N_asked vs) H := by
  obtain ⟨a, p, F, A, w, ns, rfl, R, G, hp, hl, np, kk⟩ := h
  obtain ⟨g, s, rfl⟩ := len2 hl
  obtain ⟨sv, ak, gt, ss, p1, p2, p3, p4⟩ := R.gates
  have kk : After K F a A H w (if w.house.entries.length ≤ g ∨ Gp27.hasService w s = false then [-2] else Gp27.ints [Gp27.timesAsked w.house [] g s, Gp27.timesAsked w.house [s] g s]) Q := kk
  refine st_par (va_cons (val_part (val_var rfl) hp (i := 0) rfl) (va_cons (val_part (val_var rfl) hp (i := 1) rfl) va_nil)) ?_
  refine st_ifd (p := w.house.entries.length ≤ g ∨ Gp27.hasService w s = false) (Ans.to (ans_or2 (ans_t (val_ge (val_var rfl) (val_len (vpl_gates T (vrn_plan T (val_var rfl) R.run) p1) (SqL.of p2)))) fun _ => ans_t (val_ge (val_var rfl) (val_len (vrn_down T (val_var rfl) R.run) (SqL.of R.dn)))) (by rw [Bool.eq_iff_iff, Bool.or_eq_true, decide_eq_true_iff, decide_eq_true_iff, decide_eq_true_iff, Cw.has_iff, downV_len, p3]; show ((w.house.entries.length : Int) ≤ (g : Int) ∨ (w.house.services.length : Int) ≤ (s : Int)) ↔ _; omega)) (fun h1 => ?_) (fun h1 => ?_)
  · rw [if_pos h1] at kk
    exact op_ret R Ext.refl kk (va_cons val_c va_nil)
  rw [if_neg h1] at kk
  have hs : s < w.house.services.length := Decidable.of_not_not fun z => h1 (.inr (Cw.has_iff.mpr z))
  have hg : g < w.house.entries.length := Nat.lt_of_not_le fun z => h1 (.inl z)
  refine e_asg (e_call4 (val_var (v := .ref a) rfl) (val_var (v := .int (g : Int)) rfl) (val_var (v := .int (s : Int)) rfl) (e_fn (va_cons (val_var rfl) va_nil) ⟨a, F, A, w, rfl, R, G, fun D1 H1 hD1 s1 h1 => ?_⟩))
  have R1 := RunAt.mono R s1
  refine ⟨a, D1, F, A, w, g, s, [], rfl, R1, G, hg, List.nodup_nil, fun _ z => absurd z List.not_mem_nil, SqL.of h1, fun H2 s2 => ?_⟩
  have R2 := RunAt.mono R1 s2
  refine ret2 (x := .int (Gp27.timesAsked w.house [] g s : Nat)) (val_var rfl) ?_
  refine e_call4 (val_var (v := .ref a) rfl) (val_var (v := .int (g : Int)) rfl) (val_var (v := .int (s : Int)) rfl) (e_fn (va_cons (val_var rfl) (va_cons (val_var rfl) va_nil)) ⟨a, F, A, w, s, rfl, R2, G, fun D3 H3 hD3 s3 h3 => ?_⟩)
  have R3 := RunAt.mono R2 s3
  refine ⟨a, D3, F, A, w, g, s, [s], rfl, R3, G, hg, nodup1, fun z hz => by rw [List.mem_singleton.mp hz]; exact hs, SqL.of h3, fun H4 s4 => ⟨Nat.le_trans (show 2 ≤ 1000 by decide) (by decide), fun d hd => ?_⟩⟩
  exact op_new (RunAt.mono R3 s4) (Ext.same (trS (trS (trS s1 s2) s3) s4)) kk hd
theorem pure_sets_of_calls (T : Txt w K mg) (vs : List V) (H : Hp) (Q : VK) (E : XK) (h : sp_sets_of_calls K vs H Q E) : t_sets_of_calls K { nx := fun _ H' => Q .non H', rt := Q } (start N_sets_of_calls vs) H := by
  obtain ⟨n, rfl, hn, kk⟩ := h
  have sz : ∀ {α : Type} (x : α), [x].length ≤ sizeLine := fun _ => Nat.le_trans (show 1 ≤ 1000 by decide) (by decide)
  refine e_asg (e_lst1 (e_lst va_nil rfl fun p1 hp1 => ⟨sz _, fun D hD => ?_⟩))
  have hD0 : H D = none := by
    by_cases e : D = p1
    · rw [e]; exact hp1
    · rw [upd_ne e] at hD; exact hD
  have ne : p1 ≠ D := fun e => by rw [← e, upd_same] at hD; cases hD
  have s0 : Same H (upd (upd H p1 (.lst [])) D (.lst [V.ref p1])) := same_upd (fun b o h => same_new hp1 _ _ h) hD0
  have l0 : ListsAt (upd (upd H p1 (.lst [])) D (.lst [V.ref p1])) D ([[]] ++ (List.range 0).map fun i => [i]) := ⟨[p1], upd_same, rfl, fun i l hl => by
    cases i with
    | zero =>
      cases hl
      exact ⟨p1, rfl, ne, by rw [upd_ne ne, upd_same] <;> rfl⟩
    | succ i => cases hl⟩
  generalize upd (upd H p1 (.lst [])) D (.lst [V.ref p1]) = H0 at s0 l0
  refine st_range1 (n := n) (va_cons (val_var rfl) va_nil) (by omega) (fun i σ' H' => ∃ y : Option V, σ' = [some (.int (n : Int)), some (.ref D), y, none] ∧ Same H H' ∧ ListsAt H' D ([[]] ++ (List.range i).map fun i => [i])) ⟨none, rfl, s0, l0⟩ ?_ ?_
  · rintro i σ' H' hi ⟨y, rfl, s, hl⟩
    refine st_appL (i := 1) (l := [i]) rfl (va_cons (val_var rfl) va_nil) rfl hl (by rw [List.length_append, List.length_map, List.length_range]; show 1 + i ≤ _; omega) s hD0 fun H2 s2 l2 => ⟨_, rfl, s2, ?_⟩
    rw [List.range_succ, List.map_append, ← List.append_assoc]
    exact l2
  rintro σ' H1 ⟨y, rfl, s1, l1⟩
  have l1' : ListsAt H1 D (sofar n 0) := by
    unfold sofar
    rw [List.range_zero, List.flatMap_nil, List.append_nil]
    exact l1
  refine st_range1 (n := n) (va_cons (val_var rfl) va_nil) (by omega) (fun i σ' H' => ∃ y z : Option V, σ' = [some (.int (n : Int)), some (.ref D), y, z] ∧ Same H H' ∧ ListsAt H' D (sofar n i)) ⟨y, none, rfl, s1, l1'⟩ ?_ ?_
  · rintro i σ' H' hi ⟨y, z, rfl, s, hl⟩
    refine st_range2 (lo := i + 1) (n := n) (va_cons (val_to (val_add (val_var (v := .int (i : Int)) rfl) val_c) rfl) (va_cons (val_var rfl) va_nil)) (by omega) (by omega) (fun j σ'' H'' => ∃ z : Option V, σ'' = [some (.int (n : Int)), some (.ref D), some (.int (i : Int)), z] ∧ Same H H'' ∧ ListsAt H'' D (sofar n i ++ (List.range j).map fun d => [i, i + 1 + d])) ⟨z, rfl, s, by rw [List.range_zero, List.map_nil, List.append_nil]; exact hl⟩ ?_ ?_
    · rintro j σ'' H'' hj ⟨z, rfl, s, hl⟩
      refine st_appL (i := 1) (l := [i, i + 1 + j]) rfl (va_cons (val_var rfl) (va_cons (val_var rfl) va_nil)) rfl hl (by
        have := sofar_len hn i (by omega)
        rw [List.length_append, List.length_map, List.length_range]
        have : 12 * i ≤ 12 * 12 := Nat.mul_le_mul_left _ (by omega)
        omega) s hD0 fun H2 s2 l2 => ⟨_, rfl, s2, ?_⟩
      rw [List.range_succ, List.map_append, ← List.append_assoc]
      exact l2
    · rintro σ'' H'' ⟨z, rfl, s, hl⟩
      refine ⟨_, _, rfl, s, ?_⟩
      rw [sofar_succ hi]
      exact hl
  · rintro σ' H2 ⟨y, z, rfl, s2, l2⟩
    exact st_ret (val_var rfl) (kk D H2 hD0 s2 l2)
theorem pure_optional_with (T : Txt w K mg) (vs : List V) (H : Hp) (Q : VK) (E : XK) (h : sp_optional_with K vs H Q E) : t_optional_with K { nx := fun _ H' => Q .non H', rt := Q } (start N_optional_with vs) H := by
  obtain ⟨o, c, h, l, rfl, ho, hc, hn, kk⟩ := h
  refine e_ret (val_var (v := .ref o) rfl _ ⟨o, mayV h, rfl, ho, fun D hD => lc_it (walk_enum (xs := mayV h)) (fun i H' => Same H H' ∧ H' D = some (.lst ((mayV (Gp27.mayFail h l)).take i))) ⟨same_put (Same.refl H) hD, upd_same⟩ (fun i H' _ p => Same.seq p.1 ho) ?_ ?_⟩)
  · rintro i x H1 H2 hi ⟨s, hd⟩ ⟨t, u, v, rfl, ht, rfl, e1, e2⟩
    rw [mayV_len] at hi
    cases e1
    have e2 : (mayV h)[i]? = some v := e2
    rw [mayV_at hi] at e2
    cases e2
    refine ⟨t, _, rfl, SqT.of upd_same, rfl, _, _, rfl, _, _, rfl, rfl, rfl, ans_yes _ (iteT ?_)⟩
    have s2 : Same H (upd H1 t (.tup [V.int (i : Nat), V.bl (Cw.askOf h i).may])) := fun b o z => same_new ht _ _ (s _ _ z)
    refine val_or (c := l.contains i) (k := (Cw.askOf h i).may || l.contains i) (val_var rfl) (fun _ => val_in (val_var rfl) (val_var rfl) (Same.seq s2 hc)) rfl _ ⟨_, same_new ht _ _ hd, ?_, same_upd s2 hD, ?_⟩
    · rw [List.length_take]
      exact Nat.lt_of_le_of_lt (Nat.min_le_left _ _) (Nat.lt_of_lt_of_le hi (Nat.le_trans hn (by decide)))
    · rw [upd_same, take_more (i := i) (x := V.bl ((Cw.askOf h i).may || l.contains i))]
      rw [mayV_at (by rw [Cw.mayFail_len]; exact hi)]
      have e : Cw.askOf (Gp27.mayFail h l) i = if l.contains i = true then { Cw.askOf h i with may := true } else Cw.askOf h i := by
        have := Cw.mayFail_at (l := l) (Cw.askOf_eq hi)
        unfold Cw.askOf at this ⊢
        rw [List.getD_eq_getElem?_getD, this] <;> rfl
      rw [e]
      cases l.contains i with
      | true => rw [if_pos rfl, Bool.or_true]
      | false => rw [if_neg Bool.false_ne_true, Bool.or_false]
  · rintro H' ⟨s, hd⟩
    rw [List.take_of_length_le (by rw [mayV_len, mayV_len, Cw.mayFail_len]; exact Nat.le_refl _)] at hd
    exact kk D H' hD s hd
theorem pairs_len {n : Nat} {l : List Nat} (h : l ∈ Gp27.pairsOf n) : l.length ≤ 2 := by
  unfold Gp27.pairsOf at h
  rcases List.mem_append.mp h with h | h
  · rcases List.mem_append.mp h with h | h
    · rw [List.mem_singleton.mp h]; decide
    · obtain ⟨i, _, e⟩ := List.mem_map.mp h
      rw [← e]; exact Nat.le_of_ble_eq_true rfl
  · obtain ⟨i, _, h⟩ := List.mem_flatMap.mp h
    obtain ⟨j, _, e⟩ := List.mem_map.mp h
    rw [← e]; exact Nat.le_of_ble_eq_true rfl
theorem pure_cure (T : Txt w K mg) (vs : List V) (H : Hp) (Q : VK) (E : XK) (h : sp_cure K vs H Q E) : t_cure K { nx := fun _ H' => Q .non H', rt := Q } (start N_cure vs) H := by
  obtain ⟨a, p, F, A, w, ns, rfl, R, G, hp, hl, np, kk⟩ := h
  obtain ⟨g, s, rfl⟩ := len2 hl
  obtain ⟨sv, ak, gt, ss, p1, p2, p3, p4⟩ := R.gates
  have kk : After K F a A H w (if w.house.entries.length ≤ g ∨ Gp27.hasService w s = false then [-2] else match Gp27.cure w.house g s with
    | none => [-6]
    | some l => Gp27.ints (l.length :: l)) Q := kk
  refine st_par (va_cons (val_part (val_var rfl) hp (i := 0) rfl) (va_cons (val_part (val_var rfl) hp (i := 1) rfl) va_nil)) ?_
  refine st_ifd (p := w.house.entries.length ≤ g ∨ Gp27.hasService w s = false) (Ans.to (ans_or2 (ans_t (val_ge (val_var rfl) (val_len (vpl_gates T (vrn_plan T (val_var rfl) R.run) p1) (SqL.of p2)))) fun _ => ans_t (val_ge (val_var rfl) (val_len (vrn_down T (val_var rfl) R.run) (SqL.of R.dn)))) (by rw [Bool.eq_iff_iff, Bool.or_eq_true, decide_eq_true_iff, decide_eq_true_iff, decide_eq_true_iff, Cw.has_iff, downV_len, p3]; show ((w.house.entries.length : Int) ≤ (g : Int) ∨ (w.house.services.length : Int) ≤ (s : Int)) ↔ _; omega)) (fun h1 => ?_) (fun h1 => ?_)
  · rw [if_pos h1] at kk
    exact op_ret R Ext.refl kk (va_cons val_c va_nil)
  rw [if_neg h1] at kk
  have hs : s < w.house.services.length := Decidable.of_not_not fun z => h1 (.inr (Cw.has_iff.mpr z))
  have hg : g < w.house.entries.length := Nat.lt_of_not_le fun z => h1 (.inl z)
  have hd1 : ∀ z ∈ [s], z < w.house.services.length := fun z hz => by rw [List.mem_singleton.mp hz]; exact hs
  refine e_asg (e_fn (va_cons (val_var rfl) (va_cons (val_var rfl) va_nil)) ⟨a, F, A, w, s, rfl, R, G, fun D1 H1 hD1 s1 h1 => ?_⟩)
  have R1 := RunAt.mono R s1
  refine for_c (e_fn (va_cons (val_to (val_len (vrn_optional T (val_var rfl) R1.run) (SqL.of R1.op)) (by rw [mayV_len])) va_nil) ⟨w.house.asks.length, rfl, G.ok.hs.na, fun D2 H2 hD2 s2 l2 => ?_⟩)
  obtain ⟨ps, q1, q2, q3⟩ := l2
  have s12 : Same H H2 := trS s1 s2
  refine st_list ps V.ref val_c (SqL.of q1) (fun i σ' H' => ∃ y : Option V, σ' = [some (.ref a), some (.ref p), some (.int (g : Int)), some (.int (s : Int)), some (.ref D1), y] ∧ Same H2 H' ∧ ((Gp27.pairsOf w.house.asks.length).take i).find? (fun l => Gp27.ends (Gp27.mayFail w.house l) [s] g == 0) = none) ⟨none, rfl, Same.refl _, rfl⟩ ?_ ?_ ?_
  · rintro i σ' H' ⟨y, _, s3, _⟩
    exact SqL.of (s3 _ _ q1)
  · rintro i pi σ' H3 hi ⟨y, rfl, s3, hf⟩
    have hil : i < (Gp27.pairsOf w.house.asks.length).length := by rw [← q2]; exact (List.getElem?_eq_some_iff.mp hi).1
    have el := List.getElem?_eq_getElem hil
    generalize (Gp27.pairsOf w.house.asks.length)[i] = l at el
    obtain ⟨p', e1, e2, e3⟩ := q3 i l el
    cases hi.symm.trans e1
    have s13 : Same H H3 := trS s12 s3
    have R3 := RunAt.mono R s13
    refine st_ifeq (e_call1 (e_call4 (vrn_plan T (val_var rfl) R3.run) (val_var (v := .int (g : Int)) rfl) (val_var (v := .ref D1) rfl) (e_fn (va_cons (vrn_optional T (val_var rfl) R3.run) (va_cons (val_var rfl) va_nil)) ⟨_, _, w.house, l, rfl, SqL.of R3.op, SqL.of (s3 _ _ e3), G.ok.hs.na, fun D4 H4 hD4 s4 h4 => ?_⟩)))
    have R4 := RunAt.mono R3 s4
    obtain ⟨PP, m, x⟩ := R4.plan
    refine ⟨_, D1, D4, g, PP, w.house, Gp27.mayFail w.house l, m, [s], rfl, x, G.ok.hs, Cw.mayFail_same, hg, nodup1, hd1, SqL.of (s4 _ _ (s3 _ _ (s2 _ _ h1))), SqL.of h4, fun H5 r A5 R5 => ⟨r, _, A5, _, rfl, R5, (Cw.alone_ok (Cw.mayFail_same.ok G.ok.hs) nodup1 hd1 hg).2.1, rfl, _, rfl, ?_⟩⟩
    have s5 : Same H H5 := trS (trS s13 s4) R5.fz
    have e5 : H5 pi = some (.lst (byV l)) := R5.fz _ _ (s4 _ _ (s3 _ _ e3))
    have ee : endOf (Gp27.alone (Gp27.mayFail w.house l) [s] g) = Gp27.ends (Gp27.mayFail w.house l) [s] g := rfl
    rw [ee]
    by_cases z : Gp27.ends (Gp27.mayFail w.house l) [s] g = 0
    · rw [show decide (V.int (Gp27.ends (Gp27.mayFail w.house l) [s] g : Nat) = V.int 0) = true from decide_eq_true (by rw [z]; rfl)]
      refine iteT ?_
      have ec : Gp27.cure w.house g s = some l := find_at hf el (by simpa using z)
      rw [ec] at kk
      have kk : After K F a A H w (Gp27.ints (l.length :: l)) Q := kk
      refine e_ret (c_op (e_lst (va_cons (val_len (val_var rfl) (SqL.of e5)) va_nil) rfl fun p5 hp5 => val_var (v := .ref pi) rfl _ ⟨p5, pi, _, _, rfl, rfl, upd_same, same_new hp5 _ _ e5, ?_, fun d hd => ?_⟩))
      · have := pairs_len (List.mem_of_getElem? el)
        unfold byV
        rw [List.length_map]
        exact Nat.le_trans (show 1 + l.length ≤ 1000 by omega) (by decide)
      · have e : ([V.int ((byV l).length : Nat)] ++ byV l : List V) = (Gp27.ints (l.length :: l)).map V.int := by
          unfold byV Gp27.ints
          rw [List.length_map, List.map_cons, List.map_cons, List.map_map] <;> rfl
        rw [e]
        exact op_new (RunAt.mono R (trS s5 (same_new hp5))) (Ext.same (trS s5 (same_new hp5))) kk hd
    · rw [show decide (V.int (Gp27.ends (Gp27.mayFail w.house l) [s] g : Nat) = V.int 0) = false from decide_eq_false fun y => z (Int.ofNat.inj (vi_eq.mp y))]
      refine iteF ?_
      exact ⟨_, rfl, trS (trS s3 s4) R5.fz, find_no hf el (by simpa using z)⟩
  · rintro σ' H3 ⟨y, rfl, s3, hf⟩
    rw [q2, List.take_length] at hf
    have ec : Gp27.cure w.house g s = none := hf
    rw [ec] at kk
    have kk : After K F a A H w [-6] Q := kk
    exact op_ret (σ := []) (D := { nx := fun _ H' => Q .non H', rt := Q }) (RunAt.mono R (trS s12 s3)) (Ext.same (trS s12 s3)) kk (va_cons val_c va_nil)
theorem ok_none_down (T : Txt w K mg) : Has P w K mg base 1 (He.fAd K ("none_down", none)) ["run"] (sp_none_down K) := by
  refine Has.of (T.d_none_down) sc_none_down (fun _ _ _ _ _ _ us hl => match us, hl with | [_], _ => rfl) len_none_down (t_none_down K) (fun cdv A outer s H E hr => ?_) (pure_none_down T)
  have nd := sc_none_down.nd
  exact (pss_one (ps_ret (pe_op op_rep (pe_lst (pa_cons pe_bl pa_nil)) (pe_callB call_len_seq (by rfl) T.b_len PySem.boot_len (pa_cons (pe_fld (pw 0) rfl) pa_nil)))))
theorem ok_one_down (T : Txt w K mg) : Has P w K mg base 1 (He.fAd K ("one_down", none)) ["run", "service"] (sp_one_down K) := by
  refine Has.of (T.d_one_down) sc_one_down (fun _ _ _ _ _ _ us hl => match us, hl with | [_, _], _ => rfl) len_one_down (t_one_down K) (fun cdv A outer s H E hr => ?_) (pure_one_down T)
  have nd := sc_one_down.nd
  exact (pss_one (ps_ret (pe_lc (own := [("other", 2)]) (by rfl) nd (pi_range1 rfl T.b_range (pa_cons (pe_callB call_len_seq (by rfl) T.b_len PySem.boot_len (pa_cons (pe_fld (pw 0) rfl) pa_nil)) pa_nil)) (blkOk_by (own := [("other", 2)]) (N := N_one_down) (sc := defScope s_one_down) (by decide +kernel)) (fun _ _ _ _ _ => (pg_name (i := 2) nd rfl (Or.inl rfl))) (fun _ _ _ _ _ => pts_nil) (fun _ _ _ _ _ => (pe_cmpR op_eq (pw 2) (pw 1) (nomark _))))))
theorem ok_outcome_of (T : Txt w K mg) : Has P w K mg base 1 (He.fAd K ("outcome_of", none)) ["run"] (sp_outcome_of K) := by
  refine Has.of (T.d_outcome_of) sc_outcome_of (fun _ _ _ _ _ _ us hl => match us, hl with | [_], _ => rfl) len_outcome_of (t_outcome_of K) (fun cdv A outer s H E hr => ?_) (pure_outcome_of T)
  have nd := sc_outcome_of.nd
  exact (pss_cons (ps_set (i := 1) nd rfl (Or.inl rfl) (pe_ix ix_list (pe_fld (pw 0) rfl) pe_int (fun _ _ => rfl)))
      (pss_one (ps_ret (pe_ifExp (pt_cmpR op_eq (pe_fld (pw 1) rfl) (pe_gi rfl T.i_ENDED) (nomark _)) (pe_fld (pw 1) rfl) (pe_gi rfl T.i_NOT_ENDED)))))
theorem ok_count_asked (T : Txt w K mg) : Has P w K mg base 12 (He.fAd K ("count_asked", none)) ["run", "entry", "service", "down"] (sp_count_asked K) := by
  have G_isolated := ok_isolated (P := P) (base := base) T
  refine Has.of (T.d_count_asked) sc_count_asked (fun _ _ _ _ _ _ us hl => match us, hl with | [_, _, _, _], _ => rfl) len_count_asked (t_count_asked K) (fun cdv A outer s H E hr => ?_) (pure_count_asked T)
  have nd := sc_count_asked.nd
  exact (pss_cons (ps_set (i := 4) nd rfl (Or.inl rfl) (pe_fn G_isolated (hr.mono (by decide)) rfl T.g_isolated (pa_cons (pe_fld (pw 0) rfl) (pa_cons (pw 1) (pa_cons (pw 3) (pa_cons (pe_fld (pw 0) rfl) pa_nil))))))
      (pss_one (ps_ret (pe_callB call_len_seq (by rfl) T.b_len PySem.boot_len (pa_cons (pe_lc (own := [("request", 5)]) (by rfl) nd (pi_list (pe_fld (pw 4) rfl)) (blkOk_by (own := [("request", 5)]) (N := N_count_asked) (sc := defScope s_count_asked) (by decide +kernel)) (fun _ _ _ _ _ => (pg_name (i := 5) nd rfl (Or.inl rfl))) (fun _ _ _ _ _ => pts_one (pt_cmpR op_eq (pe_fld (pw 5) rfl) (pw 2) (nomark _))) (fun _ _ _ _ _ => (pw 5))) pa_nil)))))
theorem ok_falls (T : Txt w K mg) : Has P w K mg base 12 (He.fAd K ("falls", none)) ["run", "parts"] (sp_falls K) := by
  have G_one_down := ok_one_down (P := P) (base := base) T
  have G_isolated := ok_isolated (P := P) (base := base) T
  have G_outcome_of := ok_outcome_of (P := P) (base := base) T
  refine Has.of (T.d_falls) sc_falls (fun _ _ _ _ _ _ us hl => match us, hl with | [_, _], _ => rfl) len_falls (t_falls K) (fun cdv A outer s H E hr => ?_) (pure_falls T)
  have nd := sc_falls.nd
  exact (pss_cons (ps_set (i := 2) nd rfl (Or.inl rfl) (pe_ix ix_list (pw 1) pe_int (fun _ _ => rfl)))
      (pss_cons (ps_if (pt_cmpR op_ge (pw 2) (pe_callB call_len_seq (by rfl) T.b_len PySem.boot_len (pa_cons (pe_fld (pw 0) rfl) pa_nil)) (nomark _)) (pss_one (ps_ret (pe_lst (pa_cons (pe_gi rfl T.i_NO_SUCH_questions) pa_nil)))) pss_nil)
      (pss_cons (ps_set (i := 3) nd rfl (Or.inr rfl) (pe_fn G_one_down (hr.mono (by decide)) rfl T.g_one_down (pa_cons (pw 0) (pa_cons (pw 2) pa_nil))))
      (pss_one (ps_ret (pe_lc (own := [("entry", 4)]) (by rfl) nd (pi_range1 rfl T.b_range (pa_cons (pe_callB call_len_seq (by rfl) T.b_len PySem.boot_len (pa_cons (pe_fld (pe_fld (pw 0) rfl) rfl) pa_nil)) pa_nil)) (blkOk_by (own := [("entry", 4)]) (N := N_falls) (sc := defScope s_falls) (by decide +kernel)) (fun _ _ _ _ _ => (pg_name (i := 4) nd rfl (Or.inl rfl))) (fun _ _ _ _ _ => pts_nil) (fun _ _ _ _ _ => (pe_fn G_outcome_of (hr.mono (by decide)) rfl T.g_outcome_of (pa_cons (pe_fn G_isolated (hr.mono (by decide)) rfl T.g_isolated (pa_cons (pe_fld (pw 0) rfl) (pa_cons (pw 4) (pa_cons (pw 3) (pa_cons (pe_fld (pw 0) rfl) pa_nil))))) pa_nil)))))))))
theorem ok_asked (T : Txt w K mg) : Has P w K mg base 13 (He.fAd K ("asked", none)) ["run", "parts"] (sp_asked K) := by
  have G_none_down := ok_none_down (P := P) (base := base) T
  have G_count_asked := ok_count_asked (P := P) (base := base) T
  have G_one_down := ok_one_down (P := P) (base := base) T
  refine Has.of (T.d_asked) sc_asked (fun _ _ _ _ _ _ us hl => match us, hl with | [_, _], _ => rfl) len_asked (t_asked K) (fun cdv A outer s H E hr => ?_) (pure_asked T)
  have nd := sc_asked.nd
  exact (pss_cons (ps_par rfl nd rfl rfl (by decide) rfl rfl (pa_cons (pe_ix ix_list (pw 1) pe_int (fun _ _ => rfl)) (pa_cons (pe_ix ix_list (pw 1) pe_int (fun _ _ => rfl)) pa_nil)) rfl)
      (pss_cons (ps_if (PW.pt (pw_or (pt_cmpR op_ge (pw 2) (pe_callB call_len_seq (by rfl) T.b_len PySem.boot_len (pa_cons (pe_fld (pe_fld (pw 0) rfl) rfl) pa_nil)) (nomark _)) (pw_or1 (pt_cmpR op_ge (pw 3) (pe_callB call_len_seq (by rfl) T.b_len PySem.boot_len (pa_cons (pe_fld (pw 0) rfl) pa_nil)) (nomark _))))) (pss_one (ps_ret (pe_lst (pa_cons (pe_gi rfl T.i_NO_SUCH_questions) pa_nil)))) pss_nil)
      (pss_cons (ps_set (i := 4) nd rfl (Or.inl rfl) (pe_fn G_count_asked (hr.mono (by decide)) rfl T.g_count_asked (pa_cons (pw 0) (pa_cons (pw 2) (pa_cons (pw 3) (pa_cons (pe_fn G_none_down (hr.mono (by decide)) rfl T.g_none_down (pa_cons (pw 0) pa_nil)) pa_nil))))))
      (pss_one (ps_ret (pe_lst (pa_cons (pw 4) (pa_cons (pe_fn G_count_asked (hr.mono (by decide)) rfl T.g_count_asked (pa_cons (pw 0) (pa_cons (pw 2) (pa_cons (pw 3) (pa_cons (pe_fn G_one_down (hr.mono (by decide)) rfl T.g_one_down (pa_cons (pw 0) (pa_cons (pw 3) pa_nil))) pa_nil))))) pa_nil))))))))
theorem ok_sets_of_calls (T : Txt w K mg) : Has P w K mg base 1 (He.fAd K ("sets_of_calls", none)) ["many"] (sp_sets_of_calls K) := by
  refine Has.of (T.d_sets_of_calls) sc_sets_of_calls (fun _ _ _ _ _ _ us hl => match us, hl with | [_], _ => rfl) len_sets_of_calls (t_sets_of_calls K) (fun cdv A outer s H E hr => ?_) (pure_sets_of_calls T)
  have nd := sc_sets_of_calls.nd
  exact (pss_cons (ps_set (i := 1) nd rfl (Or.inl rfl) (pe_lst (pa_cons (pe_lst pa_nil) pa_nil)))
      (pss_cons (ps_for PassesOwn.never rfl (pi_range1 rfl T.b_range (pa_cons (pw 0) pa_nil)) (pg_name (i := 2) nd rfl (Or.inl rfl)) (pss_one (ps_expr (pe_bm PySem.F.plainAttrs_list PySem.F.slot_list_append PySem.F.type_list_append mt_append (pw 1) (pa_cons (pe_lst (pa_cons (pw 2) pa_nil)) pa_nil)))))
      (pss_cons (ps_for PassesOwn.never rfl (pi_range1 rfl T.b_range (pa_cons (pw 0) pa_nil)) (pg_name (i := 2) nd rfl (Or.inl rfl)) (pss_one (ps_for PassesOwn.never rfl (pi_range2 rfl T.b_range (pa_cons (pe_op op_add (pw 2) pe_int) (pa_cons (pw 0) pa_nil))) (pg_name (i := 3) nd rfl (Or.inl rfl)) (pss_one (ps_expr (pe_bm PySem.F.plainAttrs_list PySem.F.slot_list_append PySem.F.type_list_append mt_append (pw 1) (pa_cons (pe_lst (pa_cons (pw 2) (pa_cons (pw 3) pa_nil))) pa_nil)))))))
      (pss_one (ps_ret (pw 1))))))
theorem ok_optional_with (T : Txt w K mg) : Has P w K mg base 1 (He.fAd K ("optional_with", none)) ["optional", "calls"] (sp_optional_with K) := by
  refine Has.of (T.d_optional_with) sc_optional_with (fun _ _ _ _ _ _ us hl => match us, hl with | [_, _], _ => rfl) len_optional_with (t_optional_with K) (fun cdv A outer s H E hr => ?_) (pure_optional_with T)
  have nd := sc_optional_with.nd
  exact (pss_one (ps_ret (pe_lc (own := [("number", 2), ("is_optional", 3)]) (by rfl) nd (pi_enum (by rfl) T.b_enumerate (pa_cons (pw 0) pa_nil)) (blkOk_by (own := [("number", 2), ("is_optional", 3)]) (N := N_optional_with) (sc := defScope s_optional_with) (by decide +kernel)) (fun _ _ _ _ _ => (pg_tup rfl (pgs_cons (pg_name (i := 2) nd rfl (Or.inl rfl)) (pgs_cons (pg_name (i := 3) nd rfl (Or.inl rfl)) pgs_nil)))) (fun _ _ _ _ _ => pts_nil) (fun _ _ _ _ _ => (pe_or (pw 3) (pe_one (pe_cmpR op_in_seq (pw 2) (pw 1) rfl)))))))
theorem ok_cure (T : Txt w K mg) : Has P w K mg base 12 (He.fAd K ("cure", none)) ["run", "parts"] (sp_cure K) := by
  have G_one_down := ok_one_down (P := P) (base := base) T
  have G_sets_of_calls := ok_sets_of_calls (P := P) (base := base) T
  have G_optional_with := ok_optional_with (P := P) (base := base) T
  have G_isolated := ok_isolated (P := P) (base := base) T
  have G_outcome_of := ok_outcome_of (P := P) (base := base) T
  refine Has.of (T.d_cure) sc_cure (fun _ _ _ _ _ _ us hl => match us, hl with | [_, _], _ => rfl) len_cure (t_cure K) (fun cdv A outer s H E hr => ?_) (pure_cure T)
  have nd := sc_cure.nd
  exact (pss_cons (ps_par rfl nd rfl rfl (by decide) rfl rfl (pa_cons (pe_ix ix_list (pw 1) pe_int (fun _ _ => rfl)) (pa_cons (pe_ix ix_list (pw 1) pe_int (fun _ _ => rfl)) pa_nil)) rfl)
      (pss_cons (ps_if (PW.pt (pw_or (pt_cmpR op_ge (pw 2) (pe_callB call_len_seq (by rfl) T.b_len PySem.boot_len (pa_cons (pe_fld (pe_fld (pw 0) rfl) rfl) pa_nil)) (nomark _)) (pw_or1 (pt_cmpR op_ge (pw 3) (pe_callB call_len_seq (by rfl) T.b_len PySem.boot_len (pa_cons (pe_fld (pw 0) rfl) pa_nil)) (nomark _))))) (pss_one (ps_ret (pe_lst (pa_cons (pe_gi rfl T.i_NO_SUCH_questions) pa_nil)))) pss_nil)
      (pss_cons (ps_set (i := 4) nd rfl (Or.inl rfl) (pe_fn G_one_down (hr.mono (by decide)) rfl T.g_one_down (pa_cons (pw 0) (pa_cons (pw 3) pa_nil))))
      (pss_cons (ps_for PassesOwn.never rfl (pi_list (pe_fn G_sets_of_calls (hr.mono (by decide)) rfl T.g_sets_of_calls (pa_cons (pe_callB call_len_seq (by rfl) T.b_len PySem.boot_len (pa_cons (pe_fld (pw 0) rfl) pa_nil)) pa_nil))) (pg_name (i := 5) nd rfl (Or.inl rfl)) (pss_one (ps_if (pt_cmpR op_eq (pe_fn G_outcome_of (hr.mono (by decide)) rfl T.g_outcome_of (pa_cons (pe_fn G_isolated (hr.mono (by decide)) rfl T.g_isolated (pa_cons (pe_fld (pw 0) rfl) (pa_cons (pw 2) (pa_cons (pw 4) (pa_cons (pe_fn G_optional_with (hr.mono (by decide)) rfl T.g_optional_with (pa_cons (pe_fld (pw 0) rfl) (pa_cons (pw 5) pa_nil))) pa_nil))))) pa_nil)) (pe_gi rfl T.i_SUCCESS) (nomark _)) (pss_one (ps_ret (pe_op op_cat (pe_lst (pa_cons (pe_callB call_len_seq (by rfl) T.b_len PySem.boot_len (pa_cons (pw 5) pa_nil)) pa_nil)) (pw 5)))) pss_nil)))
      (pss_one (ps_ret (pe_lst (pa_cons (pe_gi rfl T.i_NO_CURE) pa_nil))))))))
end
end Cc
end

/-! ## CcRule -/
section
set_option maxRecDepth 100000
set_option maxHeartbeats 4000000
/-! Rules of the reading that the kit's hand layer lacks: a list against an empty one, tables by whole numbers, the keys of a written table, zip of a list and a tuple. -/
namespace Cc
open PySem PySem.Spec PyProof.Rows L2
/-! ### xs == [] -/
def rEqE (K : PySem.W.Frag) : R2 := fun x y H Q => ∃ a b xs, x = .ref a ∧ y = .ref b ∧ SqL K H a xs ∧ SqL K H b [] ∧ Q (.bl xs.isEmpty) H
def rNeE (K : PySem.W.Frag) : R2 := fun x y H Q => ∃ a b xs, x = .ref a ∧ y = .ref b ∧ SqL K H a xs ∧ SqL K H b [] ∧ Q (.bl (!xs.isEmpty)) H
section
variable {X : Cx}
theorem op_eqE (hu : X.A.units + 64 < cLine) : OpR X (compareOp .Eq) (rEqE X.K) := by
  intro pins s σ H x y v u Q I rx ry h
  obtain ⟨a, b, xs, rfl, rfl, h1, h2, q⟩ := h
  cases rx
  cases ry
  obtain ⟨its, r1, p1, z1⟩ := I.list h1
  obtain ⟨its2, r2, p2, z2⟩ := I.list h2
  cases r2
  have hl := r1.length
  cases xs with
  | nil =>
    cases r1
    exact SeqAt.eq_listAt (e := fun _ => true) p1.isList p2.isList rfl (by omega) (fun j hj _ => absurd hj (Nat.not_lt_zero j)) ⟨.bl true, H, I, rfl, q⟩
  | cons x0 xr =>
    refine SeqAt.eq_list_lengthsAt p1.isList p2.isList ?_ (by omega) ⟨.bl false, H, I, rfl, q⟩
    cases r1
    rfl
theorem op_neE (hu : X.A.units + 64 < cLine) : OpR X (compareOp .NotEq) (rNeE X.K) := by
  intro pins s σ H x y v u Q I rx ry h
  obtain ⟨a, b, xs, rfl, rfl, h1, h2, q⟩ := h
  cases rx
  cases ry
  obtain ⟨its, r1, p1, z1⟩ := I.list h1
  obtain ⟨its2, r2, p2, z2⟩ := I.list h2
  cases r2
  have hl := r1.length
  cases xs with
  | nil =>
    cases r1
    exact SeqAt.RcNeAt.lists (e := fun _ => true) p1.isList p2.isList rfl (by omega) (fun j hj _ => absurd hj (Nat.not_lt_zero j)) X.prog X.w X.xe _ ⟨.bl false, H, I, rfl, q⟩
  | cons x0 xr =>
    refine SeqAt.RcNeAt.lists_lengths p1.isList p2.isList ?_ (by omega) X.prog X.w X.xe _ ⟨.bl true, H, I, rfl, q⟩
    cases r1
    rfl
end
/-! ### tables by whole numbers -/
structure ITab (K : PySem.W.Frag) (d : Addr) (kvs : List (Int × V)) (es : List DictEntry) (n : Nat) : Prop where
  at_ : K.lookup d = some ⟨.type "dict", none, .dict es.toArray n, #[]⟩
  low : (d == sysModules) = false
  len : es.length = kvs.length
  ent : ∀ q ∈ es.zip kvs, ∃ t, q.1.key = .int q.2.1 t ∧ q.1.hash = hashInt q.2.1 ∧ RelV q.2.2 q.1.val
theorem intTab_ok {K : PySem.W.Frag} {d : Addr} {kvs : List (Int × V)} (h : intTab K d kvs = true) : ∃ es n, ITab K d kvs es n := by
  unfold intTab at h
  cases q : K.lookup d with
  | none => rw [q] at h; cases h
  | some o =>
    obtain ⟨oc, od, dt, osl⟩ := o
    rw [q] at h
    cases oc with
    | type c =>
      cases od with
      | none =>
        cases dt with
        | dict es n =>
          have h1 : (decide (c = "dict") && (osl.isEmpty && (!(d == sysModules) && (decide (es.toList.length = kvs.length) && (es.toList.zip kvs).all fun q => (match q.1.key with
            | .int i _ => decide (i = q.2.1) && (decide (q.1.hash = hashInt i) && He.relB q.2.2 q.1.val)
            | _ => false))))) = true := h
          obtain ⟨e1, h3⟩ := He.ba h1
          obtain ⟨e2, h4⟩ := He.ba h3
          obtain ⟨e3, h5⟩ := He.ba h4
          obtain ⟨e4, h6⟩ := He.ba h5
          have e1 : c = "dict" := of_decide_eq_true e1
          have e2 : osl = #[] := Array.isEmpty_iff.mp e2
          have e3 : (d == sysModules) = false := by
            cases y : d == sysModules with
            | false => rfl
            | true => rw [y] at e3; cases e3
          subst e1 e2
          refine ⟨es.toList, n, by rw [q, Array.toArray_toList], e3, of_decide_eq_true e4, fun p hp => ?_⟩
          have h2 := List.all_eq_true.mp h6 p hp
          cases z : p.1.key with
          | int i t =>
            rw [z] at h2
            obtain ⟨f1, h7⟩ := He.ba h2
            obtain ⟨f2, h8⟩ := He.ba h7
            have f1 := of_decide_eq_true f1
            subst f1
            exact ⟨t, rfl, of_decide_eq_true f2, He.relB_ok h8⟩
          | _ => rw [z] at h2; cases h2
        | _ => cases h
      | some b => cases dt <;> cases h
    | _ => cases od <;> cases dt <;> cases h
/-- the entry of a key, in both -/
theorem itab_find : ∀ {es : List DictEntry} {kvs : List (Int × V)} {i : Int}, es.length = kvs.length → (∀ q ∈ es.zip kvs, ∃ t, q.1.key = .int q.2.1 t ∧ q.1.hash = hashInt q.2.1 ∧ RelV q.2.2 q.1.val) →
    (kvs.find? (fun q => q.1 == i) = none ∧ es.find? (fun e => Value.isInt i e.key) = none) ∨ ∃ q e, kvs.find? (fun q => q.1 == i) = some q ∧ es.find? (fun e => Value.isInt i e.key) = some e ∧ RelV q.2 e.val
  | [], [], _, _, _ => .inl ⟨rfl, rfl⟩
  | e :: es, q :: kvs, i, hl, h => by
    obtain ⟨t, h1, h2, h3⟩ := h (e, q) (List.mem_cons_self ..)
    have h1 : e.key = .int q.1 t := h1
    by_cases z : q.1 = i
    · refine .inr ⟨q, e, List.find?_cons_of_pos (by simpa using z), List.find?_cons_of_pos ?_, h3⟩
      rw [h1, z]
      exact beq_self_eq_true i
    · rw [List.find?_cons_of_neg (by simpa using z), List.find?_cons_of_neg (by
        rw [h1]
        intro y
        obtain ⟨t', y'⟩ := Value.isInt_shape y
        injection y' with y1 _
        exact z y1)]
      exact itab_find (Nat.succ.inj hl) fun q hq => h q (List.mem_cons_of_mem _ hq)
theorem ITab.map {P : Program} {w : World} {K : PySem.W.Frag} {d : Addr} {kvs : List (Int × V)} {es : List DictEntry} {n : Nat} {h : Heap} (T : ITab K d kvs es n) (X : K.In h) : h.MapOf (intKind P w) d (fun k => (es.find? fun e => Value.isInt k e.key).map (·.val)) :=
  ⟨_, es.toArray, n, X _ _ T.at_, ⟨rfl, rfl, rfl⟩, rfl, fun e he => by
    have he : e ∈ es := by simpa using he
    obtain ⟨j, hj, ej⟩ := List.mem_iff_getElem.mp he
    have hk : j < kvs.length := by rw [← T.len]; exact hj
    obtain ⟨t, e1, e2, _⟩ := T.ent (e, kvs[j]) (by
      refine List.mem_iff_getElem.mpr ⟨j, by rw [List.length_zip]; omega, ?_⟩
      rw [List.getElem_zip, ej])
    refine ⟨kvs[j].1, ?_, e2⟩
    have e1 : e.key = .int kvs[j].1 t := e1
    rw [e1]
    exact beq_self_eq_true _, fun k => by
    unfold findBy
    rw [List.find?_toArray] <;> rfl⟩
def rInI (K : PySem.W.Frag) : R2 := fun x y H Q => ∃ d kvs i, x = .int i ∧ y = .ref d ∧ intTab K d kvs = true ∧ Q (.bl (kvs.any fun q => q.1 == i)) H
def rIxI (K : PySem.W.Frag) : R2 := fun x y H Q => ∃ d kvs i q, x = .ref d ∧ y = .int i ∧ intTab K d kvs = true ∧ kvs.find? (fun q => q.1 == i) = some q ∧ Q q.2 H
section
variable {X : Cx}
theorem op_inI : OpR X (compareOp .In) (rInI X.K) := by
  intro pins s σ H x y v u Q I rx ry h
  obtain ⟨d, kvs, i, rfl, rfl, hT, q⟩ := h
  obtain ⟨t, rfl⟩ := rx
  cases ry
  obtain ⟨es, n, T⟩ := intTab_ok hT
  refine wpAny_in_of (knd := intKind X.prog X.w) (k := i) (beq_self_eq_true i) T.low (T.map I.kIn) ?_
  refine ⟨.bl (kvs.any fun q => q.1 == i), H, I.tok _, ?_, q⟩
  have e : ((es.find? fun e => Value.isInt i e.key).map (·.val)).isSome = kvs.any fun q => q.1 == i := by
    rcases itab_find (i := i) T.len T.ent with ⟨h1, h2⟩ | ⟨q, e, h1, h2, _⟩
    · rw [h2]
      exact (List.any_eq_false.mpr fun x hx => List.find?_eq_none.mp h1 x hx).symm
    · rw [h2]
      exact (List.any_eq_true.mpr ⟨q, List.mem_of_find?_eq_some h1, List.find?_some (p := fun q : Int × V => q.1 == i) h1⟩).symm
  rw [e] <;> rfl
theorem ix_int : IxR X (rIxI X.K) := by
  intro value slice pins s σ H x y v u Q I rx ry h hs
  obtain ⟨d, kvs, i, q0, rfl, rfl, hT, hf, q⟩ := h
  cases rx
  obtain ⟨t, rfl⟩ := ry
  obtain ⟨es, n, T⟩ := intTab_ok hT
  have hm := T.map (P := X.prog) (w := X.w) I.kIn
  rcases itab_find (i := i) T.len T.ent with ⟨h1, h2⟩ | ⟨q1, e, h1, h2, r⟩
  · rw [h1] at hf; cases hf
  · rw [h1] at hf
    cases hf
    exact tail_any hm.typeIs slot_dict_getitem.lookup (wpAny_getItem_of (knd := intKind X.prog X.w) (k := i) (beq_self_eq_true i) hm (by rw [h2]; rfl) ⟨q0.2, H, I.tok _, r, q⟩) hs
end
/-! ### the keys of a written table -/
structure KKeys (K : PySem.W.Frag) (d : Addr) (ks : List Str) (es : Array DictEntry) (n : Nat) : Prop where
  at_ : K.lookup d = some ⟨.type "dict", none, .dict es n, #[]⟩
  low : (d == sysModules) = false
  len : es.size = ks.length
  key : ∀ (i : Nat) k, ks[i]? = some k → ∃ en t, es[i]? = some en ∧ en.key = .str k t
theorem kkeys_of {K : PySem.W.Frag} {P : Params} {a : Addr} {ks : List Str} (h : He.dicW K a = some (He.keysIn P ks)) : ∃ es n, KKeys K a ks es n := by
  unfold He.dicW at h
  cases q : K.lookup a with
  | none => rw [q] at h; cases h
  | some o =>
    obtain ⟨oc, od, dt, osl⟩ := o
    rw [q] at h
    cases oc with
    | type c =>
      cases od with
      | none =>
        cases dt with
        | dict es n =>
          have h1 : (match decide (c = "dict") && (osl.isEmpty && !(a == sysModules)) with
            | true => some (es.toList.map He.keyOf)
            | false => none) = some (He.keysIn P ks) := h
          cases z : decide (c = "dict") && (osl.isEmpty && !(a == sysModules)) with
          | false => rw [z] at h1; cases h1
          | true =>
            rw [z] at h1
            obtain ⟨z1, z2⟩ := He.ba z
            obtain ⟨z3, z4⟩ := He.ba z2
            have e1 : c = "dict" := of_decide_eq_true z1
            have e2 : osl = #[] := Array.isEmpty_iff.mp z3
            have e3 : (a == sysModules) = false := by
              cases y : a == sysModules with
              | false => rfl
              | true => rw [y] at z4; cases z4
            subst e1 e2
            have h2 : es.toList.map He.keyOf = He.keysIn P ks := Option.some.inj h1
            have hl : es.toList.length = ks.length := by
              have := congrArg List.length h2
              unfold He.keysIn at this
              rw [List.length_map, List.length_map] at this
              exact this
            refine ⟨es, n, q, e3, by rw [← hl]; exact Array.length_toList.symm, fun i k hk => ?_⟩
            have e4 : (es.toList.map He.keyOf)[i]? = (He.keysIn P ks)[i]? := by rw [h2]
            unfold He.keysIn at e4
            rw [List.getElem?_map, List.getElem?_map, hk] at e4
            cases y : es.toList[i]? with
            | none => rw [y] at e4; cases e4
            | some en =>
              rw [y] at e4
              have e5 : He.keyOf en = some (k, PyData.keyHash P k) := Option.some.inj e4
              unfold He.keyOf at e5
              split at e5
              · rename_i x t q2
                obtain ⟨e6, _⟩ := Prod.mk.inj (Option.some.inj e5)
                exact ⟨en, t, by rw [← Array.getElem?_toList]; exact y, by rw [q2, e6]⟩
              · cases e5
        | _ => cases h
      | some b => cases dt <;> cases h
    | _ => cases od <;> cases dt <;> cases h
def Ikd (ks : List Str) : It := ⟨fun i _ => i < ks.length, fun i H x H' => H' = H ∧ ∃ k, ks[i]? = some k ∧ x = .str k, fun i _ => ks.length ≤ i⟩
theorem turn_kd {P : Program} {w : World} {K : PySem.W.Frag} {tg : Expr} {d : Addr} {ks : List Str} {es : Array DictEntry} {n : Nat} (it : Addr) (D : KKeys K d ks es n) : Turn P w K tg (Ikd ks) [it] it (fun i h => h.IsKeyIter it d i es.size n) where
  mem := by simp
  obj := fun i h st b hb => by
    have e : b = it := by simpa using hb
    subst e
    obtain ⟨oi, e, c, dd⟩ := st
    exact ⟨oi, e, fun v z => by rw [dd] at z; cases z⟩
  keep := fun i h h' st k => st.at fun oi e => k it (by simp) oi e
  item := by
    intro X hP hw hK hc i pins s σ H E I hf st hi
    subst hP hw hK
    obtain ⟨f0, f1, f2, f3, f4, f5⟩ := hf it (by simp)
    obtain ⟨k, hk⟩ : ∃ p, ks[i]? = some p := ⟨ks[i], List.getElem?_eq_getElem hi⟩
    obtain ⟨en, t, hen, hkey⟩ := D.key i k hk
    refine next_key_item st (I.kIn _ _ D.at_) rfl rfl hen fun h' st' sb => ?_
    have I1 : Inv X pins σ H { s with heap := h' } := I.turned (t' := s.toks) (fun b ob hb e => (sb.2 b hb).trans e) f0 f1 f3 f4 f5
    obtain ⟨oi, e, c, dd⟩ := id st'
    exact ⟨en.key, rfl, go_of (s := { s with heap := h' }) e c dd (by decide) ⟨.str k, H, I1, by rw [hkey]; exact ⟨t, rfl⟩, ⟨rfl, k, hk, rfl⟩, st', fun b hb => (hf b hb).1⟩⟩
  done := by
    intro X hP hw hK hc i pins s σ H E I hf st hi
    subst hP hw hK
    obtain ⟨f0, f1, f2, f3, f4, f5⟩ := hf it (by simp)
    exact next_key_end (I.ok.hd hc) st (I.kIn _ _ D.at_) rfl rfl (by rw [D.len]; exact hi) fun h' hk => ⟨rfl, I.turned (t' := s.toks) (fun b ob hb e => hk b ob hb e) f0 f1 f3 f4 f5⟩
  self := fun A i s Q E st h => wpAny_pyIter_keyiter st h
def iKd (K : PySem.W.Frag) (td : TE) : TI := fun σ H R => td σ H fun x H1 => ∃ d ks es n, x = .ref d ∧ KKeys K d ks es n ∧ R (Ikd ks) H1
theorem pi_kdict {X : Cx} {tg e : Expr} {td : TE} (he : PE X e td) : PI X tg e (iKd X.K td) := by
  refine ⟨fun pins s σ H R I h => ?_⟩
  refine thn (he.run pins s σ H _ I h) fun u s1 ⟨x, H1, I1, rx, d, ks, es, n, ex, D, q⟩ => ?_
  subst ex
  obtain rfl : u = Value.ref d := rx
  exact iter_keys D.low (I1.kIn _ _ D.at_) ⟨rfl, rfl, rfl⟩ rfl (pi_one (tk := s1.toks) I1 _ (turn_kd _ D) ⟨_, Heap.get?_push_size _ rfl, rfl, rfl⟩ q)
theorem walk_kd {ks : List Str} : Walk (Ikd ks) ks.length (fun _ => True) (fun i H x H' => H' = H ∧ ∃ k, ks[i]? = some k ∧ x = .str k) :=
  ⟨fun _ _ hi _ => hi, fun _ _ => Nat.le_refl _, fun _ _ _ _ _ _ y => y⟩
/-! ### zip of a list and a tuple -/
def Izt (K : PySem.W.Frag) (a b : Addr) (xs ys : List V) : It :=
  ⟨fun i H => SqL K H a xs ∧ SqT K H b ys ∧ i < xs.length ∧ i < ys.length,
    fun i H v H' => ∃ T x y, v = .ref T ∧ H T = none ∧ H' = upd H T (.tup [x, y]) ∧ xs[i]? = some x ∧ ys[i]? = some y,
    fun i H => SqL K H a xs ∧ SqT K H b ys ∧ i ≤ xs.length ∧ i ≤ ys.length ∧ (xs.length = i ∨ ys.length = i)⟩
theorem zsep {z TI TO i1 i2 a b : Addr} (D : ZipApart z TI TO i1 i2 a b) : ZipSep2 z TI TO i1 i2 [i1, a] [i2, b] where
  TIz := D.TIz
  TOz := D.TOz
  TITO := D.TITO
  TIi1 := D.TIi1
  mem1 := by simp
  zf1 := by simp; exact ⟨D.i1z.symm, D.l1z.symm⟩
  Tf1 := by simp; exact ⟨D.TOi1, D.l1TO.symm⟩
  TIi2 := D.TIi2
  mem2 := by simp
  zf2 := by simp; exact ⟨D.i2z.symm, D.l2z.symm⟩
  Tf2 := by simp; exact ⟨D.TOi2, D.l2TO.symm⟩
  sep1_2 := by simp; exact ⟨D.i12, D.l2i1.symm⟩
  sep2_1 := by simp; exact ⟨D.i12.symm, D.l1i2.symm⟩
theorem turn_zt {P : Program} {w : World} {K : PySem.W.Frag} {elts : List Expr} {kk : Nat} {tpos : Pos} {a b z TI TO i1 i2 : Addr} {xs ys : List V} (D : ZipApart z TI TO i1 i2 a b) :
    Turn P w K (.Tuple elts kk tpos) (Izt K a b xs ys) [z, TI, TO, i1, i2] z (fun i h => IsZip h z TI TO .none ∧ IsPair h TI (.ref i1) (.ref i2) ∧ (∃ x y, IsPair h TO x y) ∧ h.IsListIter i1 a i ∧ h.IsTupleIter i2 b i) where
  mem := by simp
  obj := fun i h st c hc => by
    obtain ⟨hz, hTI, ⟨x, y, hTO⟩, ⟨o1, e1, _, d1⟩, ⟨o2, e2, _, d2⟩⟩ := st
    have e' : c = z ∨ c = TI ∨ c = TO ∨ c = i1 ∨ c = i2 := by simpa using hc
    rcases e' with q | q | q | q | q
    · rw [q]; exact ⟨_, hz, fun v q => nomatch q⟩
    · rw [q]; exact ⟨_, hTI, fun v q => nomatch q⟩
    · rw [q]; exact ⟨_, hTO, fun v q => nomatch q⟩
    · rw [q]; exact ⟨o1, e1, fun v q => by rw [d1] at q; cases q⟩
    · rw [q]; exact ⟨o2, e2, fun v q => by rw [d2] at q; cases q⟩
  keep := fun i h h' st k => by
    obtain ⟨hz, hTI, ⟨x, y, hTO⟩, h1, h2⟩ := st
    exact ⟨k z (by simp) _ hz, k TI (by simp) _ hTI, ⟨x, y, k TO (by simp) _ hTO⟩, h1.at fun o q => k i1 (by simp) o q, h2.at fun o q => k i2 (by simp) o q⟩
  item := by
    intro X hP hw hK hc i pins s σ H E I hf st hg
    subst hP hw hK
    obtain ⟨hz, hTI, ⟨x0, y0, hTO⟩, h1, h2⟩ := st
    obtain ⟨hqx, hqy, lx, ly⟩ := hg
    obtain ⟨its, rv, p, _⟩ := I.list hqx
    obtain ⟨its2, rv2, p2, _⟩ := I.tuple hqy
    obtain ⟨u, hu, ru⟩ := rv.get (List.getElem?_eq_getElem lx)
    obtain ⟨u2, hu2, ru2⟩ := rv2.get (List.getElem?_eq_getElem ly)
    have hzl : z < s.heap.objs.size := Heap.lt_size hz
    have n1 : i < its.toArray.size := by simpa using (List.getElem?_eq_some_iff.mp hu).1
    have n2 : i < its2.toArray.size := by simpa using (List.getElem?_eq_some_iff.mp hu2).1
    refine wpAny_pyNext_zipD2_item (zsep D) (Draws.list (A := X.A.in1) (show X.A.in1.handled = none from I.ok.hd hc) i1 a D.l1i1 its.toArray) (Draws.tuple (A := X.A.in1) (show X.A.in1.handled = none from I.ok.hd hc) i2 b D.l2i2 its2.toArray) hz hTI hTO ⟨h1, p.isList⟩ ⟨h2, p2⟩ n1 n2 fun x1 x2 h' tk hx1 hx2 z' TO' st1' st2' hT hsz hk => ?_
    obtain rfl : x1 = u := by
      have hx1 : its.toArray[i]? = some x1 := hx1
      rw [List.getElem?_toArray, hu] at hx1
      exact (Option.some.inj hx1).symm
    obtain rfl : x2 = u2 := by
      have hx2 : its2.toArray[i]? = some x2 := hx2
      rw [List.getElem?_toArray, hu2] at hx2
      exact (Option.some.inj hx2).symm
    refine ⟨_, rfl, wpAny_letOwnedTupleGo_zip (s := { s with heap := h', toks := tk }) z' fun h'' z'' sb => ?_⟩
    have hT2 : h''.get? s.heap.objs.size = some { cls := .type "tuple", data := .seq #[x1, x2] } := (sb.2 _ (Nat.ne_of_gt hzl)).trans hT
    have new : ObjOk X.prog X.w (upd H s.heap.objs.size (.tup [xs[i], ys[i]])) h'' s.heap.objs.size (.tup [xs[i], ys[i]]) :=
      ⟨by show 2 ≤ sizeLine; decide, [x1, x2], .cons ru (.cons ru2 .nil), ⟨_, hT2, rfl, _, rfl⟩⟩
    have I1 : Inv X pins σ (upd H s.heap.objs.size (.tup [xs[i], ys[i]])) { s with heap := h'', toks := tk } :=
      I.turnedNew (t' := tk) (ch := [z, TI, TO, i1, i2]) (fun c o hb q => (sb.2 c (fun q' => hb (by simp [q']))).trans (hk c o (fun q' => hb (by simp [q'])) (fun q' => hb (by simp [q'])) (fun q' => hb (by simp [q'])) (fun q' => hb (by simp [q'])) q)) hf (Nat.le_refl _) new
    refine ⟨.ref s.heap.objs.size, _, I1, rfl, ⟨_, xs[i], ys[i], rfl, I.hok.fresh (Nat.le_refl _), rfl, List.getElem?_eq_getElem lx, List.getElem?_eq_getElem ly⟩, ⟨z'', ?_, ⟨x1, x2, ?_⟩, ?_, ?_⟩, fun c hcm => ?_⟩
    · exact (sb.2 _ D.TIz).trans (hk _ _ D.TIz D.TITO D.TIi1 D.TIi2 hTI)
    · exact (sb.2 _ D.TOz).trans TO'
    · exact st1'.1.at fun o q => (sb.2 _ D.i1z).trans q
    · exact st2'.1.at fun o q => (sb.2 _ D.i2z).trans q
    · have hlt : c < s.heap.objs.size := by
        have e' : c = z ∨ c = TI ∨ c = TO ∨ c = i1 ∨ c = i2 := by simpa using hcm
        rcases e' with q | q | q | q | q
        · rw [q]; exact hzl
        · rw [q]; exact Heap.lt_size hTI
        · rw [q]; exact Heap.lt_size hTO
        · rw [q]; obtain ⟨_, e1, _⟩ := h1; exact Heap.lt_size e1
        · rw [q]; obtain ⟨_, e2, _⟩ := h2; exact Heap.lt_size e2
      rw [upd_ne (Nat.ne_of_lt hlt)]
      exact (hf c hcm).1
  done := by
    intro X hP hw hK hc i pins s σ H E I hf st hg
    subst hP hw hK
    obtain ⟨hz, hTI, ⟨x0, y0, hTO⟩, h1, h2⟩ := st
    obtain ⟨hqx, hqy, lx, ly, hend⟩ := hg
    obtain ⟨its, rv, p, _⟩ := I.list hqx
    obtain ⟨its2, rv2, p2, _⟩ := I.tuple hqy
    have l1 := rv.length
    have l2 := rv2.length
    exact wpAny_pyNext_zipD2_end (zsep D) (Draws.list (A := X.A.in1) (show X.A.in1.handled = none from I.ok.hd hc) i1 a D.l1i1 its.toArray) (Draws.tuple (A := X.A.in1) (show X.A.in1.handled = none from I.ok.hd hc) i2 b D.l2i2 its2.toArray) hz hTI hTO ⟨h1, p.isList⟩ ⟨h2, p2⟩ (by rw [List.size_toArray]; omega) (by rw [List.size_toArray]; omega) (by rw [List.size_toArray, List.size_toArray]; omega) fun h' tk hk => ⟨rfl, I.turnedL (t' := tk) (ch := [z, TI, TO, i1, i2]) (fun c o hb q =>
      hk c o (fun q' => hb (by simp [q'])) (fun q' => hb (by simp [q'])) (fun q' => hb (by simp [q'])) (fun q' => hb (by simp [q'])) q) hf⟩
  self := fun A i s Q E st h => wpAny_pyIter_zip st.1 h
def iZipLT (K : PySem.W.Frag) (ta : TA) : TI := fun σ H R => ta σ H fun vs H1 => ∃ a b xs ys, vs = [.ref a, .ref b] ∧ SqL K H1 a xs ∧ SqT K H1 b ys ∧ R (Izt K a b xs ys) H1
theorem pi_zipLT {X : Cx} {e e2 : Expr} {ta : TA} {p pos tpos : Pos} {elts : List Expr} {kk : Nat} (hg : Gl X "zip") (hm : X.mg "zip" = none) (ha : PA X [e, e2] ta)
    (hs : starEach [e, e2] X.env = (false, eval e X.env) :: starEach [e2] X.env := by rfl) (hpl : (backTo pos (starEach [e2] X.env)).any (·.1) = false := by rfl) :
    PI X (.Tuple elts kk tpos) (.Call (.Name "zip" p) [e, e2] [] pos) (iZipLT X.K ta) := by
  refine ⟨fun pins s σ H R I h => ?_⟩
  refine Call_ (ld_blt I hg hm PyProof.Rows.boot_zip (PyProof.Rows.callWith_type1 (thn (ha.run pos pins s σ H _ I h) fun us s1 ⟨vs, H1, I1, r1, q1⟩ => ?_) hs hpl))
  obtain ⟨a, b, xs, ys, ex, hqx, hqy, q⟩ := q1
  subst ex
  cases r1 with
  | cons r rr =>
    cases rr with
    | cons r' rr =>
      cases rr
      cases r
      cases r'
      obtain ⟨its, rv, p1, _⟩ := I1.list hqx
      obtain ⟨its2, rv2, p2, _⟩ := I1.tuple hqy
      have la : a < s1.heap.objs.size := p1.lt
      have lb : b < s1.heap.objs.size := by
        obtain ⟨o, e, _⟩ := p2
        exact Heap.lt_size e
      refine zip_begins2 (begins_list a its.toArray) (begins_tuple b its2.toArray) p1.isList p2 fun h' hz hTI hTO g1 g2 hsz hk => wpAny_pyIter_zip hz ?_
      have I2 : Inv X pins σ H1 { s1 with heap := h' } := I1.kept (t' := s1.toks) hk
      refine ⟨s1.heap.objs.size + 4, [s1.heap.objs.size + 4, s1.heap.objs.size + 2, s1.heap.objs.size + 3, s1.heap.objs.size, s1.heap.objs.size + 1], _, _, H1, rfl, I2, turn_zt (PySem.W.ktu_apart s1.heap.objs.size a b la lb), ⟨hz, hTI, ⟨_, _, hTO⟩, ⟨_, g1, rfl, rfl⟩, ⟨_, g2, rfl, rfl⟩⟩, fun c hcm => ?_, q⟩
      have e' : c = s1.heap.objs.size + 4 ∨ c = s1.heap.objs.size + 2 ∨ c = s1.heap.objs.size + 3 ∨ c = s1.heap.objs.size ∨ c = s1.heap.objs.size + 1 := by simpa using hcm
      have hle : s1.heap.objs.size ≤ c := by
        rcases e' with z | z | z | z | z
        · rw [z]; exact Nat.le_add_right _ _
        · rw [z]; exact Nat.le_add_right _ _
        · rw [z]; exact Nat.le_add_right _ _
        · rw [z]; exact Nat.le_refl _
        · rw [z]; exact Nat.le_add_right _ _
      exact I1.fpOk hle (I1.hok.fresh hle)
theorem walk_zt {K : PySem.W.Frag} {a b : Addr} {xs ys : List V} {n : Nat} (hx : xs.length = n) (hy : ys.length = n) : Walk (Izt K a b xs ys) n (fun H => SqL K H a xs ∧ SqT K H b ys) (YPair (fun i => xs[i]?) (fun i => ys[i]?)) :=
  ⟨fun i _ hi q => ⟨q.1, q.2, by omega, by omega⟩, fun _ q => ⟨q.1, q.2, by omega, by omega, .inl hx⟩, fun _ _ _ _ _ _ y => y⟩
end Cc
end

/-! ## CcRule2 -/
section
set_option maxRecDepth 100000
set_option maxHeartbeats 4000000
/-! list(zip(a list, a tuple)): the pairs, each a new tuple (after the kit's list of a dict's items and its zip whose tuple is still out). -/
namespace Cc
open PySem PySem.Spec PySem.W PySem.Calls PyProof.Rows L2
section
variable {prog : Program} {w : World} {A : Around} {E : Value → Shared → Prop} {s : Shared}
theorem zl_next_item {z TI TO T i1 i2 l1 l2 : Addr} {f : Bool} {oT : Obj} {k1 k2 : Nat} {xs ys : Array Value} {x y : Value} {Q : Value → Shared → Prop} (D : ZipApart z TI TO i1 i2 l1 l2)
    (hz : IsZipHeld s.heap z TI TO T f) (hT : s.heap.get? T = some oT) (hTI : IsPair s.heap TI (.ref i1) (.ref i2))
    (h1 : s.heap.IsListIter i1 l1 k1) (h2 : s.heap.IsTupleIter i2 l2 k2) (hl1 : s.heap.IsList l1 xs) (hl2 : s.heap.IsTuple l2 ys) (hx : xs[k1]? = some x) (hy : ys[k2]? = some y)
    (hQ : ∀ h', IsZipHeld h' z TI TO T true → h'.IsListIter i1 l1 (k1 + 1) → h'.IsTupleIter i2 l2 (k2 + 1) → IsPair h' s.heap.objs.size x y → h'.objs.size = s.heap.objs.size + 1 →
      (∀ c o, c ≠ z → c ≠ i1 → c ≠ i2 → s.heap.get? c = some o → h'.get? c = some o) → Q (.ref s.heap.objs.size) { s with heap := h' }) :
    wpAny (model prog w) A (Builtin.«zip.__next__» ⟨[.ref z], []⟩) (fun fin s' => ∃ v, fin = .done (.ret v) ∧ Q v s') E s := by
  show wpAny _ _ (field (.ref z) 2 >>= _) _ _ _
  refine wpAny_bind (wpAny_field hz rfl (x := .bool false) rfl ?_)
  show wpAny _ _ (field (.ref z) 3 >>= _) _ _ _
  refine wpAny_bind (wpAny_field hz rfl (x := .ref TI) rfl ?_)
  refine wpAny_bind (wpAny_seqItems hTI rfl ?_)
  show wpAny _ _ (Builtin.SmallTypes.ownedTupleIsFree (.ref z) >>= _) _ _ _
  refine wpAny_bind (wpAny_tupleHeld_zip hz hT fun h₁ hz₁ hs₁ => ?_)
  simp only [Bool.false_eq_true, if_false]
  refine wpAny_bind ?_
  rw [← Array.forIn_toList]
  simp only [List.forIn_cons, List.forIn_nil]
  refine wpAny_bind (wpAny_bind (wpAny_holding ?_))
  show wpAny _ _ (Builtin.SmallTypes.nextOf (.ref i1) >>= _) _ _ _
  refine wpAny_bind (wpAny_nextOf_list_item (s := { s with heap := h₁ }) (h1.extBut hs₁.extBut D.i1z) (hl1.extBut hs₁.extBut D.l1z) hx fun h₂ h1₂ hs₂ => wpAny_pure ?_)
  refine wpAny_pure ?_
  refine wpAny_bind (wpAny_bind (wpAny_holding ?_))
  show wpAny _ _ (Builtin.SmallTypes.nextOf (.ref i2) >>= _) _ _ _
  refine wpAny_bind (wpAny_nextOf_tuple_item (s := { s with heap := h₂ }) ((h2.extBut hs₁.extBut D.i2z).extBut hs₂.extBut D.i12.symm) ((hl2.extBut hs₁.extBut D.l2z).extBut hs₂.extBut D.l2i1) hy fun h₃ h2₃ hs₃ => wpAny_pure ?_)
  refine wpAny_pure (wpAny_pure ?_)
  show wpAny _ _ (newTuple [x, y] >>= _) _ _ _
  refine wpAny_bind (wpAny_newTuple ?_)
  have hsz : h₃.objs.size = s.heap.objs.size := by rw [hs₃.1, hs₂.1, hs₁.1]
  have hz₃ : IsZipHeld h₃ z TI TO T true := hs₃.extBut _ _ D.i2z.symm (hs₂.extBut _ _ D.i1z.symm hz₁)
  have hk : ∀ c o, c ≠ z → c ≠ i1 → c ≠ i2 → s.heap.get? c = some o → h₃.get? c = some o := fun c o c1 c2 c3 e => hs₃.extBut _ _ c3 (hs₂.extBut _ _ c2 (hs₁.extBut _ _ c1 e))
  have h1₃ : h₃.IsListIter i1 l1 (k1 + 1) := h1₂.extBut hs₃.extBut D.i12
  refine wpAny_pure ⟨_, rfl, ?_⟩
  show Q (.ref h₃.objs.size) _
  have hp : IsPair (h₃.push { cls := .type "tuple", data := .seq #[x, y] }) h₃.objs.size x y := Heap.get?_push_size _ rfl
  have hz4 : (h₃.push { cls := .type "tuple", data := .seq #[x, y] }).objs.size = h₃.objs.size + 1 := Heap.size_push ..
  rw [hsz] at hp hz4 ⊢
  exact hQ _ (Heap.get?_push_of_some _ hz₃) (h1₃.at fun o e => Heap.get?_push_of_some _ e) (h2₃.at fun o e => Heap.get?_push_of_some _ e) hp hz4 fun c o c1 c2 c3 e => Heap.get?_push_of_some _ (hk c o c1 c2 c3 e)
theorem zl_next_end {z TI TO T i1 i2 l1 l2 : Addr} {f : Bool} {oT : Obj} {k1 : Nat} {xs : Array Value} {Q : Fin → Shared → Prop} (hh : A.handled = none) (D : ZipApart z TI TO i1 i2 l1 l2)
    (hz : IsZipHeld s.heap z TI TO T f) (hT : s.heap.get? T = some oT) (hTI : IsPair s.heap TI (.ref i1) (.ref i2))
    (h1 : s.heap.IsListIter i1 l1 k1) (hl1 : s.heap.IsList l1 xs) (hend : xs[k1]? = none)
    (hE : ∀ h' e, (∀ c o, c ≠ z → c ≠ i1 → c ≠ i2 → s.heap.get? c = some o → h'.get? c = some o) → (∃ o, h'.get? e = some o ∧ o.cls = .type "StopIteration") → E (.ref e) { s with heap := h' }) :
    wpAny (model prog w) A (Builtin.«zip.__next__» ⟨[.ref z], []⟩) Q E s := by
  show wpAny _ _ (field (.ref z) 2 >>= _) _ _ _
  refine wpAny_bind (wpAny_field hz rfl (x := .bool false) rfl ?_)
  show wpAny _ _ (field (.ref z) 3 >>= _) _ _ _
  refine wpAny_bind (wpAny_field hz rfl (x := .ref TI) rfl ?_)
  refine wpAny_bind (wpAny_seqItems hTI rfl ?_)
  show wpAny _ _ (Builtin.SmallTypes.ownedTupleIsFree (.ref z) >>= _) _ _ _
  refine wpAny_bind (wpAny_tupleHeld_zip hz hT fun h₁ hz₁ hs₁ => ?_)
  simp only [Bool.false_eq_true, if_false]
  refine wpAny_bind ?_
  rw [← Array.forIn_toList]
  simp only [List.forIn_cons, List.forIn_nil]
  refine wpAny_bind (wpAny_bind (wpAny_holding ?_))
  show wpAny _ _ (Builtin.SmallTypes.nextOf (.ref i1) >>= _) _ _ _
  refine wpAny_bind (wpAny_nextOf_list_end (s := { s with heap := h₁ }) hh (h1.extBut hs₁.extBut D.i1z) (hl1.extBut hs₁.extBut D.l1z) hend fun h₂ e hs₂ he => ?_)
  exact hE h₂ e (fun c o c1 c2 _ x => hs₂ _ _ c2 (hs₁.extBut _ _ c1 x)) he
/-- the zip's own objects at turn i -/
structure ZS (h : Heap) (z TI TO i1 i2 l1 l2 S : Addr) (i : Nat) : Prop where
  zs : IsZip h z TI TO .none ∨ ∃ T f oT, IsZipHeld h z TI TO T f ∧ h.get? T = some oT ∧ T ≠ z ∧ T ≠ TO ∧ T ≠ i1 ∧ T ≠ i2 ∧ T ≠ S
  ti : IsPair h TI (.ref i1) (.ref i2)
  to : ∃ a b, IsPair h TO a b
  it1 : h.IsListIter i1 l1 i
  it2 : h.IsTupleIter i2 l2 i
  ne : S ≠ z ∧ S ≠ TI ∧ S ≠ TO ∧ S ≠ i1 ∧ S ≠ i2
theorem ZS.keep {h h' : Heap} {z TI TO i1 i2 l1 l2 S : Addr} {i : Nat} (x : ZS h z TI TO i1 i2 l1 l2 S i) (k : ∀ b o, b ≠ S → h.get? b = some o → h'.get? b = some o) : ZS h' z TI TO i1 i2 l1 l2 S i := by
  obtain ⟨n1, n2, n3, n4, n5⟩ := x.ne
  obtain ⟨a, b, e⟩ := x.to
  refine ⟨?_, k _ _ n2.symm x.ti, ⟨a, b, k _ _ n3.symm e⟩, x.it1.at fun o e => k _ _ n4.symm e, x.it2.at fun o e => k _ _ n5.symm e, x.ne⟩
  rcases x.zs with y | ⟨T, f, oT, y1, y2, y3, y4, y5, y6, y7⟩
  · exact .inl (k _ _ n1.symm y)
  · exact .inr ⟨T, f, oT, k _ _ n1.symm y1, k _ _ y7 y2, y3, y4, y5, y6, y7⟩
theorem zs_item {z TI TO i1 i2 l1 l2 S : Addr} {i : Nat} {its its2 : Array Value} {x y : Value} {Q : Option Value → Shared → Prop} (hh : A.handled = none) (D : ZipApart z TI TO i1 i2 l1 l2) (st : ZS s.heap z TI TO i1 i2 l1 l2 S i) (hS : S < s.heap.objs.size)
    (hl1 : s.heap.IsList l1 its) (hl2 : s.heap.IsTuple l2 its2) (hx : its[i]? = some x) (hy : its2[i]? = some y)
    (hQ : ∀ h' tk, ZS h' z TI TO i1 i2 l1 l2 S (i + 1) → IsPair h' s.heap.objs.size x y → (∀ c o, c ≠ z → c ≠ TO → c ≠ i1 → c ≠ i2 → s.heap.get? c = some o → h'.get? c = some o) → Q (some (.ref s.heap.objs.size)) { s with heap := h', toks := tk }) :
    wpAny (model prog w) A (pyNext (.ref z)) Q E s := by
  obtain ⟨a, b, hTO⟩ := st.to
  have lt : ∀ {c o}, s.heap.get? c = some o → s.heap.objs.size ≠ c := fun e => Nat.ne_of_gt (Heap.lt_size e)
  have m1 : s.heap.objs.size ≠ i1 := by obtain ⟨_, e, _⟩ := st.it1; exact lt e
  have m2 : s.heap.objs.size ≠ i2 := by obtain ⟨_, e, _⟩ := st.it2; exact lt e
  have n1 : i < its.size := (Array.getElem?_eq_some_iff.mp hx).1
  have n2 : i < its2.size := (Array.getElem?_eq_some_iff.mp hy).1
  rcases st.zs with hz | ⟨T, f, oT, hz, hT, t1, t2, t3, t4, t5⟩
  · refine wpAny_pyNext_zipD2_item (zsep D) (Draws.list (A := A.in1) (show A.in1.handled = none from hh) i1 l1 D.l1i1 its) (Draws.tuple (A := A.in1) (show A.in1.handled = none from hh) i2 l2 D.l2i2 its2) hz st.ti hTO ⟨st.it1, hl1⟩ ⟨st.it2, hl2⟩ n1 n2 fun x1 x2 h' tk hx1 hx2 z' TO' st1' st2' hT hsz hk => ?_
    obtain rfl : x1 = x := Option.some.inj (hx1.symm.trans hx)
    obtain rfl : x2 = y := Option.some.inj (hx2.symm.trans hy)
    exact hQ h' tk ⟨.inr ⟨s.heap.objs.size, false, _, z', hT, lt hz, lt hTO, m1, m2, Nat.ne_of_gt hS⟩, hk _ _ D.TIz D.TITO D.TIi1 D.TIi2 st.ti, ⟨_, _, TO'⟩, st1'.1, st2'.1, st.ne⟩ hT hk
  · have hTy : s.TypeIs (.ref z) "zip" := ⟨_, hz, rfl⟩
    unfold pyNext
    refine wpAny_bind (wpAny_attempt (wpAny_callSpecial?_slot (name := Str.ofString "__next__") hTy F.slot_zip_next
      (wpAny_call_entry F.slot_zip_next hTy F.entry_zip_next
        (zl_next_item D hz hT st.ti st.it1 st.it2 hl1 hl2 hx hy fun h' a1 a3 a4 a5 a6 a7 => wpAny_pure (hQ h' s.toks ⟨.inr ⟨T, true, oT, a1, a7 _ _ t1 t3 t4 hT, t1, t2, t3, t4, t5⟩, a7 _ _ D.TIz D.TIi1 D.TIi2 st.ti, ⟨a, b, a7 _ _ D.TOz D.TOi1 D.TOi2 hTO⟩, a3, a4, st.ne⟩ a5 fun c o c1 _ c3 c4 e => a7 c o c1 c3 c4 e)) (F.args_zip_next_1 _))))
theorem zs_done {z TI TO i1 i2 l1 l2 S : Addr} {i : Nat} {its its2 : Array Value} {Q : Option Value → Shared → Prop} (hh : A.handled = none) (D : ZipApart z TI TO i1 i2 l1 l2) (st : ZS s.heap z TI TO i1 i2 l1 l2 S i)
    (hl1 : s.heap.IsList l1 its) (hl2 : s.heap.IsTuple l2 its2) (hx : its.size = i) (hy : its2.size = i)
    (hQ : ∀ h' tk, (∀ c o, c ≠ z → c ≠ TO → c ≠ i1 → c ≠ i2 → s.heap.get? c = some o → h'.get? c = some o) → Q none { s with heap := h', toks := tk }) : wpAny (model prog w) A (pyNext (.ref z)) Q E s := by
  obtain ⟨a, b, hTO⟩ := st.to
  rcases st.zs with hz | ⟨T, f, oT, hz, hT, t1, t2, t3, t4, t5⟩
  · exact wpAny_pyNext_zipD2_end (zsep D) (Draws.list (A := A.in1) (show A.in1.handled = none from hh) i1 l1 D.l1i1 its) (Draws.tuple (A := A.in1) (show A.in1.handled = none from hh) i2 l2 D.l2i2 its2) hz st.ti hTO ⟨st.it1, hl1⟩ ⟨st.it2, hl2⟩ (by omega) (by omega) (by omega) hQ
  · have hTy : s.TypeIs (.ref z) "zip" := ⟨_, hz, rfl⟩
    unfold pyNext
    refine wpAny_bind (wpAny_attempt (wpAny_callSpecial?_slot (name := Str.ofString "__next__") hTy F.slot_zip_next
      (wpAny_call_entry F.slot_zip_next hTy F.entry_zip_next (zl_next_end (show A.in1.handled = none from hh) D hz hT st.ti st.it1 hl1 (Array.getElem?_eq_none (by omega)) fun h' e hk he => ?_) (F.args_zip_next_1 _))))
    obtain ⟨o, ho, hc⟩ := he
    refine wpAny_bind (wpAny_isInstance (T := "StopIteration") (b := true) ⟨o, ho, hc⟩ isSubtype_stop ?_)
    exact wpAny_pure (hQ _ s.toks fun c o c1 _ c3 c4 e => hk c o c1 c3 c4 e)
end
theorem zip_no_len : typeLookup (.type "zip") "__len__" = pure none := by rw [typeLookup_type, builtinLookup_eq_fast]; kernel_rfl
theorem zip_no_hint : typeLookup (.type "zip") "__length_hint__" = pure none := by rw [typeLookup_type, builtinLookup_eq_fast]; kernel_rfl
theorem sl_ne {K : PySem.W.Frag} {H H' : Hp} {a : Addr} {xs : List V} (h : SqL K H a xs) (e : ∀ o, H a = some o → H' a = some o) : SqL K H' a xs := by
  rcases h with (h | ⟨o, h⟩) | h
  · exact .inl (.inl (e _ h))
  · exact .inl (.inr ⟨o, e _ h⟩)
  · exact .inr h
theorem st_ne {K : PySem.W.Frag} {H H' : Hp} {a : Addr} {xs : List V} (h : SqT K H a xs) (e : ∀ o, H a = some o → H' a = some o) : SqT K H' a xs := by
  rcases h with (h | ⟨o, h⟩) | h
  · exact .inl (.inl (e _ h))
  · exact .inl (.inr ⟨o, e _ h⟩)
  · exact .inr h
/-- what list(zip(..)) has made -/
def PairsAt (H : Hp) (xs ys : List V) (ts : List Addr) : Prop := ∀ (j : Nat) t, ts[j]? = some t → ∃ x y, xs[j]? = some x ∧ ys[j]? = some y ∧ H t = some (.tup [x, y])
section
variable {X : Cx} {pins : List (Addr × Obj)} {σ : L2.St}
theorem zl_loop {z TI TO i1 i2 a b S : Addr} {xs ys : List V} (hc : X.calm = true) (D : ZipApart z TI TO i1 i2 a b) (hxy : xs.length = ys.length) (res : Value) {R : Result → Shared → Prop} {H0 : Hp}
    (hR : ∀ (s' : Shared) H' ts, Inv X pins σ H' s' → (∀ c o, H0 c = some o → c ≠ S → H' c = some o) → H' S = some (.lst (ts.map V.ref)) → ts.length = xs.length → PairsAt H' xs ys ts → R (.ok (.ret res)) s') :
    ∀ (k i : Nat) (s : Shared) (H : Hp) (ts : List Addr), xs.length - i = k → i ≤ xs.length → Inv X pins σ H s → (∀ c ∈ [z, TI, TO, i1, i2], FpOk X pins H c) → ZS s.heap z TI TO i1 i2 a b S i → SqL X.K H a xs → SqT X.K H b ys → a ≠ S → b ≠ S → (∀ c o, H0 c = some o → c ≠ S → H c = some o) →
      H S = some (.lst (ts.map V.ref)) → ts.length = i → PairsAt H xs ys ts → codeAny (model X.prog X.w) X.A.in1 (.builtin "list.extend.loop" ⟨[.ref S, .ref z, res], []⟩) R s := by
  intro k
  induction k with
  | zero =>
    intro i s H ts hk hi I hf st ha hb na nb keep hS hl hp
    have hin : i = xs.length := by omega
    obtain ⟨its, rv, p, _⟩ := I.list ha
    obtain ⟨its2, rv2, p2, _⟩ := I.tuple hb
    have l1 := rv.length
    have l2 := rv2.length
    refine codeAny_builtin PySem.F.entry_extend_loop ?_
    rw [Around.under_plainId PySem.F.plain_extend_loop _]
    show wpAny _ _ (pyNext (.ref z) >>= _) _ _ _
    refine wpAny_bind (zs_done (A := X.A.in1.in1) (show X.A.in1.in1.handled = none from I.ok.hd hc) D st p.isList p2 (by rw [List.size_toArray]; omega) (by rw [List.size_toArray]; omega) fun h' tk hk' => ?_)
    have I1 : Inv X pins σ H { s with heap := h', toks := tk } := I.turnedL (t' := tk) (ch := [z, TI, TO, i1, i2]) (fun c o hb q => hk' c o (fun q' => hb (by simp [q'])) (fun q' => hb (by simp [q'])) (fun q' => hb (by simp [q'])) (fun q' => hb (by simp [q'])) q) hf
    exact wpAny_pure (hR _ H ts I1 keep hS (by omega) hp)
  | succ k ih =>
    intro i s H ts hk hi I hf st ha hb na nb keep hS hl hp
    have hlt : i < xs.length := by omega
    have hlt2 : i < ys.length := by omega
    obtain ⟨its, rv, p, _⟩ := I.list ha
    obtain ⟨its2, rv2, p2, _⟩ := I.tuple hb
    obtain ⟨u, hu, ru⟩ := rv.get (List.getElem?_eq_getElem hlt)
    obtain ⟨u2, hu2, ru2⟩ := rv2.get (List.getElem?_eq_getElem hlt2)
    have hSlt : S < s.heap.objs.size := by
      obtain ⟨_, its, n, _, e⟩ := I.hok S _ hS
      exact Heap.lt_size e
    refine codeAny_builtin PySem.F.entry_extend_loop ?_
    rw [Around.under_plainId PySem.F.plain_extend_loop _]
    show wpAny _ _ (pyNext (.ref z) >>= _) _ _ _
    refine wpAny_bind (zs_item (A := X.A.in1.in1) (show X.A.in1.in1.handled = none from I.ok.hd hc) D st hSlt p.isList p2 (by rw [List.getElem?_toArray]; exact hu) (by rw [List.getElem?_toArray]; exact hu2) fun h' tk st' hT hk' => ?_)
    have hN : H s.heap.objs.size = none := I.hok.fresh (Nat.le_refl _)
    have new : ObjOk X.prog X.w (upd H s.heap.objs.size (.tup [xs[i], ys[i]])) h' s.heap.objs.size (.tup [xs[i], ys[i]]) :=
      ⟨by show 2 ≤ sizeLine; decide, [u, u2], .cons ru (.cons ru2 .nil), ⟨_, hT, rfl, _, rfl⟩⟩
    have I1 : Inv X pins σ (upd H s.heap.objs.size (.tup [xs[i], ys[i]])) { s with heap := h', toks := tk } :=
      I.turnedNew (t' := tk) (ch := [z, TI, TO, i1, i2]) (fun c o hb q => hk' c o (fun q' => hb (by simp [q'])) (fun q' => hb (by simp [q'])) (fun q' => hb (by simp [q'])) (fun q' => hb (by simp [q'])) q) hf (Nat.le_refl _) new
    have sm : ∀ c o, H c = some o → upd H s.heap.objs.size (.tup [xs[i], ys[i]]) c = some o := fun c o e => by
      rw [upd_ne (fun q => by rw [q, hN] at e; cases e)]
      exact e
    have hS1 := sm _ _ hS
    have hTn : upd H s.heap.objs.size (.tup [xs[i], ys[i]]) s.heap.objs.size = some (.tup [xs[i], ys[i]]) := upd_same
    have hpn : PairsAt (upd H s.heap.objs.size (.tup [xs[i], ys[i]])) xs ys (ts ++ [s.heap.objs.size]) := fun j t ht => by
      by_cases hj : j < ts.length
      · rw [List.getElem?_append_left hj] at ht
        obtain ⟨x, y, e1, e2, e3⟩ := hp j t ht
        exact ⟨x, y, e1, e2, sm _ _ e3⟩
      · have hj2 := (List.getElem?_eq_some_iff.mp ht).1
        rw [List.length_append, List.length_singleton] at hj2
        have ej : j = i := by omega
        subst ej
        rw [List.getElem?_append_right (by omega), hl, Nat.sub_self] at ht
        cases ht
        exact ⟨_, _, List.getElem?_eq_getElem hlt, List.getElem?_eq_getElem hlt2, hTn⟩
    have fz : ∀ c ∈ [z, TI, TO, i1, i2], c < s.heap.objs.size := fun c hcm => by
      have e' : c = z ∨ c = TI ∨ c = TO ∨ c = i1 ∨ c = i2 := by simpa using hcm
      rcases e' with q | q | q | q | q
      · rw [q]
        rcases st.zs with y | ⟨_, _, _, y, _⟩ <;> exact Heap.lt_size y
      · rw [q]; exact Heap.lt_size st.ti
      · rw [q]; obtain ⟨_, _, y⟩ := st.to; exact Heap.lt_size y
      · rw [q]; obtain ⟨_, e1, _⟩ := st.it1; exact Heap.lt_size e1
      · rw [q]; obtain ⟨_, e2, _⟩ := st.it2; exact Heap.lt_size e2
    have hf1 : ∀ c ∈ [z, TI, TO, i1, i2], upd H s.heap.objs.size (.tup [xs[i], ys[i]]) c = none := fun c hcm => by
      rw [upd_ne (Nat.ne_of_lt (fz c hcm))]
      exact (hf c hcm).1
    have ha1 : SqL X.K (upd H s.heap.objs.size (.tup [xs[i], ys[i]])) a xs := sl_ne ha (sm a)
    have hb1 : SqT X.K (upd H s.heap.objs.size (.tup [xs[i], ys[i]])) b ys := st_ne hb (sm b)
    generalize upd H s.heap.objs.size (.tup [xs[i], ys[i]]) = H1 at I1 sm hS1 hTn hpn hf1 ha1 hb1
    obtain ⟨zz, accl, n, ri, e⟩ := I1.hok S _ hS1
    have e : h'.get? S = some { cls := .type "list", data := .seq accl.toArray n } := e
    have al := ri.length
    rw [List.length_map] at al
    have up : ∀ b o, b ≠ S → h'.get? b = some o → (h'.update S (Obj.mapSeq (·.push (Value.ref s.heap.objs.size)))).get? b = some o := fun b o hb e => (Heap.get?_update_other _ _ (Ne.symm hb)).trans e
    have hS2 : (h'.update S (Obj.mapSeq (·.push (Value.ref s.heap.objs.size)))).get? S = _ := Heap.get?_update_self (Obj.mapSeq (·.push (Value.ref s.heap.objs.size))) e rfl
    have hxs : xs.length ≤ sizeLine := by
      obtain ⟨_, _, _, y⟩ := I.list ha
      exact y
    have I2 : Inv X pins σ (upd H1 S (.lst ((ts ++ [s.heap.objs.size]).map V.ref))) { s with heap := h'.update S (Obj.mapSeq (·.push (Value.ref s.heap.objs.size))), toks := tk } := by
      refine I1.write (t' := tk) (by rw [hS1]; trivial) (.inl rfl) (fun b u hb q => up b u hb q) ⟨_, hS2⟩ ⟨by rw [List.length_map, List.length_append, List.length_singleton]; omega, accl ++ [.ref s.heap.objs.size], ?_, ?_, ?_⟩
      · exact n + 1
      · rw [List.map_append]
        exact ri.append (.cons rfl .nil)
      · rw [hS2]
        simp [Obj.mapSeq]
    show wpAny _ _ (updateSeq S (·.push (Value.ref s.heap.objs.size)) >>= _) _ _ _
    refine wpAny_bind ?_
    have nS : ∀ {c o}, H1 c = some o → c ≠ S → upd H1 S (.lst ((ts ++ [s.heap.objs.size]).map V.ref)) c = some o := fun e hne => by
      rw [upd_ne hne]
      exact e
    refine wpAny_updateSeq e rfl (wpAny_pure ⟨plainId_quiet PySem.F.plain_extend_loop _, ih (i + 1) _ _ (ts ++ [s.heap.objs.size]) (by omega) hlt I2 (fun c hcm => ⟨?_, (hf c hcm).2⟩) (st'.keep up) (sl_ne ha1 fun o e => nS e na) (st_ne hb1 fun o e => nS e nb) na nb (fun c o e hne => nS (sm _ _ (keep c o e hne)) hne) upd_same (by rw [List.length_append, hl]; rfl) ?_⟩) (by rw [List.size_toArray]; omega) (by show (accl.toArray.push (Value.ref s.heap.objs.size)).size ≤ sizeLine + 1; rw [Array.size_push, List.size_toArray]; omega)
    · obtain ⟨n1, n2, n3, n4, n5⟩ := st.ne
      have e' : c = z ∨ c = TI ∨ c = TO ∨ c = i1 ∨ c = i2 := by simpa using hcm
      have ncS : c ≠ S := by
        rcases e' with q | q | q | q | q <;> rw [q]
        · exact n1.symm
        · exact n2.symm
        · exact n3.symm
        · exact n4.symm
        · exact n5.symm
      rw [upd_ne ncS]
      exact hf1 c hcm
    · intro j t ht
      obtain ⟨x, y, e1, e2, e3⟩ := hpn j t ht
      exact ⟨x, y, e1, e2, nS e3 (fun q => by rw [q, hS1] at e3; cases e3)⟩
theorem zl_call {z TI TO i1 i2 a b : Addr} {xs ys : List V} {s : Shared} {H : Hp} {Q : VK} (hc : X.calm = true) (D : ZipApart z TI TO i1 i2 a b) (I : Inv X pins σ H s) (hf : ∀ c ∈ [z, TI, TO, i1, i2], FpOk X pins H c) (hz : IsZip s.heap z TI TO .none) (hTI : IsPair s.heap TI (.ref i1) (.ref i2)) (hTO : IsPair s.heap TO .none .none)
    (h1 : s.heap.IsListIter i1 a 0) (h2 : s.heap.IsTupleIter i2 b 0) (ha : SqL X.K H a xs) (hb : SqT X.K H b ys) (hl : xs.length = ys.length)
    (q : ∀ S H' ts, H S = none → Same H H' → H' S = some (.lst (ts.map V.ref)) → ts.length = xs.length → PairsAt H' xs ys ts → Q (.ref S) H') : wpAny (model X.prog X.w) X.A (call (.type "list") [.ref z]) (EP X pins σ Q) X.xe s := by
  have hN : H s.heap.objs.size = none := I.hok.fresh (Nat.le_refl _)
  refine callType_codes (Q₁ := fun obj s₁ => obj = .ref s.heap.objs.size ∧ s₁ = { s with heap := s.heap.push { cls := .type "list", data := .seq #[] } }) PySem.F.called_list (PySem.F.typeCall_list_1 _) PySem.F.entry_list_init
    (code_list_new _ ⟨rfl, rfl⟩) fun obj s₁ h₁ => ?_
  obtain ⟨rfl, rfl⟩ := h₁
  have hS : (s.heap.push { cls := .type "list", data := .seq #[] }).get? s.heap.objs.size = some { cls := .type "list", data := .seq #[] } := Heap.get?_push_size _ rfl
  have lz : z < s.heap.objs.size := Heap.lt_size hz
  refine ⟨⟨_, hS, rfl⟩, PySem.F.args_list_init_2 _ _, ?_⟩
  show wpAny _ _ (do let old ← Builtin.List.listItems (.ref s.heap.objs.size); Builtin.List.listUpdate (.ref s.heap.objs.size) (fun _ => #[]); letGo old.toList.reverse; Builtin.List.listExtendWith (.ref s.heap.objs.size) (.ref z) .none) _ _ _
  refine wpAny_bind ?_
  unfold Builtin.List.listItems
  refine wpAny_bind (wpAny_seqItems hS rfl (wpAny_pure ?_))
  show wpAny _ _ (updateSeq s.heap.objs.size (fun _ => #[]) >>= fun _ => letGo (#[] : Array Value).toList.reverse >>= fun _ => Builtin.List.listExtendWith (.ref s.heap.objs.size) (.ref z) .none) _ _ _
  refine wpAny_bind (wpAny_updateSeq hS rfl ?_)
  have hS2 := Heap.get?_update_self (Obj.mapSeq (fun _ => (#[] : Array Value))) hS rfl
  have k2 : ∀ b o, s.heap.get? b = some o → ((s.heap.push { cls := .type "list", data := .seq #[] }).update s.heap.objs.size (Obj.mapSeq (fun _ => (#[] : Array Value)))).get? b = some o :=
    fun b o e => (Heap.get?_update_other _ _ (Nat.ne_of_gt (Heap.lt_size e))).trans (Heap.get?_push_of_some _ e)
  generalize (s.heap.push { cls := .type "list", data := .seq #[] }).update s.heap.objs.size (Obj.mapSeq (fun _ => (#[] : Array Value))) = g2 at hS2 k2
  refine wpAny_bind (wpAny_letGo ?_)
  unfold Builtin.List.listExtendWith
  have tz : ∀ g : Heap, (∀ b o, s.heap.get? b = some o → g.get? b = some o) → ({ s with heap := g } : Shared).TypeIs (.ref z) "zip" := fun g k => ⟨_, k _ _ hz, rfl⟩
  refine wpAny_bind (wpAny_typeOf (T := "zip") (tz g2 k2) ?_)
  have e1 : Builtin.List.listSameRef (.ref s.heap.objs.size) (.ref z) = false := by simp [Builtin.List.listSameRef, Nat.ne_of_gt lz]
  have e2 : (Value.type "zip" == Value.type "list") = false := by decide
  have e3 : (Value.type "zip" == Value.type "tuple") = false := by decide
  simp only [e1, e2, e3, Bool.or_false, Bool.false_eq_true, if_false]
  refine wpAny_bind (wpAny_pyIter_zip (k2 _ _ hz) ?_)
  refine wpAny_bind (wpAny_holding ?_)
  unfold Builtin.List.listLengthHint
  refine wpAny_bind (wpAny_specialOf (tz g2 k2) zip_no_len ?_)
  show wpAny _ _ (specialOf (Value.ref z) (Str.ofString "__length_hint__") >>= _) _ _ _
  refine wpAny_bind (wpAny_specialOf (tz g2 k2) zip_no_hint ?_)
  refine wpAny_pure ?_
  show wpAny _ _ (rule "list.extend.makes-room" >>= fun _ => Builtin.List.listTouch (.ref s.heap.objs.size) >>= fun _ =>
    again (.builtin "list.extend.loop" ⟨[.ref s.heap.objs.size, .ref z, .none], []⟩)) _ _ _
  refine wpAny_bind (wpAny_rule ?_)
  refine wpAny_bind ?_
  show wpAny _ _ (updateSeq s.heap.objs.size (·.push .none) >>= fun _ => updateSeq s.heap.objs.size (·.pop)) _ _ _
  refine wpAny_bind (wpAny_updateSeq hS2 rfl ?_)
  have hS3 := Heap.get?_update_self (Obj.mapSeq (·.push Value.none)) hS2 rfl
  refine wpAny_updateSeq (hz := by seq_fits) hS3 rfl ?_
  have hS4 := Heap.get?_update_self (Obj.mapSeq (·.pop)) hS3 rfl
  have k4 : ∀ b o, s.heap.get? b = some o → ((g2.update s.heap.objs.size (Obj.mapSeq (·.push Value.none))).update s.heap.objs.size (Obj.mapSeq (·.pop))).get? b = some o :=
    fun b o e => (Heap.get?_update_other _ _ (Nat.ne_of_gt (Heap.lt_size e))).trans ((Heap.get?_update_other _ _ (Nat.ne_of_gt (Heap.lt_size e))).trans (k2 b o e))
  generalize (g2.update s.heap.objs.size (Obj.mapSeq (·.push Value.none))).update s.heap.objs.size (Obj.mapSeq (·.pop)) = g4 at hS4 k4
  have I4 : Inv X pins σ (upd H s.heap.objs.size (.lst [])) { s with heap := g4 } := I.laid (t' := s.toks) k4 (Nat.le_refl _) ⟨Nat.zero_le _, [], _, .nil, hS4⟩
  have sm : Same H (upd H s.heap.objs.size (.lst [])) := fun c o e => by
    rw [upd_ne (fun y => by rw [y, hN] at e; cases e)]
    exact e
  have neS : ∀ c ∈ [z, TI, TO, i1, i2], c < s.heap.objs.size := fun c hcm => by
    have e' : c = z ∨ c = TI ∨ c = TO ∨ c = i1 ∨ c = i2 := by simpa using hcm
    rcases e' with y | y | y | y | y
    · rw [y]; exact lz
    · rw [y]; exact Heap.lt_size hTI
    · rw [y]; exact Heap.lt_size hTO
    · rw [y]; obtain ⟨_, e1, _⟩ := h1; exact Heap.lt_size e1
    · rw [y]; obtain ⟨_, e2, _⟩ := h2; exact Heap.lt_size e2
  obtain ⟨its, _, p1, _⟩ := I.list ha
  obtain ⟨its2, _, ⟨o2, p2, _⟩, _⟩ := I.tuple hb
  refine wpAny_pure ⟨plainId_quiet PySem.F.plain_extend_loop _, zl_loop (X := X) (H0 := H) hc D hl .none ?_ xs.length 0 _ _ [] (Nat.sub_zero _) (Nat.zero_le _) I4 (fun c hcm => ⟨?_, (hf c hcm).2⟩) ⟨.inl (k4 _ _ hz), k4 _ _ hTI, ⟨_, _, k4 _ _ hTO⟩, h1.at fun o e => k4 _ _ e, h2.at fun o e => k4 _ _ e, Nat.ne_of_gt lz, Nat.ne_of_gt (neS TI (by simp)), Nat.ne_of_gt (neS TO (by simp)), Nat.ne_of_gt (neS i1 (by simp)), Nat.ne_of_gt (neS i2 (by simp))⟩
    (sl_ne ha (sm a)) (st_ne hb (sm b)) (Nat.ne_of_lt p1.lt) (Nat.ne_of_lt (Heap.lt_size p2)) (fun c o e _ => sm c o e) upd_same rfl (fun j t ht => by cases ht)⟩
  · intro s' H' ts I' keep hS' hl' hp
    exact ⟨rfl, .ref s.heap.objs.size, H', I', rfl, q _ H' ts hN (fun c o e => keep c o e (fun y => by rw [y, hN] at e; cases e)) hS' hl' hp⟩
  · rw [upd_ne (Nat.ne_of_lt (neS c hcm))]
    exact (hf c hcm).1
/-- list(zip(xs, t)) -/
def tListZip (K : PySem.W.Frag) (ta : TA) : TE := fun σ H Q => ta σ H fun vs H1 => ∃ a b xs ys, vs = [.ref a, .ref b] ∧ SqL K H1 a xs ∧ SqT K H1 b ys ∧ xs.length = ys.length ∧
  ∀ S H' ts, H1 S = none → Same H1 H' → H' S = some (.lst (ts.map V.ref)) → ts.length = xs.length → PairsAt H' xs ys ts → Q (.ref S) H'
theorem pe_listZip {e e2 : Expr} {ta : TA} {p p2 pos pos2 : Pos} (hc : X.calm = true) (hgl : Gl X "list") (hml : X.mg "list" = none) (hg : Gl X "zip") (hm : X.mg "zip" = none) (ha : PA X [e, e2] ta)
    (hs : starEach [e, e2] X.env = (false, eval e X.env) :: starEach [e2] X.env := by rfl) (hpl : (backTo pos2 (starEach [e2] X.env)).any (·.1) = false := by rfl)
    (hs2 : starEach [.Call (.Name "zip" p2) [e, e2] [] pos2] X.env = (false, eval (.Call (.Name "zip" p2) [e, e2] [] pos2) X.env) :: starEach [] X.env := by rfl) (hpl2 : (backTo pos (starEach [] X.env)).any (·.1) = false := by rfl) :
    PE X (.Call (.Name "list" p) [.Call (.Name "zip" p2) [e, e2] [] pos2] [] pos) (tListZip X.K ta) := by
  refine ⟨fun pins s σ H Q I h => ?_⟩
  refine wpAny_Call_Name_kw (ld_blt I hgl hml (by decide +kernel : bootBuiltins "list" = some (.type "list")) ?_ (by decide) (by decide))
  refine PyProof.Rows.callWith_type1 ?_ hs2 hpl2
  rw [hs2]
  show wpAny _ _ (spliced ((false, eval (.Call (.Name "zip" p2) [e, e2] [] pos2) X.env) :: backTo pos (starEach [] X.env))) _ _ s
  refine Calls.spliced_cons ?_
  refine Call_ (ld_blt I hg hm PyProof.Rows.boot_zip (PyProof.Rows.callWith_type1 (thn (ha.run pos2 pins s σ H _ I h) fun us s1 ⟨vs, H1, I1, r1, q1⟩ => ?_) hs hpl))
  obtain ⟨a, b, xs, ys, ex, hqx, hqy, hl, q⟩ := q1
  subst ex
  cases r1 with
  | cons r rr =>
    cases rr with
    | cons r' rr =>
      cases rr
      cases r
      cases r'
      obtain ⟨its, rv, p1, _⟩ := I1.list hqx
      obtain ⟨its2, rv2, p2, _⟩ := I1.tuple hqy
      have la : a < s1.heap.objs.size := p1.lt
      have lb : b < s1.heap.objs.size := by
        obtain ⟨o, e, _⟩ := p2
        exact Heap.lt_size e
      refine zip_begins2 (begins_list a its.toArray) (begins_tuple b its2.toArray) p1.isList p2 fun h' hz hTI hTO g1 g2 hsz hk => ?_
      refine Calls.spliced_nil ?_
      have I2 : Inv X pins σ H1 { s1 with heap := h' } := I1.kept (t' := s1.toks) hk
      refine zl_call hc (PySem.W.ktu_apart s1.heap.objs.size a b la lb) I2 (fun c hcm => ?_) hz hTI hTO ⟨_, g1, rfl, rfl⟩ ⟨_, g2, rfl, rfl⟩ hqx hqy hl q
      have e' : c = s1.heap.objs.size + 4 ∨ c = s1.heap.objs.size + 2 ∨ c = s1.heap.objs.size + 3 ∨ c = s1.heap.objs.size ∨ c = s1.heap.objs.size + 1 := by simpa using hcm
      have hle : s1.heap.objs.size ≤ c := by
        rcases e' with z | z | z | z | z
        · rw [z]; exact Nat.le_add_right _ _
        · rw [z]; exact Nat.le_add_right _ _
        · rw [z]; exact Nat.le_add_right _ _
        · rw [z]; exact Nat.le_refl _
        · rw [z]; exact Nat.le_add_right _ _
      exact I1.fpOk hle (I1.hok.fresh hle)
end
end Cc
end

/-! ## CcLines -/
section
set_option maxRecDepth 100000
set_option maxHeartbeats 4000000
/-! The text's lines and words. -/
namespace Cc
open PySem PySem.Spec PyProof.Rows L2
def sp_is_letter (_ : PySem.W.Frag) : Sp := fun vs H Q _ => ∃ b : Nat, vs = [.int (b : Int)] ∧ Q (.bl (Gp27.small b)) H
def sp_is_digit (_ : PySem.W.Frag) : Sp := fun vs H Q _ => ∃ b : Nat, vs = [.int (b : Int)] ∧ Q (.bl (Gp27.digit b)) H
def sp_is_name (K : PySem.W.Frag) : Sp := fun vs H Q _ => ∃ (p : Addr) (w : List Nat), vs = [.ref p] ∧ SqL K H p (byV w) ∧ w ≠ [] ∧ w.length ≤ 5000 ∧ ∀ H', Same H H' → Q (.bl (Gp27.isName w)) H'
def sp_is_number (K : PySem.W.Frag) : Sp := fun vs H Q _ => ∃ (p : Addr) (w : List Nat), vs = [.ref p] ∧ SqL K H p (byV w) ∧ w ≠ [] ∧ w.length ≤ 5000 ∧ ∀ H', Same H H' → Q (.bl (Gp27.number w).isSome) H'
def sp_number_of (K : PySem.W.Frag) : Sp := fun vs H Q _ => ∃ (p : Addr) (w : List Nat) (n : Nat), vs = [.ref p] ∧ SqL K H p (byV w) ∧ Gp27.number w = some n ∧ Q (.int (n : Int)) H
def sp_is_word (K : PySem.W.Frag) : Sp := fun vs H Q _ => ∃ (p : Addr) (w : List Nat) (z : Str), vs = [.ref p, .str z] ∧ SqL K H p (byV w) ∧ z.cps.size ≤ 100 ∧ ∀ H', Same H H' → Q (.bl (decide (w = z.cps.toList))) H'
def sp_has_bad_byte (K : PySem.W.Frag) : Sp := fun vs H Q _ => ∃ (p : Addr) (w : List Nat), vs = [.ref p] ∧ SqL K H p (byV w) ∧ w.length ≤ 5000 ∧ ∀ H', Same H H' → Q (.bl (w.any fun b => decide (b < 32) || decide (126 < b))) H'
def sp_lines_of (K : PySem.W.Frag) : Sp := fun vs H Q _ => ∃ (p : Addr) (b : List Nat), vs = [.ref p] ∧ SqL K H p (byV b) ∧ b.length ≤ 5000 ∧ ∀ D H', H D = none → Same H H' → ListsAt H' D (Gp27.lines [] b) → Q (.ref D) H'
def sp_words_of (K : PySem.W.Frag) : Sp := fun vs H Q _ => ∃ (p : Addr) (b : List Nat), vs = [.ref p] ∧ H p = some (.lst (byV b)) ∧ b.length ≤ 5000 ∧ ∀ D H', H D = none → Same H H' → ListsAt H' D (Gp27.words [] b) → Q (.ref D) H'
/-- the words of a saying mean something -/
def meant (l : List (List Nat)) : Bool := match l with
  | [] => false
  | w :: _ => !(w.head? == some 35)
def sp_is_meant (_ : PySem.W.Frag) : Sp := fun vs H Q _ => ∃ (p : Addr) (l : List (List Nat)), vs = [.ref p] ∧ ListsAt H p l ∧ (∀ w ∈ l, w ≠ []) ∧ ∀ H', Same H H' → Q (.bl (meant l)) H'
section
variable {K : PySem.W.Frag}
theorem len_is_letter : ∀ vs H Q E, sp_is_letter K vs H Q E → vs.length = (["byte"] : List Str).length := by rintro _ _ _ _ ⟨_, rfl, _⟩; rfl
theorem len_is_digit : ∀ vs H Q E, sp_is_digit K vs H Q E → vs.length = (["byte"] : List Str).length := by rintro _ _ _ _ ⟨_, rfl, _⟩; rfl
theorem len_is_name : ∀ vs H Q E, sp_is_name K vs H Q E → vs.length = (["word"] : List Str).length := by rintro _ _ _ _ ⟨_, _, rfl, _⟩; rfl
theorem len_is_number : ∀ vs H Q E, sp_is_number K vs H Q E → vs.length = (["word"] : List Str).length := by rintro _ _ _ _ ⟨_, _, rfl, _⟩; rfl
theorem len_number_of : ∀ vs H Q E, sp_number_of K vs H Q E → vs.length = (["word"] : List Str).length := by rintro _ _ _ _ ⟨_, _, _, rfl, _⟩; rfl
theorem len_is_word : ∀ vs H Q E, sp_is_word K vs H Q E → vs.length = (["word", "text"] : List Str).length := by rintro _ _ _ _ ⟨_, _, _, rfl, _⟩; rfl
theorem len_has_bad_byte : ∀ vs H Q E, sp_has_bad_byte K vs H Q E → vs.length = (["line"] : List Str).length := by rintro _ _ _ _ ⟨_, _, rfl, _⟩; rfl
theorem len_lines_of : ∀ vs H Q E, sp_lines_of K vs H Q E → vs.length = (["source"] : List Str).length := by rintro _ _ _ _ ⟨_, _, rfl, _⟩; rfl
theorem len_words_of : ∀ vs H Q E, sp_words_of K vs H Q E → vs.length = (["line"] : List Str).length := by rintro _ _ _ _ ⟨_, _, rfl, _⟩; rfl
theorem len_is_meant : ∀ vs H Q E, sp_is_meant K vs H Q E → vs.length = (["words"] : List Str).length := by rintro _ _ _ _ ⟨_, _, rfl, _⟩; rfl
end
abbrev N_lines_of : List Str := ["source", "found", "line", "byte"]
theorem sc_lines_of : FnScope N_lines_of ["source"] (defScope s_lines_of) := ⟨rfl, rfl, rfl, by decide +kernel, rfl, by decide +kernel, by decide +kernel⟩
def t_lines_of (K : PySem.W.Frag) : TS := (tSeq (tAsg (tLst tNil) (gName 1))
  (tSeq (tAsg (tLst tNil) (gName 2))
  (tSeq (tFor (iList K (tVar 0)) (gName 3) (tIfS (tTest (tOp rEq (tVar 3) (tC (.int (10))))) (tSeq (tDrop (tBM K "list" rAppend (tVar 1) (tCons (tVar 2) tNil)))
  (tAsg (tLst tNil) (gName 2))) (tDrop (tBM K "list" rAppend (tVar 2) (tCons (tVar 3) tNil)))))
  (tRet (tIf (tTest (tOp (rNeE K) (tVar 2) (tLst tNil))) (tOp rCat (tVar 1) (tLst (tCons (tVar 2) tNil))) (tVar 1))))))
abbrev N_words_of : List Str := ["line", "found", "word", "byte"]
theorem sc_words_of : FnScope N_words_of ["line"] (defScope s_words_of) := ⟨rfl, rfl, rfl, by decide +kernel, rfl, by decide +kernel, by decide +kernel⟩
def t_words_of (K : PySem.W.Frag) : TS := (tSeq (tAsg (tLst tNil) (gName 1))
  (tSeq (tAsg (tLst tNil) (gName 2))
  (tSeq (tFor (iList K (tOp rCat (tVar 0) (tLst (tCons (tC (.int (32))) tNil)))) (gName 3) (tIfS (tTest (tOp rNe (tVar 3) (tC (.int (32))))) (tDrop (tBM K "list" rAppend (tVar 2) (tCons (tVar 3) tNil))) (tIfS (tTest (tOp (rNeE K) (tVar 2) (tLst tNil))) (tSeq (tDrop (tBM K "list" rAppend (tVar 1) (tCons (tVar 2) tNil)))
  (tAsg (tLst tNil) (gName 2))) tNext)))
  (tRet (tVar 1)))))
abbrev N_is_meant : List Str := ["words"]
theorem sc_is_meant : FnScope N_is_meant ["words"] (defScope s_is_meant) := ⟨rfl, rfl, rfl, by decide +kernel, rfl, by decide +kernel, by decide +kernel⟩
def t_is_meant (K : PySem.W.Frag) : TS := (tRet (tAndV (tOp (rNeE K) (tVar 0) (tLst tNil)) (tOp rNe (tOp (rIxL K) (tOp (rIxL K) (tVar 0) (tC (.int 0))) (tC (.int 0))) (tC (.int (35))))))
abbrev N_has_bad_byte : List Str := ["line", "byte"]
theorem sc_has_bad_byte : FnScope N_has_bad_byte ["line"] (defScope s_has_bad_byte) := ⟨rfl, rfl, rfl, by decide +kernel, rfl, by decide +kernel, by decide +kernel⟩
def t_has_bad_byte (K : PySem.W.Frag) : TS := (tRet (tCB (rAny K) (tCons (tLc (iList K (tVar 0)) (gName 1) tYes (tOrV (tOp rLtI (tVar 1) (tC (.int (32)))) (tOp rGtI (tVar 1) (tC (.int (126))))) [1]) tNil)))
abbrev N_is_word : List Str := ["word", "text", "sign"]
theorem sc_is_word : FnScope N_is_word ["word", "text"] (defScope s_is_word) := ⟨rfl, rfl, rfl, by decide +kernel, rfl, by decide +kernel, by decide +kernel⟩
def t_is_word (K : PySem.W.Frag) : TS := (tRet (tOp (rEqD K) (tVar 0) (tLc (iStr (tVar 1)) (gName 2) tYes (tCB rOrd (tCons (tVar 2) tNil)) [2])))
abbrev N_is_letter : List Str := ["byte"]
theorem sc_is_letter : FnScope N_is_letter ["byte"] (defScope s_is_letter) := ⟨rfl, rfl, rfl, by decide +kernel, rfl, by decide +kernel, by decide +kernel⟩
def t_is_letter (K : PySem.W.Frag) : TS := (tRet (tAndV (tOp rLeI (tCB rOrd (tCons (tC (.str "a")) tNil)) (tVar 0)) (tOp rLeI (tVar 0) (tCB rOrd (tCons (tC (.str "z")) tNil)))))
abbrev N_is_digit : List Str := ["byte"]
theorem sc_is_digit : FnScope N_is_digit ["byte"] (defScope s_is_digit) := ⟨rfl, rfl, rfl, by decide +kernel, rfl, by decide +kernel, by decide +kernel⟩
def t_is_digit (K : PySem.W.Frag) : TS := (tRet (tAndV (tOp rLeI (tCB rOrd (tCons (tC (.str "0")) tNil)) (tVar 0)) (tOp rLeI (tVar 0) (tCB rOrd (tCons (tC (.str "9")) tNil)))))
abbrev N_is_name : List Str := ["word", "byte"]
theorem sc_is_name : FnScope N_is_name ["word"] (defScope s_is_name) := ⟨rfl, rfl, rfl, by decide +kernel, rfl, by decide +kernel, by decide +kernel⟩
def t_is_name (K : PySem.W.Frag) : TS := (tSeq (tIfS (tOr (tTest (tOp rGtI (tCB (rLenQ K) (tCons (tVar 0) tNil)) (tC (.int (8))))) (tNot (tB (tCall (sp_is_letter K) [] E0 (tCons (tOp (rIxL K) (tVar 0) (tC (.int 0))) tNil))))) (tRet (tC (.bl false))) tNext)
  (tRet (tCB (rAll K) (tCons (tLc (iList K (tVar 0)) (gName 1) tYes (tOrV (tCall (sp_is_letter K) [] E0 (tCons (tVar 1) tNil)) (tCall (sp_is_digit K) [] E0 (tCons (tVar 1) tNil))) [1]) tNil))))
abbrev N_is_number : List Str := ["word", "byte"]
theorem sc_is_number : FnScope N_is_number ["word"] (defScope s_is_number) := ⟨rfl, rfl, rfl, by decide +kernel, rfl, by decide +kernel, by decide +kernel⟩
def t_is_number (K : PySem.W.Frag) : TS := (tRet (tAndV (tOp rLeI (tCB (rLenQ K) (tCons (tVar 0) tNil)) (tC (.int (3)))) (tCB (rAll K) (tCons (tLc (iList K (tVar 0)) (gName 1) tYes (tCall (sp_is_digit K) [] E0 (tCons (tVar 1) tNil)) [1]) tNil))))
abbrev N_number_of : List Str := ["word", "found", "byte"]
theorem sc_number_of : FnScope N_number_of ["word"] (defScope s_number_of) := ⟨rfl, rfl, rfl, by decide +kernel, rfl, by decide +kernel, by decide +kernel⟩
def t_number_of (K : PySem.W.Frag) : TS := (tSeq (tAsg (tC (.int 0)) (gName 1))
  (tSeq (tFor (iList K (tVar 0)) (gName 2) (tAsg (tOp rSubI (tOp rAddI (tOp rMulI (tC (.int 10)) (tVar 1)) (tVar 2)) (tCB rOrd (tCons (tC (.str "0")) tNil))) (gName 1)))
  (tRet (tVar 1))))
/-! ### plain: lines and words by a fold -/
def lstep (x : List (List Nat) × List Nat) (b : Nat) : List (List Nat) × List Nat := if b = 10 then (x.1 ++ [x.2], []) else (x.1, x.2 ++ [b])
def wstep (x : List (List Nat) × List Nat) (b : Nat) : List (List Nat) × List Nat := if b ≠ 32 then (x.1, x.2 ++ [b]) else if x.2 = [] then x else (x.1 ++ [x.2], [])
theorem lines_cons (c : List Nat) (b : Nat) (r : List Nat) : Gp27.lines c (b :: r) = if b = 10 then c :: Gp27.lines [] r else Gp27.lines (c ++ [b]) r := by
  cases c <;> simp only [Gp27.lines]
theorem words_cons (c : List Nat) (b : Nat) (r : List Nat) : Gp27.words c (b :: r) = if b = 32 then (if c.isEmpty = true then Gp27.words [] r else c :: Gp27.words [] r) else Gp27.words (c ++ [b]) r := by
  cases c <;> simp only [Gp27.words]
theorem lines_fold : ∀ (l : List Nat) (d : List (List Nat)) (c : List Nat), (if (l.foldl lstep (d, c)).2 = [] then (l.foldl lstep (d, c)).1 else (l.foldl lstep (d, c)).1 ++ [(l.foldl lstep (d, c)).2]) = d ++ Gp27.lines c l
  | [], d, [] => (List.append_nil d).symm
  | [], d, x :: c => rfl
  | b :: r, d, c => by
    rw [List.foldl_cons]
    by_cases e : b = 10
    · have e1 : lstep (d, c) b = (d ++ [c], []) := if_pos e
      have e2 : Gp27.lines c (b :: r) = c :: Gp27.lines [] r := by
        rw [lines_cons, if_pos e]
      rw [e1, lines_fold r (d ++ [c]) [], e2, List.append_assoc] <;> rfl
    · have e1 : lstep (d, c) b = (d, c ++ [b]) := if_neg e
      have e2 : Gp27.lines c (b :: r) = Gp27.lines (c ++ [b]) r := by
        rw [lines_cons, if_neg e]
      rw [e1, lines_fold r d (c ++ [b]), e2]
theorem words_fold : ∀ (l : List Nat) (d : List (List Nat)) (c : List Nat), ((l ++ [32]).foldl wstep (d, c)).1 = d ++ Gp27.words c l
  | [], d, [] => (List.append_nil d).symm
  | [], d, x :: c => rfl
  | b :: r, d, c => by
    rw [List.cons_append, List.foldl_cons]
    by_cases e : b = 32
    · by_cases ec : c = []
      · subst ec
        have e1 : wstep (d, []) b = (d, []) := by
          unfold wstep
          rw [if_neg (fun z => z e), if_pos rfl]
        have e2 : Gp27.words [] (b :: r) = Gp27.words [] r := by
          rw [words_cons, if_pos e, if_pos (show ([] : List Nat).isEmpty = true from rfl)]
        rw [e1, words_fold r d [], e2]
      · have e1 : wstep (d, c) b = (d ++ [c], []) := by
          unfold wstep
          rw [if_neg (fun z => z e), if_neg ec]
        have e2 : Gp27.words c (b :: r) = c :: Gp27.words [] r := by
          rw [words_cons, if_pos e, if_neg (by
            cases c with
            | nil => exact absurd rfl ec
            | cons x y => exact Bool.false_ne_true)]
        rw [e1, words_fold r (d ++ [c]) [], e2, List.append_assoc] <;> rfl
    · have e1 : wstep (d, c) b = (d, c ++ [b]) := if_pos e
      have e2 : Gp27.words c (b :: r) = Gp27.words (c ++ [b]) r := by
        rw [words_cons, if_neg e]
      rw [e1, words_fold r d (c ++ [b]), e2]
theorem lfold_len : ∀ (l : List Nat) (x : List (List Nat) × List Nat), (l.foldl lstep x).1.length ≤ x.1.length + l.length ∧ (l.foldl lstep x).2.length ≤ x.2.length + l.length
  | [], x => ⟨Nat.le_refl _, Nat.le_refl _⟩
  | b :: r, x => by
    rw [List.foldl_cons, List.length_cons]
    have := lfold_len r (lstep x b)
    unfold lstep at this ⊢
    by_cases e : b = 10
    · rw [if_pos e] at this ⊢
      have h1 : (x.1 ++ [x.2]).length = x.1.length + 1 := by rw [List.length_append] <;> rfl
      have h2 : ([] : List Nat).length = 0 := rfl
      simp only [h1, h2] at this
      omega
    · rw [if_neg e] at this ⊢
      have h1 : (x.2 ++ [b]).length = x.2.length + 1 := by rw [List.length_append] <;> rfl
      simp only [h1] at this
      omega
theorem wfold_len : ∀ (l : List Nat) (x : List (List Nat) × List Nat), (l.foldl wstep x).1.length ≤ x.1.length + l.length ∧ (l.foldl wstep x).2.length ≤ x.2.length + l.length
  | [], x => ⟨Nat.le_refl _, Nat.le_refl _⟩
  | b :: r, x => by
    rw [List.foldl_cons, List.length_cons]
    have := wfold_len r (wstep x b)
    unfold wstep at this ⊢
    by_cases e : b ≠ 32
    · rw [if_pos e] at this ⊢
      have h1 : (x.2 ++ [b]).length = x.2.length + 1 := by rw [List.length_append] <;> rfl
      simp only [h1] at this
      omega
    · rw [if_neg e] at this ⊢
      by_cases ec : x.2 = []
      · rw [if_pos ec] at this ⊢
        omega
      · rw [if_neg ec] at this ⊢
        have h1 : (x.1 ++ [x.2]).length = x.1.length + 1 := by rw [List.length_append] <;> rfl
        have h2 : ([] : List Nat).length = 0 := rfl
        simp only [h1, h2] at this
        omega
theorem lines_len : ∀ (l c : List Nat), (Gp27.lines c l).length ≤ l.length + 1 ∧ ∀ w ∈ Gp27.lines c l, w.length ≤ c.length + l.length
  | [], [] => ⟨Nat.zero_le _, fun _ h => nomatch h⟩
  | [], x :: c => ⟨Nat.le_refl _, fun w h => by
    rw [List.mem_singleton.mp h]
    exact Nat.le_refl _⟩
  | b :: r, c => by
    by_cases e : b = 10
    · have e2 : Gp27.lines c (b :: r) = c :: Gp27.lines [] r := by
        rw [lines_cons, if_pos e]
      obtain ⟨h1, h2⟩ := lines_len r []
      rw [e2]
      refine ⟨by rw [List.length_cons, List.length_cons]; omega, fun w h => ?_⟩
      rw [List.length_cons]
      rcases List.mem_cons.mp h with h | h
      · rw [h]; omega
      · have := h2 w h
        have h0 : ([] : List Nat).length = 0 := rfl
        omega
    · have e2 : Gp27.lines c (b :: r) = Gp27.lines (c ++ [b]) r := by
        rw [lines_cons, if_neg e]
      obtain ⟨h1, h2⟩ := lines_len r (c ++ [b])
      rw [e2]
      refine ⟨by rw [List.length_cons]; omega, fun w h => ?_⟩
      have := h2 w h
      rw [List.length_append] at this
      have h0 : [b].length = 1 := rfl
      rw [List.length_cons]
      omega
theorem words_len : ∀ (l c : List Nat), (Gp27.words c l).length ≤ l.length + 1 ∧ ∀ w ∈ Gp27.words c l, w ≠ [] ∧ w.length ≤ c.length + l.length
  | [], [] => ⟨Nat.zero_le _, fun _ h => nomatch h⟩
  | [], x :: c => ⟨Nat.le_refl _, fun w h => by
    have h := List.mem_singleton.mp h
    subst h
    exact And.intro (fun z => nomatch z) (Nat.le_refl _)⟩
  | b :: r, c => by
    by_cases e : b = 32
    · by_cases ec : c = []
      · subst ec
        have e2 : Gp27.words [] (b :: r) = Gp27.words [] r := by
          rw [words_cons, if_pos e, if_pos (show ([] : List Nat).isEmpty = true from rfl)]
        obtain ⟨h1, h2⟩ := words_len r []
        rw [e2]
        refine ⟨by rw [List.length_cons]; omega, fun w h => ⟨(h2 w h).1, ?_⟩⟩
        have := (h2 w h).2
        rw [List.length_cons]
        omega
      · have e2 : Gp27.words c (b :: r) = c :: Gp27.words [] r := by
          rw [words_cons, if_pos e, if_neg (by
            cases c with
            | nil => exact absurd rfl ec
            | cons x y => exact Bool.false_ne_true)]
        obtain ⟨h1, h2⟩ := words_len r []
        rw [e2]
        refine ⟨by rw [List.length_cons, List.length_cons]; omega, fun w h => ?_⟩
        rw [List.length_cons]
        rcases List.mem_cons.mp h with h | h
        · rw [h]; exact ⟨ec, by omega⟩
        · have := (h2 w h).2
          have h0 : ([] : List Nat).length = 0 := rfl
          exact ⟨(h2 w h).1, by omega⟩
    · have e2 : Gp27.words c (b :: r) = Gp27.words (c ++ [b]) r := by
        rw [words_cons, if_neg e]
      obtain ⟨h1, h2⟩ := words_len r (c ++ [b])
      rw [e2]
      refine ⟨by rw [List.length_cons]; omega, fun w h => ⟨(h2 w h).1, ?_⟩⟩
      have := (h2 w h).2
      rw [List.length_append] at this
      have h0 : [b].length = 1 := rfl
      rw [List.length_cons]
      omega
/-! ### a list of lists that grows -/
def ListsE (H : Hp) (D L : Addr) (ls : List (List Nat)) : Prop := ∃ ps : List Addr, H D = some (.lst (ps.map V.ref)) ∧ ps.length = ls.length ∧ ∀ (i : Nat) l, ls[i]? = some l → ∃ p, ps[i]? = some p ∧ p ≠ D ∧ p ≠ L ∧ H p = some (.lst (byV l))
theorem ListsE.at {H : Hp} {D L : Addr} {ls : List (List Nat)} (h : ListsE H D L ls) : ListsAt H D ls := by
  obtain ⟨ps, h1, h2, h3⟩ := h
  exact ⟨ps, h1, h2, fun i l hl => by
    obtain ⟨p, e1, e2, _, e3⟩ := h3 i l hl
    exact ⟨p, e1, e2, e3⟩⟩
theorem le_add {H : Hp} {D L : Addr} {ls : List (List Nat)} (h : ListsE H D L ls) (ne : D ≠ L) (o : HO) : ListsE (upd H L o) D L ls := by
  obtain ⟨ps, h1, h2, h3⟩ := h
  refine ⟨ps, by rw [upd_ne ne]; exact h1, h2, fun i l hl => ?_⟩
  obtain ⟨p, e1, e2, e3, e4⟩ := h3 i l hl
  exact ⟨p, e1, e2, e3, by rw [upd_ne e3]; exact e4⟩
theorem app_all {H' : Hp} {ps : List Addr} {ls : List (List Nat)} {L : Addr} {cur : List Nat} {P : Addr → Prop} (h2 : ps.length = ls.length) (h3 : ∀ (i : Nat) l, ls[i]? = some l → ∃ p, ps[i]? = some p ∧ P p ∧ H' p = some (.lst (byV l))) (hP : P L) (hL : H' L = some (.lst (byV cur))) :
    ∀ (i : Nat) l, (ls ++ [cur])[i]? = some l → ∃ p, (ps ++ [L])[i]? = some p ∧ P p ∧ H' p = some (.lst (byV l)) := fun i l hl => by
  by_cases hi : i < ls.length
  · rw [List.getElem?_append_left hi] at hl
    obtain ⟨p, e1, e2, e3⟩ := h3 i l hl
    exact ⟨p, by rw [List.getElem?_append_left (by rw [h2]; exact hi)]; exact e1, e2, e3⟩
  · have hl' := (List.getElem?_eq_some_iff.mp hl).1
    rw [List.length_append] at hl'
    have e1 : [cur].length = 1 := rfl
    have e : i = ls.length := by omega
    subst e
    rw [List.getElem?_append_right (Nat.le_refl _), Nat.sub_self] at hl
    cases hl
    exact ⟨L, by rw [← h2, List.getElem?_append_right (Nat.le_refl _), Nat.sub_self] <;> rfl, hP, hL⟩
theorem le_flush {H : Hp} {D L : Addr} {ls : List (List Nat)} {cur : List Nat} (h : ListsE H D L ls) (hL : H L = some (.lst (byV cur))) (ne : D ≠ L) : ∃ ps : List Addr, H D = some (.lst (ps.map V.ref)) ∧ ps.length = ls.length ∧
    ∀ p, upd H D (.lst (ps.map V.ref ++ [.ref L])) p = none → ListsE (upd (upd H D (.lst (ps.map V.ref ++ [.ref L]))) p (.lst [])) D p (ls ++ [cur]) := by
  obtain ⟨ps, h1, h2, h3⟩ := h
  refine ⟨ps, h1, h2, fun p hp => ?_⟩
  have nD : D ≠ p := fun e => by rw [← e, upd_same] at hp; cases hp
  have pn : H p = none := by rw [upd_ne nD.symm] at hp; exact hp
  refine ⟨ps ++ [L], by rw [upd_ne nD, upd_same, List.map_append] <;> rfl, by rw [List.length_append, List.length_append, h2] <;> rfl, fun i l hl => ?_⟩
  obtain ⟨q, e1, ⟨e2, e3⟩, e4⟩ := app_all (H' := H) (P := fun q => q ≠ D ∧ q ≠ p) h2 (fun i l hl => by
    obtain ⟨q, e1, e2, _, e4⟩ := h3 i l hl
    exact ⟨q, e1, ⟨e2, fun z => by rw [z, pn] at e4; cases e4⟩, e4⟩) ⟨ne.symm, fun z => by rw [z, pn] at hL; cases hL⟩ hL i l hl
  exact ⟨q, e1, e2, e3, by rw [upd_ne e3, upd_ne e2]; exact e4⟩
section
variable {σ : L2.St} {K : PySem.W.Frag} {H : Hp} {D : Ends} {Q : VK}
theorem and_c {ta tb : TE} (h : ta σ H fun x H1 => ∃ c, x = .bl c ∧ if c = true then tb σ H1 Q else Q (.bl false) H1) : tAndV ta tb σ H Q := h
theorem if_c {t : TT} {ta tb : TE} (h : t σ H fun c H1 => if c = true then ta σ H1 Q else tb σ H1 Q) : tIf t ta tb σ H Q := h
theorem v_go {te : TE} {v : V} (h : Val te σ H v) (q : Q v H) : te σ H Q := h _ q
/-- [f(sign) for sign in text] -/
theorem e_lcStr {te tb : TE} {j : Nat} {vs : List Nat} {z : Str} (f : Nat → V) (hv : Val te σ H (.str z)) (hz : z.cps.size ≤ 100) (hw : ∀ v, wipe ((wipe σ vs).set j (some v)) vs = wipe σ vs)
    (he : ∀ (c : Nat) H', Val tb ((wipe σ vs).set j (some (.str ⟨#[c]⟩))) H' (f c)) (q : ∀ D H', H D = none → Same H H' → H' D = some (.lst (z.cps.toList.map f)) → Q (.ref D) H') : tLc (iStr te) (gName j) tYes tb vs σ H Q := by
  refine hv _ ⟨z, rfl, fun D hD => lc_it (walk_str (z := z)) (fun i H' => Same H H' ∧ H' D = some (.lst ((z.cps.toList.take i).map f))) ⟨same_put (Same.refl H) hD, upd_same⟩ (fun _ _ _ _ => trivial) ?_ ?_⟩
  · rintro i x H1 H2 hi ⟨s, hd⟩ ⟨rfl, c, hc, rfl⟩
    have hc' : z.cps.toList[i]? = some c := by rw [Array.getElem?_toList]; exact hc
    refine ⟨hw _, ans_yes _ (iteT (he c _ _ ⟨_, hd, ?_, same_put s hD, ?_⟩))⟩
    · rw [List.length_map, List.length_take]
      exact Nat.lt_of_le_of_lt (Nat.min_le_right _ _) (by rw [Array.length_toList]; exact Nat.lt_of_le_of_lt hz (by decide))
    · rw [upd_same, take_more hc', List.map_append] <;> rfl
  · rintro H' ⟨s, hd⟩
    rw [← Array.length_toList, List.take_length] at hd
    exact q D H' hD s hd
theorem tt_op {ta tb : TE} {r : R2} {Q : Bool → Hp → Prop} (h : ta σ H fun x H1 => tb σ H1 fun y H2 => r x y H2 fun v H3 => ∃ b, v = .bl b ∧ Q b H3) : tTest (tOp r ta tb) σ H Q := h
theorem t_neE {i : Nat} {p : Addr} {xs : List V} {Q : Bool → Hp → Prop} (hv : σ[i]? = some (some (.ref p))) (hx : SqL K H p xs) (q : ∀ H', Same H H' → Q (!xs.isEmpty) H') : tTest (tOp (rNeE K) (tVar i) (tLst tNil)) σ H Q :=
  tt_op (val_var hv _ (e_lst va_nil rfl fun p1 hp1 => ⟨p, p1, xs, rfl, rfl, Same.seq (same_new hp1) hx, SqL.of upd_same, _, rfl, q _ (same_new hp1)⟩))
theorem t_eqE {te : TE} {p : Addr} {xs : List V} {Q : Bool → Hp → Prop} (hv : Val te σ H (.ref p)) (hx : SqL K H p xs) (q : ∀ H', Same H H' → Q xs.isEmpty H') : tTest (tOp (rEqE K) te (tLst tNil)) σ H Q :=
  tt_op (hv _ (e_lst va_nil rfl fun p1 hp1 => ⟨p, p1, xs, rfl, rfl, Same.seq (same_new hp1) hx, SqL.of upd_same, _, rfl, q _ (same_new hp1)⟩))
theorem e_all {te : TE} (h : te σ H fun v H' => ∃ (a : Addr) (bs : List Bool), [v] = [.ref a] ∧ SqL K H' a (bs.map V.bl) ∧ Q (.bl (bs.all id)) H') : tCB (rAll K) (tCons te tNil) σ H Q := h
theorem e_any {te : TE} (h : te σ H fun v H' => ∃ (a : Addr) (bs : List Bool), [v] = [.ref a] ∧ SqL K H' a (bs.map V.bl) ∧ Q (.bl (bs.any id)) H') : tCB (rAny K) (tCons te tNil) σ H Q := h
theorem e_andV {ta tb : TE} {b : Bool} (ha : Val ta σ H (.bl b)) (h1 : b = true → tb σ H Q) (h0 : b = false → Q (.bl false) H) : tAndV ta tb σ H Q := ha _ ⟨b, rfl, by
  cases b with
  | true => exact iteT (h1 rfl)
  | false => exact iteF (h0 rfl)⟩
theorem val_letter {te : TE} {b : Nat} (h : Val te σ H (.int (b : Int))) : Val (tCall (sp_is_letter K) [] E0 (tCons te tNil)) σ H (.bl (Gp27.small b)) := fun _ q => e_fn (va_cons h va_nil) ⟨b, rfl, q⟩
theorem val_digit {te : TE} {b : Nat} (h : Val te σ H (.int (b : Int))) : Val (tCall (sp_is_digit K) [] E0 (tCons te tNil)) σ H (.bl (Gp27.digit b)) := fun _ q => e_fn (va_cons h va_nil) ⟨b, rfl, q⟩
/-- [p(b) for b in word] -/
theorem e_bytes {tl te : TE} {j : Nat} {vs : List Nat} {p : Addr} {w : List Nat} (f : Nat → Bool) (ha : Val tl σ H (.ref p)) (hx : SqL K H p (byV w)) (hz : w.length ≤ 5000) (hw : ∀ v, wipe ((wipe σ vs).set j (some v)) vs = wipe σ vs)
    (he : ∀ (b : Nat) H', Val te ((wipe σ vs).set j (some (.int (b : Int)))) H' (.bl (f b))) (q : ∀ D H', Same H H' → SqL K H' D ((w.map f).map V.bl) → Q (.ref D) H') : tLc (iList K tl) (gName j) tYes te vs σ H Q := by
  refine e_lc w (fun b => V.int (b : Int)) (fun b => V.bl (f b)) (fun _ => true) ha hx (by omega) hw (fun _ _ _ _ => ans_yes) (fun b _ _ H' _ => he b H') fun D H' hD s hd => q D H' s (SqL.of ?_)
  rw [hd, List.filter_eq_self.mpr (fun _ _ => rfl), List.map_map] <;> rfl
end
theorem all_map {w : List Nat} {f : Nat → Bool} : (w.map f).all id = w.all f := by
  rw [List.all_map] <;> rfl
theorem any_map {w : List Nat} {f : Nat → Bool} : (w.map f).any id = w.any f := by
  rw [List.any_map] <;> rfl
/-! ### equality of lists of numbers -/
theorem dp_ints {K : PySem.W.Frag} {H : Hp} : ∀ w : List Nat, DpAll K H (byV w) (w.map fun (n : Nat) => PyData.int (n : Int))
  | [] => .nil
  | n :: r => .cons (.int _) (dp_ints r)
theorem dp_list {K : PySem.W.Frag} {H : Hp} {p : Addr} {w : List Nat} (h : SqL K H p (byV w)) : Dp K H (.ref p) (.list (w.map fun (n : Nat) => PyData.int (n : Int))) := .lst h (dp_ints w)
theorem lay_ints : ∀ w : List Nat, PyData.canLayAll0 (w.map fun (n : Nat) => PyData.int (n : Int)) = true
  | [] => rfl
  | _ :: r => by
    show (true && PyData.canLayAll0 _) = true
    rw [lay_ints r] <;> rfl
theorem depth_ints : ∀ w : List Nat, PyData.depthAll (w.map fun (n : Nat) => PyData.int (n : Int)) = 0
  | [] => rfl
  | _ :: r => by
    show max 0 (PyData.depthAll _) = 0
    rw [depth_ints r] <;> rfl
theorem shaped_ints (w : List Nat) : SeqAt.shaped (.list (w.map fun (n : Nat) => PyData.int (n : Int))) = true := by
  unfold SeqAt.shaped
  rw [Bool.and_eq_true]
  refine ⟨lay_ints w, decide_eq_true ?_⟩
  show PyData.depthAll _ + 1 ≤ 64
  rw [depth_ints]
  decide
theorem eqv_ints : ∀ w z : List Nat, PyData.eqvAll (w.map fun (n : Nat) => PyData.int (n : Int)) (z.map fun (n : Nat) => PyData.int (n : Int)) = decide (w = z)
  | [], [] => rfl
  | [], _ :: _ => rfl
  | _ :: _, [] => rfl
  | a :: w, b :: z => by
    show (((a : Int) == (b : Int)) && PyData.eqvAll _ _) = _
    rw [eqv_ints w z, Bool.eq_iff_iff, Bool.and_eq_true, beq_iff_eq, decide_eq_true_iff, decide_eq_true_iff, List.cons.injEq]
    constructor
    · rintro ⟨h1, h2⟩
      exact ⟨by omega, h2⟩
    · rintro ⟨h1, h2⟩
      exact ⟨by omega, h2⟩
section
variable {P : Program} {w : World} {K : PySem.W.Frag} {mg : Str → Option Value} {base : Heap}
theorem pure_is_letter (T : Txt w K mg) (vs : List V) (H : Hp) (Q : VK) (E : XK) (h : sp_is_letter K vs H Q E) : t_is_letter K { nx := fun _ H' => Q .non H', rt := Q } (start N_is_letter vs) H := by
  obtain ⟨b, rfl, q⟩ := h
  refine st_ret (val_and (val_le (val_to (val_ord (val_c (v := .str "a")) (by decide +kernel)) (show _ = V.int 97 by decide +kernel)) (val_var rfl)) (fun _ => val_le (val_var (v := .int (b : Int)) rfl) (val_to (val_ord (val_c (v := .str "z")) (by decide +kernel)) (show _ = V.int 122 by decide +kernel))) rfl) ?_
  have e : (decide ((97 : Int) ≤ (b : Int)) && decide ((b : Int) ≤ 122)) = Gp27.small b := by
    unfold Gp27.small
    rw [show decide ((97 : Int) ≤ (b : Int)) = decide (97 ≤ b) from decide_eq_decide.mpr (by omega), show decide ((b : Int) ≤ 122) = decide (b ≤ 122) from decide_eq_decide.mpr (by omega)]
  rw [e]
  exact q
theorem pure_is_digit (T : Txt w K mg) (vs : List V) (H : Hp) (Q : VK) (E : XK) (h : sp_is_digit K vs H Q E) : t_is_digit K { nx := fun _ H' => Q .non H', rt := Q } (start N_is_digit vs) H := by
  obtain ⟨b, rfl, q⟩ := h
  refine st_ret (val_and (val_le (val_to (val_ord (val_c (v := .str "0")) (by decide +kernel)) (show _ = V.int 48 by decide +kernel)) (val_var rfl)) (fun _ => val_le (val_var (v := .int (b : Int)) rfl) (val_to (val_ord (val_c (v := .str "9")) (by decide +kernel)) (show _ = V.int 57 by decide +kernel))) rfl) ?_
  have e : (decide ((48 : Int) ≤ (b : Int)) && decide ((b : Int) ≤ 57)) = Gp27.digit b := by
    unfold Gp27.digit
    rw [show decide ((48 : Int) ≤ (b : Int)) = decide (48 ≤ b) from decide_eq_decide.mpr (by omega), show decide ((b : Int) ≤ 57) = decide (b ≤ 57) from decide_eq_decide.mpr (by omega)]
  rw [e]
  exact q
theorem pure_is_name (T : Txt w K mg) (vs : List V) (H : Hp) (Q : VK) (E : XK) (h : sp_is_name K vs H Q E) : t_is_name K { nx := fun _ H' => Q .non H', rt := Q } (start N_is_name vs) H := by
  obtain ⟨p, w, rfl, hx, hne, hl, kk⟩ := h
  cases w with
  | nil => exact absurd rfl hne
  | cons b r =>
    have hb : (byV (b :: r))[0]? = some (.int (b : Int)) := rfl
    refine st_if (b := decide (8 < (b :: r).length) || !Gp27.small b) (ans_or2 (Ans.to (ans_t (val_gt (val_len (val_var rfl) hx) val_c)) (decide_eq_decide.mpr (by unfold byV; rw [List.length_map]; omega))) fun _ => ans_not (ans_b (val_letter (val_ix (n := 0) (val_var rfl) val_c hx rfl hb)))) (fun h => ?_) (fun h => ?_)
    · refine st_ret val_c ?_
      have e : Gp27.isName (b :: r) = false := by
        show (Gp27.small b && (decide (r.length ≤ 7) && _)) = false
        cases hs : Gp27.small b with
        | false => rfl
        | true =>
          rw [hs, Bool.not_true, Bool.or_false, decide_eq_true_iff, List.length_cons] at h
          rw [show decide (r.length ≤ 7) = false from decide_eq_false (by omega)] <;> rfl
      rw [← e]
      exact kk H (Same.refl H)
    · rw [Bool.or_eq_false_iff, decide_eq_false_iff_not, List.length_cons] at h
      have hs : Gp27.small b = true := by simpa using h.2
      refine e_ret (e_all (e_bytes (j := 1) (vs := [1]) (fun b => Gp27.small b || Gp27.digit b) (val_var rfl) hx hl (fun _ => rfl) (fun c H' => by exact val_or (val_letter (val_var rfl)) (fun _ => val_digit (val_var rfl)) rfl) fun D H' s hd => ⟨D, _, rfl, hd, ?_⟩))
      have e : ((b :: r).map fun b => Gp27.small b || Gp27.digit b).all id = Gp27.isName (b :: r) := by
        rw [all_map, List.all_cons]
        show _ = (Gp27.small b && (decide (r.length ≤ 7) && _))
        rw [hs, show decide (r.length ≤ 7) = true from decide_eq_true (by omega)] <;> rfl
      rw [e]
      exact kk H' s
theorem number_some {w : List Nat} (hne : w ≠ []) : (Gp27.number w).isSome = (decide (w.length ≤ 3) && w.all Gp27.digit) := by
  have h0 : w.isEmpty = false := by cases w with
    | nil => exact absurd rfl hne
    | cons _ _ => rfl
  unfold Gp27.number
  rw [h0]
  by_cases h1 : w.length ≤ 3
  · cases h2 : w.all Gp27.digit with
    | true => rw [if_neg (by rintro (z | z | z); exact Bool.false_ne_true z; omega; cases z), decide_eq_true h1] <;> rfl
    | false => rw [if_pos (.inr (.inr rfl)), Bool.and_false] <;> rfl
  · rw [if_pos (.inr (.inl (by omega))), decide_eq_false h1] <;> rfl
theorem pure_is_number (T : Txt w K mg) (vs : List V) (H : Hp) (Q : VK) (E : XK) (h : sp_is_number K vs H Q E) : t_is_number K { nx := fun _ H' => Q .non H', rt := Q } (start N_is_number vs) H := by
  obtain ⟨p, w, rfl, hx, hne, hl, kk⟩ := h
  rw [number_some hne] at kk
  refine e_ret (e_andV (b := decide (w.length ≤ 3)) (val_to (val_le (val_len (val_var rfl) hx) val_c) (congrArg V.bl (decide_eq_decide.mpr (by unfold byV; rw [List.length_map]; omega)))) (fun h => ?_) (fun h => ?_))
  · rw [h] at kk
    refine e_all (e_bytes (j := 1) (vs := [1]) Gp27.digit (val_var rfl) hx hl (fun _ => rfl) (fun c H' => by exact val_digit (val_var rfl)) fun D H' s hd => ⟨D, _, rfl, hd, ?_⟩)
    rw [all_map]
    exact kk H' s
  · rw [h] at kk
    exact kk H (Same.refl H)
theorem pure_has_bad_byte (T : Txt w K mg) (vs : List V) (H : Hp) (Q : VK) (E : XK) (h : sp_has_bad_byte K vs H Q E) : t_has_bad_byte K { nx := fun _ H' => Q .non H', rt := Q } (start N_has_bad_byte vs) H := by
  obtain ⟨p, w, rfl, hx, hl, kk⟩ := h
  refine e_ret (e_any (e_bytes (j := 1) (vs := [1]) (fun b => decide (b < 32) || decide (126 < b)) (val_var rfl) hx hl (fun _ => rfl) (fun b H' => by exact val_or (val_lt (val_var (v := .int (b : Int)) rfl) val_c) (fun _ => val_gt (val_var (v := .int (b : Int)) rfl) val_c) (by
    rw [show decide ((b : Int) < 32) = decide (b < 32) from decide_eq_decide.mpr (by omega), show decide ((126 : Int) < (b : Int)) = decide (126 < b) from decide_eq_decide.mpr (by omega)])) fun D H' s hd => ⟨D, _, rfl, hd, ?_⟩))
  rw [any_map]
  exact kk H' s
theorem pure_number_of (T : Txt w K mg) (vs : List V) (H : Hp) (Q : VK) (E : XK) (h : sp_number_of K vs H Q E) : t_number_of K { nx := fun _ H' => Q .non H', rt := Q } (start N_number_of vs) H := by
  obtain ⟨p, w, n, rfl, hx, hn, kk⟩ := h
  have hd : w.all Gp27.digit = true ∧ n = w.foldl (fun n b => 10 * n + (b - 48)) 0 := by
    unfold Gp27.number at hn
    split at hn
    · cases hn
    · rename_i z
      have hn := Option.some.inj hn
      refine ⟨?_, hn.symm⟩
      cases y : w.all Gp27.digit with
      | true => rfl
      | false => exact absurd (.inr (.inr y)) z
  refine st_set val_c ?_
  refine st_list w (fun b => V.int (b : Int)) (val_var rfl) hx (fun i σ' H' => ∃ y : Option V, σ' = [some (.ref p), some (.int (((w.take i).foldl (fun n b => 10 * n + (b - 48)) 0 : Nat) : Int)), y] ∧ H' = H) ⟨none, rfl, rfl⟩ ?_ ?_ ?_
  · rintro i σ' H' ⟨y, _, rfl⟩
    exact hx
  · rintro i b σ' H' hi ⟨y, rfl, rfl⟩
    have hb : Gp27.digit b = true := List.all_eq_true.mp hd.1 b (List.mem_of_getElem? hi)
    have hb48 : 48 ≤ b := by
      unfold Gp27.digit at hb
      rw [Bool.and_eq_true, decide_eq_true_iff] at hb
      exact hb.1
    refine st_set (val_to (val_sub (val_add (val_mul val_c (val_var rfl) (.inl ⟨by decide, by decide⟩)) (val_var (v := .int (b : Int)) rfl)) (val_to (val_ord (val_c (v := .str "0")) (by decide +kernel)) (show _ = V.int 48 by decide +kernel))) ?_) ⟨_, rfl, rfl⟩
    rw [take_more hi, List.foldl_append]
    show V.int _ = V.int ((10 * _ + (b - 48) : Nat) : Int)
    congr 1
    omega
  · rintro σ' H' ⟨y, rfl, rfl⟩
    rw [List.take_length, ← hd.2]
    exact st_ret (val_var rfl) kk
theorem pure_is_word (T : Txt w K mg) (vs : List V) (H : Hp) (Q : VK) (E : XK) (h : sp_is_word K vs H Q E) : t_is_word K { nx := fun _ H' => Q .non H', rt := Q } (start N_is_word vs) H := by
  obtain ⟨p, w, z, rfl, hx, hz, kk⟩ := h
  refine e_ret (c_op (v_go (v := .ref p) (val_var rfl) (e_lcStr (j := 2) (vs := [2]) (z := z) (fun c => V.int (c : Int)) (val_var rfl) hz (fun _ => rfl) (fun c H' => val_to (val_ord (val_var rfl) rfl) rfl) fun D H' hD s hd => ⟨_, _, dp_list (Same.seq s hx), dp_list (w := z.cps.toList) (SqL.of hd), shaped_ints _, shaped_ints _, ?_⟩)))
  have e : PyData.eqv (.list (w.map fun (n : Nat) => PyData.int (n : Int))) (.list (z.cps.toList.map fun (n : Nat) => PyData.int (n : Int))) = decide (w = z.cps.toList) := eqv_ints _ _
  rw [e]
  exact kk H' s
theorem pure_is_meant (T : Txt w K mg) (vs : List V) (H : Hp) (Q : VK) (E : XK) (h : sp_is_meant K vs H Q E) : t_is_meant K { nx := fun _ H' => Q .non H', rt := Q } (start N_is_meant vs) H := by
  obtain ⟨p, l, rfl, ⟨ps, h1, h2, h3⟩, hne, kk⟩ := h
  refine e_ret (and_c (c_op (val_var (v := .ref p) rfl _ ?_)))
  refine e_lst va_nil rfl fun p1 hp1 => ⟨p, p1, _, rfl, rfl, Same.seq (same_new hp1) (SqL.of h1), SqL.of upd_same, _, rfl, ?_⟩
  have s := same_new (o := .lst []) hp1
  cases l with
  | nil =>
    have e : ps = [] := List.length_eq_zero_iff.mp h2
    subst e
    exact iteF (kk _ s)
  | cons x r =>
    cases ps with
    | nil => cases h2
    | cons q0 qs =>
      refine iteT ?_
      obtain ⟨q, e1, _, e3⟩ := h3 0 x rfl
      cases e1
      cases x with
      | nil => exact absurd rfl (hne [] (List.mem_cons_self ..))
      | cons b r' =>
        refine v_go (val_ne (val_ix (n := 0) (val_ix (n := 0) (val_var (v := .ref p) rfl) val_c (Same.seq s (SqL.of h1)) rfl rfl) val_c (Same.seq s (SqL.of e3)) rfl rfl) val_c) ?_
        have e : (!decide (V.int (b : Int) = V.int 35)) = meant ((b :: r') :: r) := by
          show _ = !(some b == some 35)
          congr 1
          rw [Bool.eq_iff_iff, decide_eq_true_iff, vi_eq, beq_iff_eq, Option.some.injEq]
          omega
        rw [e]
        exact kk _ s
theorem pure_lines_of (T : Txt w K mg) (vs : List V) (H : Hp) (Q : VK) (E : XK) (h : sp_lines_of K vs H Q E) : t_lines_of K { nx := fun _ H' => Q .non H', rt := Q } (start N_lines_of vs) H := by
  obtain ⟨p, b, rfl, hx, hl, kk⟩ := h
  refine e_asg (e_lst va_nil rfl fun D hD => e_asg (e_lst va_nil rfl fun L hL => ?_))
  have ne : D ≠ L := fun e => by rw [← e, upd_same] at hL; cases hL
  have hL0 : H L = none := by rw [upd_ne ne.symm] at hL; exact hL
  have s0 : Same H (upd (upd H D (.lst [])) L (.lst [])) := same_upd (same_new hD) hL0
  have l0 : ListsE (upd (upd H D (.lst [])) L (.lst [])) D L [] := ⟨[], by rw [upd_ne ne, upd_same] <;> rfl, rfl, fun i l h => by cases h⟩
  have c0 : upd (upd H D (.lst [])) L (.lst []) L = some (.lst (byV [])) := upd_same
  generalize upd (upd H D (.lst [])) L (.lst []) = H0 at s0 l0 c0
  refine st_list b (fun b => V.int (b : Int)) (val_var rfl) (Same.seq s0 hx) (fun i σ' H' => ∃ (L : Addr) (y : Option V), σ' = [some (.ref p), some (.ref D), some (.ref L), y] ∧ Same H H' ∧ D ≠ L ∧ H L = none ∧ ListsE H' D L ((b.take i).foldl lstep ([], [])).1 ∧ H' L = some (.lst (byV ((b.take i).foldl lstep ([], [])).2))) ⟨L, none, rfl, s0, ne, hL0, l0, c0⟩ ?_ ?_ ?_
  · rintro i σ' H' ⟨_, y, _, s, _⟩
    exact Same.seq s hx
  · rintro i x σ' H' hi ⟨L, y, rfl, s, ne, hL0, hE, hc⟩
    have hlen := lfold_len (b.take i) ([], [])
    have hti : (b.take i).length ≤ 5000 := by rw [List.length_take]; omega
    have h00 : ([] : List (List Nat)).length = 0 := rfl
    have h01 : ([] : List Nat).length = 0 := rfl
    simp only [h00, h01] at hlen
    have ef : (b.take (i + 1)).foldl lstep ([], []) = lstep ((b.take i).foldl lstep ([], [])) x := by rw [take_more hi, List.foldl_append] <;> rfl
    rw [ef]
    generalize (b.take i).foldl lstep ([], []) = st at hE hc hlen
    refine st_ifd (p := x = 10) (Ans.to (ans_t (val_eq (val_var (v := .int (x : Int)) rfl) val_c)) (decide_eq_decide.mpr (by rw [vi_eq]; omega))) (fun e => ?_) (fun e => ?_)
    · have e1 : lstep st x = (st.1 ++ [st.2], []) := if_pos e
      rw [e1]
      obtain ⟨ps, q1, q2, q3⟩ := le_flush hE hc ne
      refine st_app (val_var (v := .ref D) rfl) (val_var (v := .ref L) rfl) q1 (Nat.lt_of_le_of_lt (show _ ≤ 5000 by rw [List.length_map, q2]; omega) (by decide)) (e_asg (e_lst va_nil rfl fun p3 hp3 => ⟨p3, _, rfl, ?_, ?_, ?_, q3 p3 hp3, upd_same⟩))
      · exact same_upd (same_upd s hD) (by
          have nD : p3 ≠ D := fun z => by rw [z, upd_same] at hp3; cases hp3
          rw [upd_ne nD] at hp3
          cases z : H p3 with
          | none => rfl
          | some o => rw [s _ _ z] at hp3; cases hp3)
      · intro z
        rw [← z, upd_same] at hp3
        cases hp3
      · have nD : p3 ≠ D := fun z => by rw [z, upd_same] at hp3; cases hp3
        rw [upd_ne nD] at hp3
        cases z : H p3 with
        | none => rfl
        | some o => rw [s _ _ z] at hp3; cases hp3
    · have e1 : lstep st x = (st.1, st.2 ++ [x]) := if_neg e
      rw [e1]
      refine st_app (val_var (v := .ref L) rfl) (val_var (v := .int (x : Int)) rfl) hc (Nat.lt_of_le_of_lt (show _ ≤ 5000 by unfold byV; rw [List.length_map]; omega) (by decide)) ⟨L, _, rfl, same_upd s hL0, ne, hL0, le_add hE ne _, ?_⟩
      rw [upd_same]
      unfold byV
      rw [List.map_append] <;> rfl
  · rintro σ' H' ⟨L, y, rfl, s, ne, hL0, hE, hc⟩
    rw [List.take_length] at hE hc
    have fin := lines_fold b [] []
    rw [List.nil_append] at fin
    have hlen := (lfold_len b ([], [])).1
    have h00 : ([] : List (List Nat)).length = 0 := rfl
    simp only [h00] at hlen
    generalize b.foldl lstep ([], []) = st at hE hc fin hlen
    refine e_ret (if_c (t_neE (i := 2) (p := L) rfl (SqL.of hc) fun H2 s2 => ?_))
    have sH2 : Same H H2 := trS s s2
    by_cases e : st.2 = []
    · rw [if_pos e] at fin
      rw [e]
      refine iteF (val_var (v := .ref D) rfl _ (kk D H2 hD sH2 ?_))
      rw [← fin]
      obtain ⟨ps, h1, h2, h3⟩ := hE.at
      exact ⟨ps, s2 _ _ h1, h2, fun i l hl => by
        obtain ⟨p, e1, e2, e3⟩ := h3 i l hl
        exact ⟨p, e1, e2, s2 _ _ e3⟩⟩
    · rw [if_neg e] at fin
      have e2 : (byV st.2).isEmpty = false := by
        cases z : st.2 with
        | nil => exact absurd z e
        | cons _ _ => rfl
      rw [e2]
      refine iteT ?_
      obtain ⟨ps, h1, h2, h3⟩ := hE
      refine c_op (val_var (v := .ref D) rfl _ (e_lst (va_cons (val_var (v := .ref L) rfl) va_nil) rfl fun p3 hp3 => ⟨D, p3, _, _, rfl, rfl, same_new hp3 _ _ (s2 _ _ h1), upd_same, ?_, fun d hd => ?_⟩))
      · rw [List.length_map, h2]
        exact Nat.le_trans (show st.1.length + 1 ≤ 6000 by omega) (by decide)
      · have s3 : Same H' (upd H2 p3 (.lst [V.ref L])) := trS s2 (same_new hp3)
        have hdH : H d = none := by
          cases z : H d with
          | none => rfl
          | some o => rw [s3 _ _ (s _ _ z)] at hd; cases hd
        refine kk d _ hdH (same_upd (trS s s3) hdH) ?_
        rw [← fin]
        have fr : ∀ q o, H' q = some o → q ≠ d := fun q o h z => by rw [z] at h; rw [s3 _ _ h] at hd; cases hd
        refine ⟨ps ++ [L], by rw [upd_same, List.map_append] <;> rfl, by rw [List.length_append, List.length_append, h2] <;> rfl, app_all (P := fun q => q ≠ d) h2 (fun i l hl => ?_) (fr _ _ hc) (by rw [upd_ne (fr _ _ hc)]; exact s3 _ _ hc)⟩
        obtain ⟨q, e1, _, _, e4⟩ := h3 i l hl
        exact ⟨q, e1, fr _ _ e4, by rw [upd_ne (fr _ _ e4)]; exact s3 _ _ e4⟩
theorem pure_words_of (T : Txt w K mg) (vs : List V) (H : Hp) (Q : VK) (E : XK) (h : sp_words_of K vs H Q E) : t_words_of K { nx := fun _ H' => Q .non H', rt := Q } (start N_words_of vs) H := by
  obtain ⟨p, b, rfl, hx, hl, kk⟩ := h
  refine e_asg (e_lst va_nil rfl fun D hD => e_asg (e_lst va_nil rfl fun L hL => ?_))
  have ne : D ≠ L := fun e => by rw [← e, upd_same] at hL; cases hL
  have hL0 : H L = none := by rw [upd_ne ne.symm] at hL; exact hL
  have s0 : Same H (upd (upd H D (.lst [])) L (.lst [])) := same_upd (same_new hD) hL0
  have l0 : ListsE (upd (upd H D (.lst [])) L (.lst [])) D L [] := ⟨[], by rw [upd_ne ne, upd_same] <;> rfl, rfl, fun i l h => by cases h⟩
  have c0 : upd (upd H D (.lst [])) L (.lst []) L = some (.lst (byV [])) := upd_same
  generalize upd (upd H D (.lst [])) L (.lst []) = H0 at s0 l0 c0
  refine for_c (c_op (val_var (v := .ref p) rfl _ (e_lst (va_cons val_c va_nil) rfl fun p2 hp2 => ⟨p, p2, _, _, rfl, rfl, same_new hp2 _ _ (s0 _ _ hx), upd_same, ?_, fun S hS => ?_⟩)))
  · unfold byV
    rw [List.length_map]
    exact Nat.le_trans (show b.length + 1 ≤ 6000 by omega) (by decide)
  have s1 : Same H0 (upd (upd H0 p2 (.lst [V.int 32])) S (.lst (byV b ++ [V.int 32]))) := trS (same_new hp2) (same_new hS)
  have hb32 : upd (upd H0 p2 (.lst [V.int 32])) S (.lst (byV b ++ [V.int 32])) S = some (.lst (byV (b ++ [32]))) := by
    rw [upd_same]
    unfold byV
    rw [List.map_append] <;> rfl
  have hSH : H S = none := by
    cases z : H S with
    | none => rfl
    | some o => rw [same_new hp2 _ _ (s0 _ _ z)] at hS; cases hS
  have hSD : S ≠ D := fun z => by
    obtain ⟨ps, h1, _⟩ := l0
    rw [z, same_new hp2 _ _ h1] at hS
    cases hS
  have hSL : S ≠ L := fun z => by
    rw [z, same_new hp2 _ _ c0] at hS
    cases hS
  have l1 : ListsE (upd (upd H0 p2 (.lst [V.int 32])) S (.lst (byV b ++ [V.int 32]))) D L [] := by
    obtain ⟨ps, h1, h2, h3⟩ := l0
    exact ⟨ps, s1 _ _ h1, h2, fun i l h => by cases h⟩
  have c1 := s1 _ _ c0
  generalize upd (upd H0 p2 (.lst [V.int 32])) S (.lst (byV b ++ [V.int 32])) = H1 at s1 hb32 l1 c1
  refine st_list (α := Nat) (b ++ [32]) (fun (b : Nat) => V.int (b : Int)) val_c (SqL.of hb32) (fun i σ' H' => ∃ (L : Addr) (y : Option V), σ' = [some (.ref p), some (.ref D), some (.ref L), y] ∧ Same H H' ∧ H' S = some (.lst (byV (b ++ [32]))) ∧ S ≠ L ∧ D ≠ L ∧ H L = none ∧ ListsE H' D L (((b ++ [32]).take i).foldl wstep ([], [])).1 ∧ H' L = some (.lst (byV (((b ++ [32]).take i).foldl wstep ([], [])).2))) ⟨L, none, rfl, trS s0 s1, hb32, hSL, ne, hL0, l1, c1⟩ ?_ ?_ ?_
  · rintro i σ' H' ⟨_, y, _, _, h, _⟩
    exact SqL.of h
  · rintro i x σ' H' hi ⟨L, y, rfl, s, hS', nSL, ne, hL0, hE, hc⟩
    have hlen := wfold_len ((b ++ [32]).take i) ([], [])
    have hti : ((b ++ [32]).take i).length ≤ 5001 := by
      rw [List.length_take, List.length_append]
      have : [32].length = 1 := rfl
      omega
    have h00 : ([] : List (List Nat)).length = 0 := rfl
    have h01 : ([] : List Nat).length = 0 := rfl
    simp only [h00, h01] at hlen
    have ef : ((b ++ [32]).take (i + 1)).foldl wstep ([], []) = wstep (((b ++ [32]).take i).foldl wstep ([], [])) x := by rw [take_more hi, List.foldl_append] <;> rfl
    rw [ef]
    generalize ((b ++ [32]).take i).foldl wstep ([], []) = st at hE hc hlen
    refine st_ifd (p := x ≠ 32) (Ans.to (ans_t (val_ne (val_var (v := .int (x : Int)) rfl) val_c)) (by
      rw [Bool.eq_iff_iff, Bool.not_eq_true', decide_eq_false_iff_not, decide_eq_true_iff, vi_eq]; omega)) (fun e => ?_) (fun e => ?_)
    · have e1 : wstep st x = (st.1, st.2 ++ [x]) := if_pos e
      rw [e1]
      refine st_app (val_var (v := .ref L) rfl) (val_var (v := .int (x : Int)) rfl) hc (Nat.lt_of_le_of_lt (show _ ≤ 6000 by unfold byV; rw [List.length_map]; omega) (by decide)) ⟨L, _, rfl, same_upd s hL0, by rw [upd_ne nSL]; exact hS', nSL, ne, hL0, le_add hE ne _, ?_⟩
      rw [upd_same]
      unfold byV
      rw [List.map_append] <;> rfl
    · refine t_neE (i := 2) (p := L) rfl (SqL.of hc) fun H2 s2 => ?_
      have hE2 : ListsE H2 D L st.1 := by
        obtain ⟨ps, h1, h2, h3⟩ := hE
        exact ⟨ps, s2 _ _ h1, h2, fun i l hl => by
          obtain ⟨p, e1, e2, e3, e4⟩ := h3 i l hl
          exact ⟨p, e1, e2, e3, s2 _ _ e4⟩⟩
      have hc2 := s2 _ _ hc
      have hS2 := s2 _ _ hS'
      have sH2 : Same H H2 := trS s s2
      by_cases ec : st.2 = []
      · have e1 : wstep st x = st := by
          unfold wstep
          rw [if_neg e, if_pos ec]
        rw [e1]
        have z : (byV st.2).isEmpty = true := by rw [ec] <;> rfl
        rw [z]
        exact iteF ⟨L, _, rfl, sH2, hS2, nSL, ne, hL0, hE2, hc2⟩
      · have e1 : wstep st x = (st.1 ++ [st.2], []) := by
          unfold wstep
          rw [if_neg e, if_neg ec]
        rw [e1]
        have z : (byV st.2).isEmpty = false := by
          cases z : st.2 with
          | nil => exact absurd z ec
          | cons _ _ => rfl
        rw [z]
        refine iteT ?_
        obtain ⟨ps, q1, q2, q3⟩ := le_flush hE2 hc2 ne
        refine st_app (val_var (v := .ref D) rfl) (val_var (v := .ref L) rfl) q1 (Nat.lt_of_le_of_lt (show _ ≤ 6000 by rw [List.length_map, q2]; omega) (by decide)) (e_asg (e_lst va_nil rfl fun p3 hp3 => ?_))
        have nD : p3 ≠ D := fun z => by rw [z, upd_same] at hp3; cases hp3
        have hp3' := hp3
        rw [upd_ne nD] at hp3'
        have hp0 : H p3 = none := by
          cases z : H p3 with
          | none => rfl
          | some o => rw [sH2 _ _ z] at hp3'; cases hp3'
        have np3 : S ≠ p3 := fun z => by rw [← z, hS2] at hp3'; cases hp3'
        exact ⟨p3, _, rfl, same_upd (same_upd sH2 hD) hp0, by rw [upd_ne np3, upd_ne hSD]; exact hS2, np3, nD.symm, hp0, q3 p3 hp3, upd_same⟩
  · rintro σ' H' ⟨L, y, rfl, s, _, _, ne, hL0, hE, hc⟩
    rw [List.take_length] at hE
    have fin := words_fold b [] []
    rw [List.nil_append] at fin
    rw [fin] at hE
    exact st_ret (val_var rfl) (kk D H' hD s hE.at)
theorem ok_lines_of (T : Txt w K mg) : Has P w K mg base 1 (He.fAd K ("lines_of", none)) ["source"] (sp_lines_of K) := by
  refine Has.of (T.d_lines_of) sc_lines_of (fun _ _ _ _ _ _ us hl => match us, hl with | [_], _ => rfl) len_lines_of (t_lines_of K) (fun cdv A outer s H E hr => ?_) (pure_lines_of T)
  have nd := sc_lines_of.nd
  exact (pss_cons (ps_set (i := 1) nd rfl (Or.inl rfl) (pe_lst pa_nil))
      (pss_cons (ps_set (i := 2) nd rfl (Or.inl rfl) (pe_lst pa_nil))
      (pss_cons (ps_for PassesOwn.never rfl (pi_list (pw 0)) (pg_name (i := 3) nd rfl (Or.inl rfl)) (pss_one (ps_if (pt_cmpR op_eq (pw 3) (pe_gi rfl T.i_LINE_END) (nomark _)) (pss_cons (ps_expr (pe_bm PySem.F.plainAttrs_list PySem.F.slot_list_append PySem.F.type_list_append mt_append (pw 1) (pa_cons (pw 2) pa_nil)))
      (pss_one (ps_set (i := 2) nd rfl (Or.inl rfl) (pe_lst pa_nil)))) (pss_one (ps_expr (pe_bm PySem.F.plainAttrs_list PySem.F.slot_list_append PySem.F.type_list_append mt_append (pw 2) (pa_cons (pw 3) pa_nil)))))))
      (pss_one (ps_ret (pe_ifExp (pt_cmpR (op_neE hr.units) (pw 2) (pe_lst pa_nil) (nomark _)) (pe_op op_cat (pw 1) (pe_lst (pa_cons (pw 2) pa_nil))) (pw 1)))))))
theorem ok_words_of (T : Txt w K mg) : Has P w K mg base 1 (He.fAd K ("words_of", none)) ["line"] (sp_words_of K) := by
  refine Has.of (T.d_words_of) sc_words_of (fun _ _ _ _ _ _ us hl => match us, hl with | [_], _ => rfl) len_words_of (t_words_of K) (fun cdv A outer s H E hr => ?_) (pure_words_of T)
  have nd := sc_words_of.nd
  exact (pss_cons (ps_set (i := 1) nd rfl (Or.inl rfl) (pe_lst pa_nil))
      (pss_cons (ps_set (i := 2) nd rfl (Or.inl rfl) (pe_lst pa_nil))
      (pss_cons (ps_for PassesOwn.never rfl (pi_list (pe_op op_cat (pw 0) (pe_lst (pa_cons (pe_gi rfl T.i_SPACE) pa_nil)))) (pg_name (i := 3) nd rfl (Or.inl rfl)) (pss_one (ps_if (pt_cmpR op_ne (pw 3) (pe_gi rfl T.i_SPACE) (nomark _)) (pss_one (ps_expr (pe_bm PySem.F.plainAttrs_list PySem.F.slot_list_append PySem.F.type_list_append mt_append (pw 2) (pa_cons (pw 3) pa_nil)))) (pss_one (ps_if (pt_cmpR (op_neE hr.units) (pw 2) (pe_lst pa_nil) (nomark _)) (pss_cons (ps_expr (pe_bm PySem.F.plainAttrs_list PySem.F.slot_list_append PySem.F.type_list_append mt_append (pw 1) (pa_cons (pw 2) pa_nil)))
      (pss_one (ps_set (i := 2) nd rfl (Or.inl rfl) (pe_lst pa_nil)))) pss_nil)))))
      (pss_one (ps_ret (pw 1))))))
theorem ok_is_meant (T : Txt w K mg) : Has P w K mg base 1 (He.fAd K ("is_meant", none)) ["words"] (sp_is_meant K) := by
  refine Has.of (T.d_is_meant) sc_is_meant (fun _ _ _ _ _ _ us hl => match us, hl with | [_], _ => rfl) len_is_meant (t_is_meant K) (fun cdv A outer s H E hr => ?_) (pure_is_meant T)
  have nd := sc_is_meant.nd
  exact (pss_one (ps_ret (pe_and (pe_cmpR (op_neE hr.units) (pw 0) (pe_lst pa_nil) (nomark _)) (pe_one (pe_cmpR op_ne (pe_ix ix_list (pe_ix ix_list (pw 0) pe_int (fun _ _ => rfl)) pe_int (fun _ _ => rfl)) (pe_gi rfl T.i_HASH) (nomark _))))))
theorem ok_has_bad_byte (T : Txt w K mg) : Has P w K mg base 1 (He.fAd K ("has_bad_byte", none)) ["line"] (sp_has_bad_byte K) := by
  refine Has.of (T.d_has_bad_byte) sc_has_bad_byte (fun _ _ _ _ _ _ us hl => match us, hl with | [_], _ => rfl) len_has_bad_byte (t_has_bad_byte K) (fun cdv A outer s H E hr => ?_) (pure_has_bad_byte T)
  have nd := sc_has_bad_byte.nd
  exact (pss_one (ps_ret (pe_callB (cr_any rfl) (by rfl) T.b_any (by decide +kernel) (pa_cons (pe_lc (own := [("byte", 1)]) (by rfl) nd (pi_list (pw 0)) (blkOk_by (own := [("byte", 1)]) (N := N_has_bad_byte) (sc := defScope s_has_bad_byte) (by decide +kernel)) (fun _ _ _ _ _ => (pg_name (i := 1) nd rfl (Or.inl rfl))) (fun _ _ _ _ _ => pts_nil) (fun _ _ _ _ _ => (pe_or (pe_cmpR op_lt (pw 1) (pe_gi rfl T.i_LEAST_BYTE) (nomark _)) (pe_one (pe_cmpR op_gt (pw 1) (pe_gi rfl T.i_MOST_BYTE) (nomark _)))))) pa_nil))))
theorem ok_is_word (T : Txt w K mg) : Has P w K mg base 1 (He.fAd K ("is_word", none)) ["word", "text"] (sp_is_word K) := by
  refine Has.of (T.d_is_word) sc_is_word (fun _ _ _ _ _ _ us hl => match us, hl with | [_, _], _ => rfl) len_is_word (t_is_word K) (fun cdv A outer s H E hr => ?_) (pure_is_word T)
  have nd := sc_is_word.nd
  exact (pss_one (ps_ret (pe_cmpR (op_eqD hr.units) (pw 0) (pe_lc (own := [("sign", 2)]) (by rfl) nd (pi_str (pw 1)) (blkOk_by (own := [("sign", 2)]) (N := N_is_word) (sc := defScope s_is_word) (by decide +kernel)) (fun _ _ _ _ _ => (pg_name (i := 2) nd rfl (Or.inl rfl))) (fun _ _ _ _ _ => pts_nil) (fun _ _ _ _ _ => (pe_callB call_ord (by rfl) T.b_ord (by decide +kernel) (pa_cons (pw 2) pa_nil)))) (nomark _))))
theorem ok_is_letter (T : Txt w K mg) : Has P w K mg base 1 (He.fAd K ("is_letter", none)) ["byte"] (sp_is_letter K) := by
  refine Has.of (T.d_is_letter) sc_is_letter (fun _ _ _ _ _ _ us hl => match us, hl with | [_], _ => rfl) len_is_letter (t_is_letter K) (fun cdv A outer s H E hr => ?_) (pure_is_letter T)
  have nd := sc_is_letter.nd
  exact (pss_one (ps_ret (pe_and (pe_cmpR op_le (pe_callB call_ord (by rfl) T.b_ord (by decide +kernel) (pa_cons pe_str pa_nil)) (pw 0) (nomark _)) (pe_one (pe_cmpR op_le (pw 0) (pe_callB call_ord (by rfl) T.b_ord (by decide +kernel) (pa_cons pe_str pa_nil)) (nomark _))))))
theorem ok_is_digit (T : Txt w K mg) : Has P w K mg base 1 (He.fAd K ("is_digit", none)) ["byte"] (sp_is_digit K) := by
  refine Has.of (T.d_is_digit) sc_is_digit (fun _ _ _ _ _ _ us hl => match us, hl with | [_], _ => rfl) len_is_digit (t_is_digit K) (fun cdv A outer s H E hr => ?_) (pure_is_digit T)
  have nd := sc_is_digit.nd
  exact (pss_one (ps_ret (pe_and (pe_cmpR op_le (pe_callB call_ord (by rfl) T.b_ord (by decide +kernel) (pa_cons pe_str pa_nil)) (pw 0) (nomark _)) (pe_one (pe_cmpR op_le (pw 0) (pe_callB call_ord (by rfl) T.b_ord (by decide +kernel) (pa_cons pe_str pa_nil)) (nomark _))))))
theorem ok_is_name (T : Txt w K mg) : Has P w K mg base 2 (He.fAd K ("is_name", none)) ["word"] (sp_is_name K) := by
  have G_is_letter := ok_is_letter (P := P) (base := base) T
  have G_is_digit := ok_is_digit (P := P) (base := base) T
  refine Has.of (T.d_is_name) sc_is_name (fun _ _ _ _ _ _ us hl => match us, hl with | [_], _ => rfl) len_is_name (t_is_name K) (fun cdv A outer s H E hr => ?_) (pure_is_name T)
  have nd := sc_is_name.nd
  exact (pss_cons (ps_if (PW.pt (pw_or (pt_cmpR op_gt (pe_callB call_len_seq (by rfl) T.b_len PySem.boot_len (pa_cons (pw 0) pa_nil)) (pe_gi rfl T.i_MOST_NAME) (nomark _)) (pw_or1 (pt_not (pt_val (pe_fn G_is_letter (hr.mono (by decide)) rfl T.g_is_letter (pa_cons (pe_ix ix_list (pw 0) pe_int (fun _ _ => rfl)) pa_nil))))))) (pss_one (ps_ret pe_bl)) pss_nil)
      (pss_one (ps_ret (pe_callB (cr_all rfl) (by rfl) T.b_all (by decide +kernel) (pa_cons (pe_lc (own := [("byte", 1)]) (by rfl) nd (pi_list (pw 0)) (blkOk_by (own := [("byte", 1)]) (N := N_is_name) (sc := defScope s_is_name) (by decide +kernel)) (fun _ _ _ _ _ => (pg_name (i := 1) nd rfl (Or.inl rfl))) (fun _ _ _ _ _ => pts_nil) (fun _ _ _ _ _ => (pe_or (pe_fn G_is_letter (hr.mono (by decide)) rfl T.g_is_letter (pa_cons (pw 1) pa_nil)) (pe_one (pe_fn G_is_digit (hr.mono (by decide)) rfl T.g_is_digit (pa_cons (pw 1) pa_nil)))))) pa_nil)))))
theorem ok_is_number (T : Txt w K mg) : Has P w K mg base 2 (He.fAd K ("is_number", none)) ["word"] (sp_is_number K) := by
  have G_is_digit := ok_is_digit (P := P) (base := base) T
  refine Has.of (T.d_is_number) sc_is_number (fun _ _ _ _ _ _ us hl => match us, hl with | [_], _ => rfl) len_is_number (t_is_number K) (fun cdv A outer s H E hr => ?_) (pure_is_number T)
  have nd := sc_is_number.nd
  exact (pss_one (ps_ret (pe_and (pe_cmpR op_le (pe_callB call_len_seq (by rfl) T.b_len PySem.boot_len (pa_cons (pw 0) pa_nil)) (pe_gi rfl T.i_MOST_DIGITS) (nomark _)) (pe_one (pe_callB (cr_all rfl) (by rfl) T.b_all (by decide +kernel) (pa_cons (pe_lc (own := [("byte", 1)]) (by rfl) nd (pi_list (pw 0)) (blkOk_by (own := [("byte", 1)]) (N := N_is_number) (sc := defScope s_is_number) (by decide +kernel)) (fun _ _ _ _ _ => (pg_name (i := 1) nd rfl (Or.inl rfl))) (fun _ _ _ _ _ => pts_nil) (fun _ _ _ _ _ => (pe_fn G_is_digit (hr.mono (by decide)) rfl T.g_is_digit (pa_cons (pw 1) pa_nil)))) pa_nil))))))
theorem ok_number_of (T : Txt w K mg) : Has P w K mg base 1 (He.fAd K ("number_of", none)) ["word"] (sp_number_of K) := by
  refine Has.of (T.d_number_of) sc_number_of (fun _ _ _ _ _ _ us hl => match us, hl with | [_], _ => rfl) len_number_of (t_number_of K) (fun cdv A outer s H E hr => ?_) (pure_number_of T)
  have nd := sc_number_of.nd
  exact (pss_cons (ps_set (i := 1) nd rfl (Or.inl rfl) pe_int)
      (pss_cons (ps_for PassesOwn.never rfl (pi_list (pw 0)) (pg_name (i := 2) nd rfl (Or.inl rfl)) (pss_one (ps_set (i := 1) nd rfl (Or.inl rfl) (pe_op op_sub (pe_op op_add (pe_op op_mul pe_int (pw 1)) (pw 2)) (pe_callB call_ord (by rfl) T.b_ord (by decide +kernel) (pa_cons pe_str pa_nil))))))
      (pss_one (ps_ret (pw 1)))))
end
end Cc
end

/-! ## W7 -/
section
set_option maxRecDepth 100000
/-! The directives of a text on a house, and what they keep. Plain Lean. -/
namespace Cw
open Gp27
/-- a house as a text makes it -/
structure TOk (h : House) : Prop where
  ok : HouseOk h
  ns : ∀ s ∈ h.services, s.name ≠ []
  ne : ∀ e ∈ h.entries, e.name ≠ []
def doService (h : House) (n : List Nat) (x y : Nat) : Nat × House := if (serviceNamed h n).isSome = true then (5, h) else if x = 0 ∨ 9 < x ∨ 20 < y then (7, h) else if 8 ≤ h.services.length then (8, h) else (0, { h with services := h.services ++ [⟨n, x, y, []⟩] })
def doWork (h : House) (n : List Nat) (x : Nat) : Nat × House := match serviceNamed h n with
  | none => (6, h)
  | some i => if x = 0 ∨ 50 < x then (7, h) else if 5 ≤ (stepsOf h i).length then (8, h) else (0, addStep h i (.work x))
def doAsk (h : House) (n d : List Nat) (x y z : Nat) : Nat × House := match serviceNamed h n, serviceNamed h d with
  | some i, some j => if i ≤ j ∨ x = 0 ∨ 200 < x ∨ y = 0 ∨ 4 < y ∨ 20 < z then (7, h) else if 5 ≤ (stepsOf h i).length ∨ 12 ≤ h.asks.length then (8, h) else (0, { addStep h i (.ask h.asks.length) with asks := h.asks ++ [⟨j, x, y, z, false, 0, 0, 0⟩] })
  | _, _ => (6, h)
/-- the call in a service's last step; why not -/
def lastOf (h : House) (n : List Nat) : Nat × Nat := match serviceNamed h n with
  | none => (6, 0)
  | some i => match lastAsk h i with
    | none => (4, 0)
    | some j => (0, j)
def doMay (h : House) (n : List Nat) : Nat × House := if (lastOf h n).1 = 0 then (0, changeAsk h (lastOf h n).2 fun a => { a with may := true }) else ((lastOf h n).1, h)
def doBudget (h : House) (n : List Nat) (x : Nat) : Nat × House := if (lastOf h n).1 = 0 then (if x = 0 ∨ 20 < x then (7, h) else (0, changeAsk h (lastOf h n).2 fun a => { a with cost := x })) else ((lastOf h n).1, h)
def doBreaker (h : House) (n : List Nat) (x y : Nat) : Nat × House := if (lastOf h n).1 = 0 then (if x = 0 ∨ 20 < x ∨ y = 0 ∨ 100 < y then (7, h) else (0, changeAsk h (lastOf h n).2 fun a => { a with fails := x, open_ := y })) else ((lastOf h n).1, h)
def doEntry (h : House) (n s : List Nat) (x : Nat) : Nat × House := if (h.entries.any fun e => e.name == n) = true then (5, h) else match serviceNamed h s with
  | none => (6, h)
  | some i => if x = 0 ∨ 200 < x then (7, h) else if 4 ≤ h.entries.length then (8, h) else (0, { h with entries := h.entries ++ [⟨n, i, x⟩] })
theorem addStep_at {h : House} {i j : Nat} {s : Step} : (addStep h i s).services[j]? = (h.services[j]?).map fun x => if j = i then { x with steps := x.steps ++ [s] } else x := by
  unfold addStep
  rw [List.getElem?_map, List.getElem?_zipIdx]
  cases h.services[j]? with
  | none => rfl
  | some x => simp
theorem addStep_len {h : House} {i : Nat} {s : Step} : (addStep h i s).services.length = h.services.length := by
  unfold addStep
  rw [List.length_map, List.length_zipIdx]
theorem changeAsk_at {h : House} {i j : Nat} {f : Ask → Ask} : (changeAsk h i f).asks[j]? = (h.asks[j]?).map fun x => if j = i then f x else x := by
  unfold changeAsk
  rw [List.getElem?_map, List.getElem?_zipIdx]
  cases h.asks[j]? with
  | none => rfl
  | some x => simp
theorem changeAsk_len {h : House} {i : Nat} {f : Ask → Ask} : (changeAsk h i f).asks.length = h.asks.length := by
  unfold changeAsk
  rw [List.length_map, List.length_zipIdx]
theorem named_lt {h : House} {n : List Nat} {i : Nat} (e : serviceNamed h n = some i) : i < h.services.length := by
  unfold serviceNamed at e
  exact (List.findIdx?_eq_some_iff_getElem.mp e).1
theorem stepsOf_eq {h : House} {i : Nat} : stepsOf h i = (svc h i).steps := by
  unfold stepsOf svc
  rw [List.getD_eq_getElem?_getD]
  cases h.services[i]? <;> rfl
theorem mem_at {α : Type} {l : List α} {x : α} (h : x ∈ l) : ∃ i : Nat, l[i]? = some x := by
  obtain ⟨i, hi, e⟩ := List.mem_iff_getElem.mp h
  exact ⟨i, by rw [List.getElem?_eq_getElem hi, e]⟩
theorem TOk.service {h : House} (T : TOk h) {n : List Nat} {x y : Nat} (hn : n ≠ []) (hl : h.services.length < 8) : TOk { h with services := h.services ++ [⟨n, x, y, []⟩] } := by
  have M : ∀ s ∈ h.services ++ [(⟨n, x, y, []⟩ : Service)], s ∈ h.services ∨ s = ⟨n, x, y, []⟩ := fun s hs => by
    rcases List.mem_append.mp hs with z | z
    · exact .inl z
    · exact .inr (List.mem_singleton.mp z)
  have L : (h.services ++ [(⟨n, x, y, []⟩ : Service)]).length = h.services.length + 1 := by rw [List.length_append] <;> rfl
  refine ⟨⟨by show (h.services ++ [(⟨n, x, y, []⟩ : Service)]).length ≤ 8; omega, T.ok.na, T.ok.ne, fun s hs => ?_, fun s hs k hk => ?_, fun s hs i hi => ?_, fun a ha => by show a.whom < (h.services ++ [(⟨n, x, y, []⟩ : Service)]).length; have := T.ok.tg a ha; omega, fun e he => by show e.service < (h.services ++ [(⟨n, x, y, []⟩ : Service)]).length; have := T.ok.en e he; omega⟩, fun s hs => ?_, T.ne⟩
  · rcases M s hs with z | z
    · exact T.ok.nst s z
    · rw [z]; exact Nat.zero_le _
  · rcases M s hs with z | z
    · exact T.ok.wk s z k hk
    · rw [z] at hk; cases hk
  · rcases M s hs with z | z
    · exact T.ok.ak s z i hi
    · rw [z] at hi; cases hi
  · rcases M s hs with z | z
    · exact T.ns s z
    · rw [z]; exact hn
theorem TOk.step {h : House} (T : TOk h) {i : Nat} {st : Step} {as : List Ask} (ha : ∃ l, as = h.asks ++ l) (hna : as.length ≤ 12) (ht : ∀ a ∈ as, a.whom < h.services.length) (hl : (stepsOf h i).length < 5) (hw : ∀ n, st = .work n → 1 ≤ n ∧ n ≤ 50) (hk : ∀ k, st = .ask k → k < as.length) : TOk { addStep h i st with asks := as } := by
  obtain ⟨l, rfl⟩ := ha
  have M : ∀ s ∈ (addStep h i st).services, s ∈ h.services ∨ ∃ s0 ∈ h.services, (stepsOf h i) = s0.steps ∧ s = { s0 with steps := s0.steps ++ [st] } := fun s hs => by
    obtain ⟨j, hj⟩ := mem_at hs
    rw [addStep_at] at hj
    cases e : h.services[j]? with
    | none => rw [e] at hj; cases hj
    | some s0 =>
      rw [e] at hj
      have hj := Option.some.inj hj
      dsimp only at hj
      by_cases ej : j = i
      · rw [if_pos ej] at hj
        refine .inr ⟨s0, List.mem_of_getElem? e, ?_, hj.symm⟩
        unfold stepsOf
        rw [← ej, e] <;> rfl
      · rw [if_neg ej] at hj
        rw [← hj]
        exact .inl (List.mem_of_getElem? e)
  have la : (h.asks ++ l).length = h.asks.length + l.length := List.length_append
  refine ⟨⟨by show (addStep h i st).services.length ≤ 8; rw [addStep_len]; exact T.ok.ns, hna, T.ok.ne, fun s hs => ?_, fun s hs k hk' => ?_, fun s hs k hk' => ?_, fun a ha => by show a.whom < (addStep h i st).services.length; rw [addStep_len]; exact ht a ha, fun e he => by show e.service < (addStep h i st).services.length; rw [addStep_len]; exact T.ok.en e he⟩, fun s hs => ?_, T.ne⟩
  · rcases M s hs with z | ⟨s0, z, e1, e2⟩
    · exact T.ok.nst s z
    · rw [e2]
      show (s0.steps ++ [st]).length ≤ 5
      rw [List.length_append, ← e1]
      have : [st].length = 1 := rfl
      omega
  · rcases M s hs with z | ⟨s0, z, e1, e2⟩
    · exact T.ok.wk s z k hk'
    · rw [e2] at hk'
      rcases List.mem_append.mp hk' with y | y
      · exact T.ok.wk s0 z k y
      · exact hw k (List.mem_singleton.mp y).symm
  · show k < (h.asks ++ l).length
    rcases M s hs with z | ⟨s0, z, e1, e2⟩
    · have := T.ok.ak s z k hk'
      omega
    · rw [e2] at hk'
      rcases List.mem_append.mp hk' with y | y
      · have := T.ok.ak s0 z k y
        omega
      · exact hk k (List.mem_singleton.mp y).symm
  · rcases M s hs with z | ⟨s0, z, e1, e2⟩
    · exact T.ns s z
    · rw [e2]; exact T.ns s0 z
theorem TOk.change {h : House} (T : TOk h) {j : Nat} {f : Ask → Ask} (hf : ∀ a, (f a).whom = a.whom) : TOk (changeAsk h j f) := by
  refine ⟨⟨T.ok.ns, by rw [changeAsk_len]; exact T.ok.na, T.ok.ne, T.ok.nst, T.ok.wk, fun s hs i hi => by rw [changeAsk_len]; exact T.ok.ak s hs i hi, fun a ha => ?_, T.ok.en⟩, T.ns, T.ne⟩
  obtain ⟨k, hk⟩ := mem_at ha
  rw [changeAsk_at] at hk
  cases e : h.asks[k]? with
  | none => rw [e] at hk; cases hk
  | some a0 =>
    rw [e] at hk
    have hk := Option.some.inj hk
    dsimp only at hk
    have h0 := T.ok.tg a0 (List.mem_of_getElem? e)
    by_cases ej : k = j
    · rw [if_pos ej] at hk
      rw [← hk, hf]
      exact h0
    · rw [if_neg ej] at hk
      rw [← hk]
      exact h0
theorem TOk.entry {h : House} (T : TOk h) {n : List Nat} {i x : Nat} (hn : n ≠ []) (hi : i < h.services.length) (hl : h.entries.length < 4) : TOk { h with entries := h.entries ++ [⟨n, i, x⟩] } := by
  have L : (h.entries ++ [(⟨n, i, x⟩ : Entry)]).length = h.entries.length + 1 := by rw [List.length_append] <;> rfl
  refine ⟨⟨T.ok.ns, T.ok.na, by show (h.entries ++ [(⟨n, i, x⟩ : Entry)]).length ≤ 4; omega, T.ok.nst, T.ok.wk, T.ok.ak, T.ok.tg, fun e he => ?_⟩, T.ns, fun e he => ?_⟩
  · rcases List.mem_append.mp he with z | z
    · exact T.ok.en e z
    · rw [List.mem_singleton.mp z]; exact hi
  · rcases List.mem_append.mp he with z | z
    · exact T.ne e z
    · rw [List.mem_singleton.mp z]; exact hn
theorem TOk.empty : TOk empty_ := by
  refine ⟨⟨Nat.zero_le _, Nat.zero_le _, Nat.zero_le _, ?_, ?_, ?_, ?_, ?_⟩, ?_, ?_⟩
  · intro s h; cases h
  · intro s h; cases h
  · intro s h; cases h
  · intro s h; cases h
  · intro s h; cases h
  · intro s h; cases h
  · intro s h; cases h
theorem doService_ok {h : House} (T : TOk h) {n : List Nat} {x y : Nat} (hn : n ≠ []) : TOk (doService h n x y).2 := by
  unfold doService
  split
  · exact T
  · split
    · exact T
    · split
      · exact T
      · exact T.service hn (by omega)
theorem doWork_ok {h : House} (T : TOk h) {n : List Nat} {x : Nat} : TOk (doWork h n x).2 := by
  unfold doWork
  split
  · exact T
  · split
    · exact T
    · split
      · exact T
      · exact T.step (as := h.asks) ⟨[], (List.append_nil _).symm⟩ T.ok.na T.ok.tg (by omega) (fun n e => by injection e with e; omega) (fun k e => by cases e)
theorem doAsk_ok {h : House} (T : TOk h) {n d : List Nat} {x y z : Nat} : TOk (doAsk h n d x y z).2 := by
  unfold doAsk
  split
  · rename_i i j hi hj
    split
    · exact T
    · split
      · exact T
      · have L : (h.asks ++ [(⟨j, x, y, z, false, 0, 0, 0⟩ : Ask)]).length = h.asks.length + 1 := by rw [List.length_append] <;> rfl
        refine T.step (i := i) (st := .ask h.asks.length) (as := h.asks ++ [⟨j, x, y, z, false, 0, 0, 0⟩]) ⟨_, rfl⟩ (by omega) (fun a ha => ?_) (by omega) (fun n e => by cases e) (fun k e => by injection e with e; omega)
        rcases List.mem_append.mp ha with q | q
        · exact T.ok.tg a q
        · rw [List.mem_singleton.mp q]; exact named_lt hj
  · exact T
theorem doMay_ok {h : House} (T : TOk h) {n : List Nat} : TOk (doMay h n).2 := by
  unfold doMay
  split
  · exact T.change (f := fun a => { a with may := true }) fun _ => rfl
  · exact T
theorem doBudget_ok {h : House} (T : TOk h) {n : List Nat} {x : Nat} : TOk (doBudget h n x).2 := by
  unfold doBudget
  split
  · split
    · exact T
    · exact T.change (f := fun a => { a with cost := x }) fun _ => rfl
  · exact T
theorem doBreaker_ok {h : House} (T : TOk h) {n : List Nat} {x y : Nat} : TOk (doBreaker h n x y).2 := by
  unfold doBreaker
  split
  · split
    · exact T
    · exact T.change (f := fun a => { a with fails := x, open_ := y }) fun _ => rfl
  · exact T
theorem doEntry_ok {h : House} (T : TOk h) {n s : List Nat} {x : Nat} (hn : n ≠ []) : TOk (doEntry h n s x).2 := by
  unfold doEntry
  split
  · exact T
  · split
    · exact T
    · rename_i i hi
      split
      · exact T
      · split
        · exact T
        · exact T.entry hn (named_lt hi) (by omega)
end Cw
end

/-! ## CcPlanA -/
section
set_option maxRecDepth 100000
set_option maxHeartbeats 4000000
/-! A plan while it is read: what a store makes of it. -/
namespace Cc
open PySem PySem.Spec PyProof.Rows L2
structure BP (K : PySem.W.Frag) (H : Hp) (pl : Addr) (P : PAd) (h : Gp27.House) : Prop where
  at_ : PlanAt K H pl P h (h.asks.map fun a => a.may)
  ok : Cw.TOk h
  nd : ([P.sv, P.ak, P.gt] ++ P.sts).Nodup
  nda : P.as.Nodup
def BX (P : PAd) (b : Addr) : Prop := b = P.sv ∨ b = P.ak ∨ b = P.gt ∨ b ∈ P.sts ∨ b ∈ P.as
structure PExt (P P' : PAd) (H H' : Hp) : Prop where
  keep : ∀ b o, H b = some o → ¬ BX P b → H' b = some o ∧ ¬ BX P' b
theorem PExt.refl {P : PAd} {H : Hp} : PExt P P H H := ⟨fun _ _ h n => ⟨h, n⟩⟩
theorem PExt.same {P : PAd} {H H' : Hp} (s : Same H H') : PExt P P H H' := ⟨fun _ _ h n => ⟨s _ _ h, n⟩⟩
theorem PExt.trans {P P1 P2 : PAd} {H H1 H2 : Hp} (x : PExt P P1 H H1) (y : PExt P1 P2 H1 H2) : PExt P P2 H H2 := ⟨fun b o h n => by
  obtain ⟨h1, n1⟩ := x.keep b o h n
  exact y.keep b o h1 n1⟩
theorem PExt.one {P : PAd} {H H' : Hp} {q : Addr} (hq : BX P q) (f : Fr1 q H H') : PExt P P H H' := ⟨fun b o h n => ⟨f b o h (fun z => n (by rw [z]; exact hq)), n⟩⟩
section
variable {K : PySem.W.Frag} {H H' : Hp} {pl q : Addr} {P : PAd} {h : Gp27.House} {m : List Bool}
theorem BP.mono (x : BP K H pl P h) (s : Same H H') : BP K H' pl P h := ⟨x.at_.mono s, x.ok, x.nd, x.nda⟩
theorem snoc_get {α : Type} {l : List α} {x y : α} {i : Nat} (h : (l ++ [x])[i]? = some y) : (i < l.length ∧ l[i]? = some y) ∨ (i = l.length ∧ y = x) := by
  by_cases hi : i < l.length
  · rw [List.getElem?_append_left hi] at h
    exact .inl ⟨hi, h⟩
  · have hl := (List.getElem?_eq_some_iff.mp h).1
    rw [List.length_append] at hl
    have e1 : [x].length = 1 := rfl
    have e : i = l.length := by omega
    subst e
    rw [List.getElem?_append_right (Nat.le_refl _), Nat.sub_self] at h
    cases h
    exact .inr ⟨rfl, rfl⟩
theorem snoc_at {α : Type} {l : List α} {x : α} {n : Nat} (h : l.length = n) : (l ++ [x])[n]? = some x := by
  rw [← h, List.getElem?_append_right (Nat.le_refl _), Nat.sub_self] <;> rfl
theorem snoc_old {α : Type} {l : List α} {x y : α} {i : Nat} (h : l[i]? = some y) : (l ++ [x])[i]? = some y := by
  rw [List.getElem?_append_left (List.getElem?_eq_some_iff.mp h).1]
  exact h
/-! what a change of a list leaves -/
theorem fr_svc {p nm st : Addr} {s : Gp27.Service} {xs : List V} (h : AtService K H p nm s st) (hq : H q = some (.lst xs)) (f : Fr1 q H H') : AtService K H' p nm s st := by
  obtain ⟨dx, e⟩ := h
  exact ⟨dx, f _ _ e (ne_of e hq (fun z => nomatch z))⟩
theorem fr_gate {p nm : Addr} {s : Gp27.Entry} {xs : List V} (h : AtGate K H p nm s) (hq : H q = some (.lst xs)) (f : Fr1 q H H') : AtGate K H' p nm s := by
  obtain ⟨dx, e⟩ := h
  exact ⟨dx, f _ _ e (ne_of e hq (fun z => nomatch z))⟩
theorem fr_ask {p : Addr} {s : Gp27.Ask} {b : Bool} {xs : List V} (h : AtAsk K H p s b) (hq : H q = some (.lst xs)) (f : Fr1 q H H') : AtAsk K H' p s b := by
  obtain ⟨dx, e⟩ := h
  exact ⟨dx, f _ _ e (ne_of e hq (fun z => nomatch z))⟩
theorem fr_plan {p a b c : Addr} {xs : List V} (h : AtPlan K H p a b c) (hq : H q = some (.lst xs)) (f : Fr1 q H H') : AtPlan K H' p a b c := by
  obtain ⟨dx, e⟩ := h
  exact ⟨dx, f _ _ e (ne_of e hq (fun z => nomatch z))⟩
theorem ne_nm {nm : Addr} {w : List Nat} {qs : List Addr} (h : H nm = some (.lst (byV w))) (hw : w ≠ []) (hq : H q = some (.lst (qs.map V.ref))) : nm ≠ q := by
  refine ne_of h hq fun z => ?_
  injection z with z
  cases w with
  | nil => exact hw rfl
  | cons x r =>
    cases qs with
    | nil => cases z
    | cons y s =>
      injection z with z _
      cases z
theorem fr_nm {nm : Addr} {w : List Nat} {qs : List Addr} (h : H nm = some (.lst (byV w))) (hw : w ≠ []) (hq : H q = some (.lst (qs.map V.ref))) (f : Fr1 q H H') : H' nm = some (.lst (byV w)) := f _ _ h (ne_nm h hw hq)
theorem fr_steps {st : Addr} {l : List Gp27.Step} {xs : List V} (h : StepsAt H st l) (n : st ≠ q) (hq : H q = some (.lst xs)) (f : Fr1 q H H') : StepsAt H' st l := by
  obtain ⟨ts, h1, h2, h3⟩ := h
  refine ⟨ts, f _ _ h1 n, h2, fun j x hx => ?_⟩
  obtain ⟨t, e1, e2⟩ := h3 j x hx
  exact ⟨t, e1, f _ _ e2 (ne_of e2 hq (fun z => nomatch z))⟩
theorem BP.sts_ne (x : BP K H pl P h) {i : Nat} {st : Addr} (hs : P.sts[i]? = some st) : st ≠ P.sv ∧ st ≠ P.ak ∧ st ≠ P.gt := by
  have n := x.nd
  have m := List.mem_of_getElem? hs
  simp only [List.cons_append, List.nil_append, List.nodup_cons, List.mem_cons, not_or] at n
  obtain ⟨⟨_, _, a3⟩, ⟨_, b2⟩, c1, _⟩ := n
  exact ⟨fun z => a3 (by rw [← z]; exact m), fun z => b2 (by rw [← z]; exact m), fun z => c1 (by rw [← z]; exact m)⟩
theorem BP.ne3 (x : BP K H pl P h) : P.sv ≠ P.ak ∧ P.sv ≠ P.gt ∧ P.ak ≠ P.gt ∧ P.sts.Nodup := by
  have n := x.nd
  simp only [List.cons_append, List.nil_append, List.nodup_cons, List.mem_cons, not_or] at n
  obtain ⟨⟨a1, a2, _⟩, ⟨b1, _⟩, _, d⟩ := n
  exact ⟨a1, a2, b1, d⟩
theorem BP.nmS (x : BP K H pl P h) {i : Nat} {s : Gp27.Service} (hs : h.services[i]? = some s) : s.name ≠ [] := x.ok.ns s (List.mem_of_getElem? hs)
theorem BP.nmE (x : BP K H pl P h) {i : Nat} {s : Gp27.Entry} (hs : h.entries[i]? = some s) : s.name ≠ [] := x.ok.ne s (List.mem_of_getElem? hs)
/-- one service more -/
theorem BP.addS (x : BP K H pl P h) {p nm st : Addr} {s : Gp27.Service} (hp : AtService K H p nm s st) (hnm : H nm = some (.lst (byV s.name))) (hst : H st = some (.lst [])) (hs : s.steps = []) (T : Cw.TOk { h with services := h.services ++ [s] }) (nst : st ∉ [P.sv, P.ak, P.gt] ++ P.sts)
    (hv : H' P.sv = some (.lst (P.ss.map V.ref ++ [.ref p]))) (f : Fr1 P.sv H H') : BP K H' pl { P with ss := P.ss ++ [p], sts := P.sts ++ [st] } { h with services := h.services ++ [s] } := by
  have a := x.at_
  obtain ⟨n1, n2, n3, n4⟩ := x.ne3
  have hq := a.sv
  have hsn : s.name ≠ [] := T.ns s (List.mem_append_right _ (List.mem_singleton.mpr rfl))
  have nsv : st ≠ P.sv := fun z => nst (by rw [z]; simp)
  refine ⟨⟨fr_plan a.at_ hq f, by rw [hv]; show _ = some (HO.lst ((P.ss ++ [p]).map V.ref)); rw [List.map_append] <;> rfl, f _ _ a.ak n1.symm, f _ _ a.gt n2.symm, ?_, ?_, a.la, a.lm, a.lg, fun i y hy => ?_, fun i y hy => ?_, fun i y hy => ?_⟩, T, ?_, x.nda⟩
  · show (P.ss ++ [p]).length = (h.services ++ [s]).length
    rw [List.length_append, List.length_append, a.ls] <;> rfl
  · show (P.sts ++ [st]).length = (h.services ++ [s]).length
    rw [List.length_append, List.length_append, a.lt] <;> rfl
  · rcases snoc_get hy with ⟨_, hy⟩ | ⟨e, rfl⟩
    · obtain ⟨p0, nm0, st0, e1, e2, e3, e4, e5⟩ := a.svs i y hy
      exact ⟨p0, nm0, st0, snoc_old e1, snoc_old e2, fr_svc e3 hq f, fr_nm e4 (x.nmS hy) hq f, fr_steps e5 (x.sts_ne e2).1 hq f⟩
    · subst e
      exact ⟨p, nm, st, snoc_at a.ls, snoc_at a.lt, fr_svc hp hq f, fr_nm hnm hsn hq f, [], f _ _ hst nsv, by rw [hs] <;> rfl, fun j y hy => by rw [hs] at hy; cases hy⟩
  · obtain ⟨p0, b0, e1, e2, e3⟩ := a.aks i y hy
    exact ⟨p0, b0, e1, e2, fr_ask e3 hq f⟩
  · obtain ⟨p0, nm0, e1, e3, e4⟩ := a.gts i y hy
    exact ⟨p0, nm0, e1, fr_gate e3 hq f, fr_nm e4 (x.nmE hy) hq f⟩
  · show ([P.sv, P.ak, P.gt] ++ (P.sts ++ [st])).Nodup
    rw [← List.append_assoc]
    exact List.nodup_append.mpr ⟨x.nd, by simp, fun a ha b hb e => nst (by rw [← List.mem_singleton.mp hb, ← e]; exact ha)⟩
/-- one step more -/
theorem BP.addT (x : BP K H pl P h) {i : Nat} {st t : Addr} {ts : List Addr} {s : Gp27.Step} (hs : P.sts[i]? = some st) (hts : H st = some (.lst (ts.map V.ref))) (ht : H t = some (.tup (stepV s)))
    (hv : H' st = some (.lst (ts.map V.ref ++ [.ref t]))) (f : Fr1 st H H') (k : (Gp27.addStep h i s).asks = h.asks) : PlanAt K H' pl P (Gp27.addStep h i s) (h.asks.map fun a => a.may) := by
  have a := x.at_
  obtain ⟨n1, n2, n3, n4⟩ := x.ne3
  obtain ⟨m1, m2, m3⟩ := x.sts_ne hs
  have hq := hts
  refine ⟨fr_plan a.at_ hq f, f _ _ a.sv m1.symm, f _ _ a.ak m2.symm, f _ _ a.gt m3.symm, by rw [Cw.addStep_len]; exact a.ls, by rw [Cw.addStep_len]; exact a.lt, by rw [k]; exact a.la, by rw [k]; exact a.lm, a.lg, fun j y hy => ?_, fun j y hy => ?_, fun j y hy => ?_⟩
  · rw [Cw.addStep_at] at hy
    cases e : h.services[j]? with
    | none => rw [e] at hy; cases hy
    | some s0 =>
      rw [e] at hy
      have hz := Option.some.inj hy
      clear hy
      dsimp only at hz
      obtain ⟨p0, nm0, st0, e1, e2, e3, e4, e5⟩ := a.svs j s0 e
      by_cases ej : j = i
      · rw [if_pos ej] at hz
        subst ej
        cases hs.symm.trans e2
        subst hz
        refine ⟨p0, nm0, st, e1, e2, fr_svc e3 hq f, fr_nm (w := s0.name) e4 (x.nmS e) hq f, ?_⟩
        obtain ⟨ts0, h1, h2, h3⟩ := e5
        have et : ts0 = ts := by
          rw [hts] at h1
          have h1 := Option.some.inj h1
          injection h1 with h1
          have : ∀ {a b : List Addr}, a.map V.ref = b.map V.ref → a = b := by
            intro a
            induction a with
            | nil => intro b hb; cases b with
              | nil => rfl
              | cons _ _ => cases hb
            | cons u a ih => intro b hb; cases b with
              | nil => cases hb
              | cons v b =>
                injection hb with h1 h2
                injection h1 with h1
                rw [h1, ih h2]
          exact (this h1).symm
        subst et
        refine ⟨ts0 ++ [t], by rw [hv, List.map_append] <;> rfl, by show _ = (s0.steps ++ [s]).length; rw [List.length_append, List.length_append, h2] <;> rfl, fun k y hy => ?_⟩
        have tn : ∀ {c : Addr} {xs : List V}, H c = some (.tup xs) → H' c = some (.tup xs) := fun e => f _ _ e (ne_of e hq (fun z => nomatch z))
        rcases snoc_get (show (s0.steps ++ [s])[k]? = some y from hy) with ⟨_, hy⟩ | ⟨ek, rfl⟩
        · obtain ⟨t0, u1, u2⟩ := h3 k y hy
          exact ⟨t0, snoc_old u1, tn u2⟩
        · subst ek
          exact ⟨t, snoc_at h2, tn ht⟩
      · rw [if_neg ej] at hz
        subst hz
        exact ⟨p0, nm0, st0, e1, e2, fr_svc e3 hq f, fr_nm e4 (x.nmS e) hq f, fr_steps e5 (fun z => ej (nd_ix n4 e2 (by rw [z]; exact hs))) hq f⟩
  · obtain ⟨p0, b0, e1, e2, e3⟩ := a.aks j y (by rw [← k]; exact hy)
    exact ⟨p0, b0, e1, e2, fr_ask e3 hq f⟩
  · obtain ⟨p0, nm0, e1, e3, e4⟩ := a.gts j y hy
    exact ⟨p0, nm0, e1, fr_gate e3 hq f, fr_nm e4 (x.nmE hy) hq f⟩
/-- one call more -/
theorem plan_addK (a : PlanAt K H pl P h (h.asks.map fun a => a.may)) (ns : ∀ s ∈ h.services, s.name ≠ []) (ne : ∀ e ∈ h.entries, e.name ≠ []) (nd : ([P.sv, P.ak, P.gt] ++ P.sts).Nodup) {p : Addr} {s : Gp27.Ask} (hp : AtAsk K H p s s.may)
    (hv : H' P.ak = some (.lst (P.as.map V.ref ++ [.ref p]))) (f : Fr1 P.ak H H') : PlanAt K H' pl { P with as := P.as ++ [p] } { h with asks := h.asks ++ [s] } ((h.asks ++ [s]).map fun a => a.may) := by
  have hq := a.ak
  have n := nd
  simp only [List.cons_append, List.nil_append, List.nodup_cons, List.mem_cons, not_or] at n
  obtain ⟨⟨n1, n2, _⟩, ⟨n3, n4⟩, _, _⟩ := n
  refine ⟨fr_plan a.at_ hq f, f _ _ a.sv n1, by rw [hv]; show _ = some (HO.lst ((P.as ++ [p]).map V.ref)); rw [List.map_append] <;> rfl, f _ _ a.gt (fun z => n3 z.symm), a.ls, a.lt, ?_, by rw [List.length_map], a.lg, fun i y hy => ?_, fun i y hy => ?_, fun i y hy => ?_⟩
  · show (P.as ++ [p]).length = (h.asks ++ [s]).length
    rw [List.length_append, List.length_append, a.la] <;> rfl
  · obtain ⟨p0, nm0, st0, e1, e2, e3, e4, e5⟩ := a.svs i y hy
    exact ⟨p0, nm0, st0, e1, e2, fr_svc e3 hq f, fr_nm e4 (ns y (List.mem_of_getElem? hy)) hq f, fr_steps e5 (fun z => n4 (by rw [← z]; exact List.mem_of_getElem? e2)) hq f⟩
  · rcases snoc_get (show (h.asks ++ [s])[i]? = some y from hy) with ⟨_, hy⟩ | ⟨e, rfl⟩
    · obtain ⟨p0, b0, e1, e2, e3⟩ := a.aks i y hy
      refine ⟨p0, b0, snoc_old e1, ?_, fr_ask e3 hq f⟩
      rw [List.map_append]
      rw [List.getElem?_append_left (List.getElem?_eq_some_iff.mp e2).1]
      exact e2
    · subst e
      exact ⟨p, y.may, snoc_at a.la, by rw [List.map_append]; exact snoc_at (List.length_map _), fr_ask hp hq f⟩
  · obtain ⟨p0, nm0, e1, e3, e4⟩ := a.gts i y hy
    exact ⟨p0, nm0, e1, fr_gate e3 hq f, fr_nm e4 (ne y (List.mem_of_getElem? hy)) hq f⟩
theorem rn_ak1 : ("name" : Str) ≠ "target" := by decide +kernel
theorem rn_ak2 : ("services" : Str) ≠ "target" := by decide +kernel
/-- a call changed -/
theorem BP.setA (x : BP K H pl P h) {j : Nat} {p : Addr} {g : Gp27.Ask → Gp27.Ask} {s : Gp27.Ask} (hj : h.asks[j]? = some s) (hp : P.as[j]? = some p) (hv : AtAsk K H' p (g s) (g s).may) (f : Fr1 p H H') (hg : ∀ a, (g a).whom = a.whom) : BP K H' pl P (Gp27.changeAsk h j g) := by
  have a := x.at_
  obtain ⟨p1, b1, e1, _, dq, hq⟩ := a.aks j s hj
  cases hp.symm.trans e1
  have L : ∀ {c : Addr} {xs : List V}, H c = some (.lst xs) → H' c = some (.lst xs) := fun e => f _ _ e (ne_of e hq (fun z => nomatch z))
  have T : ∀ {c : Addr} {xs : List V}, H c = some (.tup xs) → H' c = some (.tup xs) := fun e => f _ _ e (ne_of e hq (fun z => nomatch z))
  refine ⟨⟨?_, L a.sv, L a.ak, L a.gt, a.ls, a.lt, by rw [Cw.changeAsk_len]; exact a.la, by rw [List.length_map], a.lg, fun i y hy => ?_, fun i y hy => ?_, fun i y hy => ?_⟩, x.ok.change hg, x.nd, x.nda⟩
  · obtain ⟨dx, e⟩ := a.at_
    exact ⟨dx, f _ _ e (ne_of e hq (head_ne rn_ak2))⟩
  · obtain ⟨p0, nm0, st0, e1, e2, ⟨dx, e3⟩, e4, ts, h1, h2, h3⟩ := a.svs i y hy
    exact ⟨p0, nm0, st0, e1, e2, ⟨dx, f _ _ e3 (ne_of e3 hq (head_ne rn_ak1))⟩, L e4, ts, L h1, h2, fun k z hz => by
      obtain ⟨t, u1, u2⟩ := h3 k z hz
      exact ⟨t, u1, T u2⟩⟩
  · rw [Cw.changeAsk_at] at hy
    cases e : h.asks[i]? with
    | none => rw [e] at hy; cases hy
    | some s0 =>
      rw [e] at hy
      have hz := Option.some.inj hy
      clear hy
      dsimp only at hz
      have hm : ((Gp27.changeAsk h j g).asks.map fun a => a.may)[i]? = some y.may := by
        rw [List.getElem?_map, Cw.changeAsk_at, e]
        show some (if i = j then g s0 else s0).may = _
        rw [hz]
      obtain ⟨p0, b0, u1, u2, dx, u3⟩ := a.aks i s0 e
      by_cases ej : i = j
      · subst ej
        cases hj.symm.trans e
        rw [if_pos rfl] at hz
        subst hz
        exact ⟨p, _, hp, hm, hv⟩
      · rw [if_neg ej] at hz
        subst hz
        have eb : b0 = s0.may := by
          rw [List.getElem?_map, e] at u2
          exact (Option.some.inj u2).symm
        subst eb
        exact ⟨p0, _, u1, hm, dx, f _ _ u3 (fun z => ej (nd_ix x.nda u1 (by rw [z]; exact hp)))⟩
  · obtain ⟨p0, nm0, e1, ⟨dx, e3⟩, e4⟩ := a.gts i y hy
    exact ⟨p0, nm0, e1, ⟨dx, f _ _ e3 (ne_of e3 hq (head_ne rn_ak1))⟩, L e4⟩
/-- one entry point more -/
theorem BP.addG (x : BP K H pl P h) {p nm : Addr} {s : Gp27.Entry} (hp : AtGate K H p nm s) (hnm : H nm = some (.lst (byV s.name))) (T : Cw.TOk { h with entries := h.entries ++ [s] })
    (hv : H' P.gt = some (.lst (P.gs.map V.ref ++ [.ref p]))) (f : Fr1 P.gt H H') : BP K H' pl { P with gs := P.gs ++ [p] } { h with entries := h.entries ++ [s] } := by
  have a := x.at_
  obtain ⟨n1, n2, n3, n4⟩ := x.ne3
  have hq := a.gt
  have hsn : s.name ≠ [] := T.ne s (List.mem_append_right _ (List.mem_singleton.mpr rfl))
  refine ⟨⟨fr_plan a.at_ hq f, f _ _ a.sv n2, f _ _ a.ak n3, by rw [hv]; show _ = some (HO.lst ((P.gs ++ [p]).map V.ref)); rw [List.map_append] <;> rfl, a.ls, a.lt, a.la, a.lm, ?_, fun i y hy => ?_, fun i y hy => ?_, fun i y hy => ?_⟩, T, x.nd, x.nda⟩
  · show (P.gs ++ [p]).length = (h.entries ++ [s]).length
    rw [List.length_append, List.length_append, a.lg] <;> rfl
  · obtain ⟨p0, nm0, st0, e1, e2, e3, e4, e5⟩ := a.svs i y hy
    exact ⟨p0, nm0, st0, e1, e2, fr_svc e3 hq f, fr_nm e4 (x.nmS hy) hq f, fr_steps e5 (x.sts_ne e2).2.2 hq f⟩
  · obtain ⟨p0, b0, e1, e2, e3⟩ := a.aks i y hy
    exact ⟨p0, b0, e1, e2, fr_ask e3 hq f⟩
  · rcases snoc_get (show (h.entries ++ [s])[i]? = some y from hy) with ⟨_, hy⟩ | ⟨e, rfl⟩
    · obtain ⟨p0, nm0, e1, e3, e4⟩ := a.gts i y hy
      exact ⟨p0, nm0, snoc_old e1, fr_gate e3 hq f, fr_nm e4 (x.nmE hy) hq f⟩
    · subst e
      exact ⟨p, nm, snoc_at a.lg, fr_gate hp hq f, fr_nm hnm hsn hq f⟩
end
end Cc
end

/-! ## CcPlanB -/
section
set_option maxRecDepth 100000
set_option maxHeartbeats 4000000
/-! A plan while it is read: places, bounds, new objects. -/
namespace Cc
open PySem PySem.Spec PyProof.Rows L2
def sp_Plan_init (K : PySem.W.Frag) : Sp := fun vs H Q _ => ∃ (p dx : Addr), vs = [.ref p] ∧ H p = some (.ins (cPlan K) dx []) ∧ ∀ (H' : Hp) (sv ak gt : Addr), AtPlan K H' p sv ak gt → H' sv = some (.lst []) → H' ak = some (.lst []) → H' gt = some (.lst []) → [sv, ak, gt].Nodup → H sv = none → H ak = none → H gt = none → Fr1 p H H' → Q .non H'
def sp_Service_init (K : PySem.W.Frag) : Sp := fun vs H Q _ => ∃ (p dx nm : Addr) (x y : Nat), vs = [.ref p, .ref nm, .int (x : Int), .int (y : Int)] ∧ H p = some (.ins (cService K) dx []) ∧ ∀ (H' : Hp) (st : Addr), (∀ n, AtService K H' p nm ⟨n, x, y, []⟩ st) → H' st = some (.lst []) → H st = none → Fr1 p H H' → Q .non H'
def sp_Ask_init (K : PySem.W.Frag) : Sp := fun vs H Q _ => ∃ (p dx : Addr) (j x y z : Nat), vs = [.ref p, .int (j : Int), .int (x : Int), .int (y : Int), .int (z : Int)] ∧ H p = some (.ins (cAsk K) dx []) ∧ ∀ (H' : Hp), AtAsk K H' p ⟨j, x, y, z, false, 0, 0, 0⟩ false → Fr1 p H H' → Q .non H'
def sp_Gate_init (K : PySem.W.Frag) : Sp := fun vs H Q _ => ∃ (p dx nm : Addr) (i x : Nat), vs = [.ref p, .ref nm, .int (i : Int), .int (x : Int)] ∧ H p = some (.ins (cGate K) dx []) ∧ ∀ (H' : Hp), (∀ n, AtGate K H' p nm ⟨n, i, x⟩) → Fr1 p H H' → Q .non H'
def placeI : Option Nat → Int
  | none => -1
  | some i => (i : Int)
/-- a row with a name -/
def NmAt (K : PySem.W.Frag) (H : Hp) (p : Addr) (w : List Nat) : Prop := ∃ C dx fs nm, H p = some (.ins C dx fs) ∧ Cls K C ∧ NoAttr K C "name" ∧ fs.lookup ("name" : Str) = some (V.ref nm) ∧ H nm = some (.lst (byV w))
def sp_place_of (K : PySem.W.Frag) : Sp := fun vs H Q _ => ∃ (r nm : Addr) (rows : List Addr) (names : List (List Nat)) (w : List Nat), vs = [.ref r, .ref nm] ∧ H r = some (.lst (rows.map V.ref)) ∧ rows.length = names.length ∧ (∀ (i : Nat) v, names[i]? = some v → ∃ p, rows[i]? = some p ∧ NmAt K H p v) ∧ SqL K H nm (byV w) ∧
  ∀ H', Same H H' → Q (.int (placeI (names.findIdx? fun v => v == w))) H'
def inB (ns : List Nat) (bs : List (Nat × Nat)) : Bool := (ns.zip bs).all fun q => decide (q.2.1 ≤ q.1) && decide (q.1 ≤ q.2.2)
def sp_are_within (K : PySem.W.Frag) : Sp := fun vs H Q _ => ∃ (p b : Addr) (ns : List Nat) (tb : List Addr) (bs : List (Nat × Nat)), vs = [.ref p, .ref b] ∧ SqL K H p (byV ns) ∧ SqT K H b (tb.map V.ref) ∧ ns.length = bs.length ∧ tb.length = bs.length ∧ ns.length ≤ 100 ∧
  (∀ (i : Nat) lo hi, bs[i]? = some (lo, hi) → ∃ t, tb[i]? = some t ∧ SqT K H t [.int ((lo : Nat) : Int), .int ((hi : Nat) : Int)]) ∧ ∀ H', Same H H' → Q (.bl (inB ns bs)) H'
section
variable {K : PySem.W.Frag}
theorem len_Plan_init : ∀ vs H Q E, sp_Plan_init K vs H Q E → vs.length = (["self"] : List Str).length := by rintro _ _ _ _ ⟨_, _, rfl, _⟩; rfl
theorem len_Service_init : ∀ vs H Q E, sp_Service_init K vs H Q E → vs.length = (["self", "name", "workers", "queue"] : List Str).length := by rintro _ _ _ _ ⟨_, _, _, _, _, rfl, _⟩; rfl
theorem len_Ask_init : ∀ vs H Q E, sp_Ask_init K vs H Q E → vs.length = (["self", "target", "timeout", "tries", "wait"] : List Str).length := by rintro _ _ _ _ ⟨_, _, _, _, _, _, rfl, _⟩; rfl
theorem len_Gate_init : ∀ vs H Q E, sp_Gate_init K vs H Q E → vs.length = (["self", "name", "service", "timeout"] : List Str).length := by rintro _ _ _ _ ⟨_, _, _, _, _, rfl, _⟩; rfl
theorem len_place_of : ∀ vs H Q E, sp_place_of K vs H Q E → vs.length = (["rows", "name"] : List Str).length := by rintro _ _ _ _ ⟨_, _, _, _, _, rfl, _⟩; rfl
theorem len_are_within : ∀ vs H Q E, sp_are_within K vs H Q E → vs.length = (["numbers", "bounds"] : List Str).length := by rintro _ _ _ _ ⟨_, _, _, _, _, rfl, _⟩; rfl
end
abbrev N_Plan_init : List Str := ["self"]
theorem sc_Plan_init : FnScope N_Plan_init ["self"] (defScope s_Plan_init) := ⟨rfl, rfl, rfl, by decide +kernel, rfl, by decide +kernel, by decide +kernel⟩
def t_Plan_init (K : PySem.W.Frag) : TS := (tSeq (sFld K (tVar 0) (tLst tNil) "services")
  (tSeq (sFld K (tVar 0) (tLst tNil) "asks")
  (sFld K (tVar 0) (tLst tNil) "gates")))
abbrev N_Service_init : List Str := ["self", "name", "workers", "queue"]
theorem sc_Service_init : FnScope N_Service_init ["self", "name", "workers", "queue"] (defScope s_Service_init) := ⟨rfl, rfl, rfl, by decide +kernel, rfl, by decide +kernel, by decide +kernel⟩
def t_Service_init (K : PySem.W.Frag) : TS := (tSeq (sFld K (tVar 0) (tVar 1) "name")
  (tSeq (sFld K (tVar 0) (tVar 2) "workers")
  (tSeq (sFld K (tVar 0) (tVar 3) "queue")
  (sFld K (tVar 0) (tLst tNil) "steps"))))
abbrev N_Ask_init : List Str := ["self", "target", "timeout", "tries", "wait"]
theorem sc_Ask_init : FnScope N_Ask_init ["self", "target", "timeout", "tries", "wait"] (defScope s_Ask_init) := ⟨rfl, rfl, rfl, by decide +kernel, rfl, by decide +kernel, by decide +kernel⟩
def t_Ask_init (K : PySem.W.Frag) : TS := (tSeq (sFld K (tVar 0) (tVar 1) "target")
  (tSeq (sFld K (tVar 0) (tVar 2) "timeout")
  (tSeq (sFld K (tVar 0) (tVar 3) "tries")
  (tSeq (sFld K (tVar 0) (tVar 4) "wait")
  (tSeq (sFld K (tVar 0) (tC (.bl false)) "is_optional")
  (tSeq (sFld K (tVar 0) (tC (.int 0)) "cost")
  (tSeq (sFld K (tVar 0) (tC (.int 0)) "limit")
  (sFld K (tVar 0) (tC (.int 0)) "span"))))))))
abbrev N_Gate_init : List Str := ["self", "name", "service", "timeout"]
theorem sc_Gate_init : FnScope N_Gate_init ["self", "name", "service", "timeout"] (defScope s_Gate_init) := ⟨rfl, rfl, rfl, by decide +kernel, rfl, by decide +kernel, by decide +kernel⟩
def t_Gate_init (K : PySem.W.Frag) : TS := (tSeq (sFld K (tVar 0) (tVar 1) "name")
  (tSeq (sFld K (tVar 0) (tVar 2) "service")
  (sFld K (tVar 0) (tVar 3) "timeout")))
abbrev N_place_of : List Str := ["rows", "name", "at", "row"]
theorem sc_place_of : FnScope N_place_of ["rows", "name"] (defScope s_place_of) := ⟨rfl, rfl, rfl, by decide +kernel, rfl, by decide +kernel, by decide +kernel⟩
def t_place_of (K : PySem.W.Frag) : TS := (tSeq (tFor (iEnum K (tCons (tVar 0) tNil)) (gTup K 2 (gCons (gName 2) (gCons (gName 3) gNil))) (tIfS (tTest (tOp (rEqD K) (tFld K (tVar 3) "name") (tVar 1))) (tRet (tVar 2)) tNext))
  (tRet (tC (.int (-1)))))
abbrev N_are_within : List Str := ["numbers", "bounds", "number", "low", "high"]
theorem sc_are_within : FnScope N_are_within ["numbers", "bounds"] (defScope s_are_within) := ⟨rfl, rfl, rfl, by decide +kernel, rfl, by decide +kernel, by decide +kernel⟩
def t_are_within (K : PySem.W.Frag) : TS := (tRet (tCB (rAll K) (tCons (tLc (iZipLT K (tCons (tVar 0) (tCons (tVar 1) tNil))) (gTup K 2 (gCons (gName 2) (gCons (gTup K 2 (gCons (gName 3) (gCons (gName 4) gNil))) gNil))) tYes (tAndV (tOp rLeI (tVar 3) (tVar 2)) (tOp rLeI (tVar 2) (tVar 4))) [2, 3, 4]) tNil)))
theorem findIdx_at {α : Type} {L : List α} {p : α → Bool} {i : Nat} {l : α} (h : (L.take i).findIdx? p = none) (hi : L[i]? = some l) (hp : p l = true) : L.findIdx? p = some i := by
  have hl := (List.getElem?_eq_some_iff.mp hi).1
  have e : L = L.take i ++ l :: L.drop (i + 1) := by
    have e1 := (List.getElem?_eq_some_iff.mp hi).2
    rw [← e1, List.getElem_cons_drop, List.take_append_drop]
  have lt : (L.take i).length = i := by rw [List.length_take]; omega
  rw [e, List.findIdx?_append, h, List.findIdx?_cons, hp, lt]
  simp
theorem findIdx_no {α : Type} {L : List α} {p : α → Bool} {i : Nat} {l : α} (h : (L.take i).findIdx? p = none) (hi : L[i]? = some l) (hp : p l = false) : (L.take (i + 1)).findIdx? p = none := by
  rw [take_more hi, List.findIdx?_append, h, List.findIdx?_cons, hp]
  simp
theorem zipLT_c {K : PySem.W.Frag} {σ : L2.St} {H : Hp} {ta : TA} {a b : Addr} {xs ys : List V} {R : It → Hp → Prop} (h1 : VA ta σ H [.ref a, .ref b]) (hx : SqL K H a xs) (hy : SqT K H b ys) (q : R (Izt K a b xs ys) H) : iZipLT K ta σ H R := h1 _ ⟨a, b, xs, ys, rfl, hx, hy, q⟩
section
variable {P : Program} {w : World} {K : PySem.W.Frag} {mg : Str → Option Value} {base : Heap}
theorem new_lst {σ : L2.St} {H : Hp} (Q : VK) (q : ∀ l H1, H l = none → Same H H1 → H1 l = some (.lst []) → Q (.ref l) H1) : tLst tNil σ H Q := e_lst va_nil rfl fun p hp => q p _ hp (same_new hp) upd_same
theorem pure_Plan_init (T : Txt w K mg) (vs : List V) (H : Hp) (Q : VK) (E : XK) (h : sp_Plan_init K vs H Q E) : t_Plan_init K { nx := fun _ H' => Q .non H', rt := Q } (start N_Plan_init vs) H := by
  obtain ⟨p, dx, rfl, hp, k⟩ := h
  refine fld_new (P := fun l H1 => H1 l = some (.lst [])) (fun Q q => new_lst Q q) rfl hp T.c_Plan T.n_Plan_services (by show 0 < 1000; decide) fun sv H1 H2 n1 s1 l1 p2 f2 => ?_
  have a1 : sv ≠ p := (ne_of_none hp n1).symm
  refine fld_new (P := fun l H1 => H1 l = some (.lst [])) (fun Q q => new_lst Q q) rfl p2 T.c_Plan T.n_Plan_asks (by show 1 < 1000; decide) fun ak H3 H4 n3 s3 l3 p4 f4 => ?_
  have n3' : H ak = none := by
    cases e : H ak with
    | none => rfl
    | some o =>
      have : ak ≠ p := fun z => by rw [z, p2] at n3; cases n3
      rw [f2 _ _ (s1 _ _ e) this] at n3
      cases n3
  have a2 : ak ≠ p := fun z => by rw [z, p2] at n3; cases n3
  have b1 : sv ≠ ak := fun z => by rw [← z, f2 _ _ l1 a1] at n3; cases n3
  have l1' : H4 sv = some (.lst []) := f4 _ _ (s3 _ _ (f2 _ _ l1 a1)) a1
  have l3' : H4 ak = some (.lst []) := f4 _ _ l3 a2
  refine fld_new (P := fun l H1 => H1 l = some (.lst [])) (fun Q q => new_lst Q q) rfl p4 T.c_Plan T.n_Plan_gates (by show 2 < 1000; decide) fun gt H5 H6 n5 s5 l5 p6 f6 => ?_
  have a3 : gt ≠ p := fun z => by rw [z, p4] at n5; cases n5
  have n5' : H gt = none := by
    cases e : H gt with
    | none => rfl
    | some o =>
      rw [f4 _ _ (s3 _ _ (f2 _ _ (s1 _ _ e) a3)) a3] at n5
      cases n5
  have b2 : sv ≠ gt := fun z => by rw [← z, l1'] at n5; cases n5
  have b3 : ak ≠ gt := fun z => by rw [← z, l3'] at n5; cases n5
  have e : putF "gates" (.ref gt) (putF "asks" (.ref ak) (putF "services" (.ref sv) [])) = plF sv ak gt := by kernel_rfl
  exact k H6 sv ak gt ⟨dx, by rw [p6, e]⟩ (f6 _ _ (s5 _ _ l1') a1) (f6 _ _ (s5 _ _ l3') a2) (f6 _ _ l5 a3) (by simp [b1, b2, b3]) n1 n3' n5' fun b o hb hne => f6 _ _ (s5 _ _ (f4 _ _ (s3 _ _ (f2 _ _ (s1 _ _ hb) hne)) hne)) hne
theorem pure_Service_init (T : Txt w K mg) (vs : List V) (H : Hp) (Q : VK) (E : XK) (h : sp_Service_init K vs H Q E) : t_Service_init K { nx := fun _ H' => Q .non H', rt := Q } (start N_Service_init vs) H := by
  obtain ⟨p, dx, nm, x, y, rfl, hp, k⟩ := h
  refine fld_val (val_var (v := .ref nm) rfl) rfl hp T.c_Service T.n_Service_name (by show 0 < 1000; decide) fun H1 p1 f1 => ?_
  refine fld_val (val_var (v := .int (x : Int)) rfl) rfl p1 T.c_Service T.n_Service_workers (by show 1 < 1000; decide) fun H2 p2 f2 => ?_
  refine fld_val (val_var (v := .int (y : Int)) rfl) rfl p2 T.c_Service T.n_Service_queue (by show 2 < 1000; decide) fun H3 p3 f3 => ?_
  refine fld_new (P := fun l H1 => H1 l = some (.lst [])) (fun Q q => new_lst Q q) rfl p3 T.c_Service T.n_Service_steps (by show 3 < 1000; decide) fun st H4 H5 n4 s4 l4 p5 f5 => ?_
  have a : st ≠ p := fun z => by rw [z, p3] at n4; cases n4
  refine k H5 st (fun n => ⟨dx, ?_⟩) (f5 _ _ l4 a) ?_ fun b o hb hne => f5 _ _ (s4 _ _ (f3 _ _ (f2 _ _ (f1 _ _ hb hne) hne) hne)) hne
  · have e : putF "steps" (.ref st) (putF "queue" (.int (y : Int)) (putF "workers" (.int (x : Int)) (putF "name" (.ref nm) []))) = svF nm ⟨n, x, y, []⟩ st := by kernel_rfl
    rw [p5, e]
  · cases e : H st with
    | none => rfl
    | some o =>
      rw [f3 _ _ (f2 _ _ (f1 _ _ e a) a) a] at n4
      cases n4
theorem pure_Ask_init (T : Txt w K mg) (vs : List V) (H : Hp) (Q : VK) (E : XK) (h : sp_Ask_init K vs H Q E) : t_Ask_init K { nx := fun _ H' => Q .non H', rt := Q } (start N_Ask_init vs) H := by
  obtain ⟨p, dx, j, x, y, z, rfl, hp, k⟩ := h
  refine fld_val (val_var (v := .int (j : Int)) rfl) rfl hp T.c_Ask T.n_Ask_target (by show 0 < 1000; decide) fun H1 p1 f1 => ?_
  refine fld_val (val_var (v := .int (x : Int)) rfl) rfl p1 T.c_Ask T.n_Ask_timeout (by show 1 < 1000; decide) fun H2 p2 f2 => ?_
  refine fld_val (val_var (v := .int (y : Int)) rfl) rfl p2 T.c_Ask T.n_Ask_tries (by show 2 < 1000; decide) fun H3 p3 f3 => ?_
  refine fld_val (val_var (v := .int (z : Int)) rfl) rfl p3 T.c_Ask T.n_Ask_wait (by show 3 < 1000; decide) fun H4 p4 f4 => ?_
  refine fld_val (val_c (v := .bl false)) rfl p4 T.c_Ask T.n_Ask_is_optional (by show 4 < 1000; decide) fun H5 p5 f5 => ?_
  refine fld_val (val_c (v := .int 0)) rfl p5 T.c_Ask T.n_Ask_cost (by show 5 < 1000; decide) fun H6 p6 f6 => ?_
  refine fld_val (val_c (v := .int 0)) rfl p6 T.c_Ask T.n_Ask_limit (by show 6 < 1000; decide) fun H7 p7 f7 => ?_
  refine fld_val (val_c (v := .int 0)) rfl p7 T.c_Ask T.n_Ask_span (by show 7 < 1000; decide) fun H8 p8 f8 => ?_
  refine k H8 ⟨dx, ?_⟩ fun b o hb hne => f8 _ _ (f7 _ _ (f6 _ _ (f5 _ _ (f4 _ _ (f3 _ _ (f2 _ _ (f1 _ _ hb hne) hne) hne) hne) hne) hne) hne) hne
  have e : putF "span" (.int 0) (putF "limit" (.int 0) (putF "cost" (.int 0) (putF "is_optional" (.bl false) (putF "wait" (.int (z : Int)) (putF "tries" (.int (y : Int)) (putF "timeout" (.int (x : Int)) (putF "target" (.int (j : Int)) []))))))) = akF ⟨j, x, y, z, false, 0, 0, 0⟩ false := by kernel_rfl
  rw [p8, e]
theorem pure_Gate_init (T : Txt w K mg) (vs : List V) (H : Hp) (Q : VK) (E : XK) (h : sp_Gate_init K vs H Q E) : t_Gate_init K { nx := fun _ H' => Q .non H', rt := Q } (start N_Gate_init vs) H := by
  obtain ⟨p, dx, nm, i, x, rfl, hp, k⟩ := h
  refine fld_val (val_var (v := .ref nm) rfl) rfl hp T.c_Gate T.n_Gate_name (by show 0 < 1000; decide) fun H1 p1 f1 => ?_
  refine fld_val (val_var (v := .int (i : Int)) rfl) rfl p1 T.c_Gate T.n_Gate_service (by show 1 < 1000; decide) fun H2 p2 f2 => ?_
  refine fld_val (val_var (v := .int (x : Int)) rfl) rfl p2 T.c_Gate T.n_Gate_timeout (by show 2 < 1000; decide) fun H3 p3 f3 => ?_
  refine k H3 (fun n => ⟨dx, ?_⟩) fun b o hb hne => f3 _ _ (f2 _ _ (f1 _ _ hb hne) hne) hne
  have e : putF "timeout" (.int (x : Int)) (putF "service" (.int (i : Int)) (putF "name" (.ref nm) [])) = gtF nm ⟨n, i, x⟩ := by kernel_rfl
  rw [p3, e]
theorem pure_place_of (T : Txt w K mg) (vs : List V) (H : Hp) (Q : VK) (E : XK) (h : sp_place_of K vs H Q E) : t_place_of K { nx := fun _ H' => Q .non H', rt := Q } (start N_place_of vs) H := by
  obtain ⟨r, nm, rows, names, w, rfl, hr, hl, hN, hnm, kk⟩ := h
  refine val_var (v := .ref r) rfl _ ⟨r, rows.map V.ref, rfl, SqL.of hr, for_it (walk_enum (xs := rows.map V.ref)) (fun i σ' H' => ∃ y z : Option V, σ' = [some (.ref r), some (.ref nm), y, z] ∧ Same H H' ∧ (names.take i).findIdx? (fun v => v == w) = none) ⟨none, none, rfl, Same.refl H, rfl⟩ (fun i σ' H' _ ⟨_, _, _, s, _⟩ => SqL.of (s _ _ hr)) ?_ ?_⟩
  · rintro i x σ' H1 H2 hi ⟨y, z, rfl, s, hf⟩ ⟨t, u, v, rfl, ht, rfl, e1, e2⟩
    rw [List.length_map] at hi
    cases e1
    have e2 : (rows.map V.ref)[i]? = some v := e2
    have hin : i < names.length := by rw [← hl]; exact hi
    have en := List.getElem?_eq_getElem hin
    generalize names[i] = wn at en
    obtain ⟨p, ep, C, dx, fs, nmi, q1, q2, q3, q4, q5⟩ := hN i wn en
    rw [List.getElem?_map, ep] at e2
    cases e2
    have s2 : Same H (upd H1 t (.tup [V.int (i : Nat), V.ref p])) := fun b o z => same_new ht _ _ (s _ _ z)
    refine ⟨t, _, rfl, SqT.of upd_same, rfl, _, _, rfl, _, _, rfl, rfl, ?_⟩
    refine st_if (b := wn == w) (ans_t (val_op (val_fld (val_var rfl) (s2 _ _ q1) q2 q3 q4) (val_var rfl) fun _ q => ⟨_, _, dp_list (SqL.of (s2 _ _ q5)), dp_list (Same.seq s2 hnm), shaped_ints _, shaped_ints _, ?_⟩)) (fun h => ?_) (fun h => ?_)
    · have e : PyData.eqv (.list (wn.map fun (n : Nat) => PyData.int (n : Int))) (.list (w.map fun (n : Nat) => PyData.int (n : Int))) = (wn == w) := by
        refine (eqv_ints _ _).trans ?_
        rw [Bool.eq_iff_iff, decide_eq_true_iff, beq_iff_eq]
      rw [e]
      exact q
    · have e := findIdx_at hf en h
      rw [e] at kk
      exact st_ret (val_var (v := .int (i : Int)) rfl) (kk _ s2)
    · exact ⟨_, _, rfl, s2, findIdx_no hf en h⟩
  · rintro σ' H' ⟨y, z, rfl, s, hf⟩
    rw [List.length_map, hl, List.take_length] at hf
    rw [hf] at kk
    exact kk H' s
theorem pure_are_within (T : Txt w K mg) (vs : List V) (H : Hp) (Q : VK) (E : XK) (h : sp_are_within K vs H Q E) : t_are_within K { nx := fun _ H' => Q .non H', rt := Q } (start N_are_within vs) H := by
  obtain ⟨p, b, ns, tb, bs, rfl, hx, hb, l1, l2, hz, hB, kk⟩ := h
  have lb : (byV ns).length = ns.length := List.length_map _
  refine e_ret (e_all ?_)
  refine zipLT_c (a := p) (b := b) ?_ hx hb ?_
  · exact va_cons (val_var rfl) (va_cons (val_var rfl) va_nil)
  refine fun D hD => lc_it (walk_zt (n := ns.length) lb (by rw [List.length_map]; omega)) (fun i H' => Same H H' ∧ H' D = some (.lst ((((ns.zip bs).take i).map fun q => decide (q.2.1 ≤ q.1) && decide (q.1 ≤ q.2.2)).map V.bl))) ⟨same_put (Same.refl H) hD, upd_same⟩ (fun i H' _ p => ⟨Same.seq p.1 hx, st_ne hb (p.1 b)⟩) ?_ ?_
  · rintro i x H1 H2 hi ⟨s, hd⟩ ⟨t, u, v, rfl, ht, rfl, e1, e2⟩
    have en := List.getElem?_eq_getElem hi
    generalize ns[i] = n at en
    have eb := List.getElem?_eq_getElem (show i < bs.length by omega)
    generalize bs[i]'(by omega) = lh at eb
    obtain ⟨lo, hi2⟩ := lh
    obtain ⟨tt, et, hT⟩ := hB i lo hi2 eb
    have e1 : (byV ns)[i]? = some u := e1
    have e2 : (tb.map V.ref)[i]? = some v := e2
    unfold byV at e1
    rw [List.getElem?_map, en] at e1
    rw [List.getElem?_map, et] at e2
    cases e1
    cases e2
    have s2 : Same H (upd H1 t (.tup [V.int (n : Nat), V.ref tt])) := fun b o z => same_new ht _ _ (s _ _ z)
    refine ⟨t, _, rfl, SqT.of upd_same, rfl, _, _, rfl, _, _, rfl, ⟨tt, _, rfl, st_ne hT (s2 tt), rfl, _, _, rfl, _, _, rfl, rfl, rfl, rfl, ans_yes _ (iteT ?_)⟩⟩
    refine v_go (val_and (val_le (val_var (v := .int (lo : Nat)) rfl) (val_var (v := .int (n : Nat)) rfl)) (fun _ => val_le (val_var (v := .int (n : Nat)) rfl) (val_var (v := .int (hi2 : Nat)) rfl)) rfl) ⟨_, same_new ht _ _ hd, ?_, same_upd s2 hD, ?_⟩
    · rw [List.length_map, List.length_map, List.length_take]
      exact Nat.lt_of_le_of_lt (Nat.min_le_left _ _) (Nat.lt_of_lt_of_le hi (Nat.le_trans hz (by decide)))
    · have ez : (ns.zip bs)[i]? = some (n, (lo, hi2)) := List.getElem?_zip_eq_some.mpr ⟨en, eb⟩
      rw [upd_same, take_more ez, List.map_append, List.map_append]
      show _ = some (HO.lst (_ ++ [V.bl (decide (lo ≤ n) && decide (n ≤ hi2))]))
      rw [show decide ((lo : Int) ≤ (n : Int)) = decide (lo ≤ n) from decide_eq_decide.mpr (by omega), show decide ((n : Int) ≤ (hi2 : Int)) = decide (n ≤ hi2) from decide_eq_decide.mpr (by omega)]
  · rintro H' ⟨s, hd⟩
    rw [List.take_of_length_le (by rw [List.length_zip]; omega)] at hd
    refine ⟨D, _, rfl, SqL.of hd, ?_⟩
    have e : ((ns.zip bs).map fun q => decide (q.2.1 ≤ q.1) && decide (q.1 ≤ q.2.2)).all id = inB ns bs := by
      rw [List.all_map] <;> rfl
    rw [e]
    exact kk H' s
theorem ok_Plan_init (T : Txt w K mg) : Has P w K mg base 1 (He.fAd K ("Plan", some "__init__")) ["self"] (sp_Plan_init K) := by
  refine Has.of (T.d_Plan_init) sc_Plan_init (fun _ _ _ _ _ _ us hl => match us, hl with | [_], _ => rfl) len_Plan_init (t_Plan_init K) (fun cdv A outer s H E hr => ?_) (pure_Plan_init T)
  have nd := sc_Plan_init.nd
  exact (pss_cons (ps_fld (pw 0) (pe_lst pa_nil) rfl)
      (pss_cons (ps_fld (pw 0) (pe_lst pa_nil) rfl)
      (pss_one (ps_fld (pw 0) (pe_lst pa_nil) rfl))))
theorem ok_Service_init (T : Txt w K mg) : Has P w K mg base 1 (He.fAd K ("Service", some "__init__")) ["self", "name", "workers", "queue"] (sp_Service_init K) := by
  refine Has.of (T.d_Service_init) sc_Service_init (fun _ _ _ _ _ _ us hl => match us, hl with | [_, _, _, _], _ => rfl) len_Service_init (t_Service_init K) (fun cdv A outer s H E hr => ?_) (pure_Service_init T)
  have nd := sc_Service_init.nd
  exact (pss_cons (ps_fld (pw 0) (pw 1) rfl)
      (pss_cons (ps_fld (pw 0) (pw 2) rfl)
      (pss_cons (ps_fld (pw 0) (pw 3) rfl)
      (pss_one (ps_fld (pw 0) (pe_lst pa_nil) rfl)))))
theorem ok_Ask_init (T : Txt w K mg) : Has P w K mg base 1 (He.fAd K ("Ask", some "__init__")) ["self", "target", "timeout", "tries", "wait"] (sp_Ask_init K) := by
  refine Has.of (T.d_Ask_init) sc_Ask_init (fun _ _ _ _ _ _ us hl => match us, hl with | [_, _, _, _, _], _ => rfl) len_Ask_init (t_Ask_init K) (fun cdv A outer s H E hr => ?_) (pure_Ask_init T)
  have nd := sc_Ask_init.nd
  exact (pss_cons (ps_fld (pw 0) (pw 1) rfl)
      (pss_cons (ps_fld (pw 0) (pw 2) rfl)
      (pss_cons (ps_fld (pw 0) (pw 3) rfl)
      (pss_cons (ps_fld (pw 0) (pw 4) rfl)
      (pss_cons (ps_fld (pw 0) pe_bl rfl)
      (pss_cons (ps_fld (pw 0) pe_int rfl)
      (pss_cons (ps_fld (pw 0) pe_int rfl)
      (pss_one (ps_fld (pw 0) pe_int rfl)))))))))
theorem ok_Gate_init (T : Txt w K mg) : Has P w K mg base 1 (He.fAd K ("Gate", some "__init__")) ["self", "name", "service", "timeout"] (sp_Gate_init K) := by
  refine Has.of (T.d_Gate_init) sc_Gate_init (fun _ _ _ _ _ _ us hl => match us, hl with | [_, _, _, _], _ => rfl) len_Gate_init (t_Gate_init K) (fun cdv A outer s H E hr => ?_) (pure_Gate_init T)
  have nd := sc_Gate_init.nd
  exact (pss_cons (ps_fld (pw 0) (pw 1) rfl)
      (pss_cons (ps_fld (pw 0) (pw 2) rfl)
      (pss_one (ps_fld (pw 0) (pw 3) rfl))))
theorem ok_place_of (T : Txt w K mg) : Has P w K mg base 1 (He.fAd K ("place_of", none)) ["rows", "name"] (sp_place_of K) := by
  refine Has.of (T.d_place_of) sc_place_of (fun _ _ _ _ _ _ us hl => match us, hl with | [_, _], _ => rfl) len_place_of (t_place_of K) (fun cdv A outer s H E hr => ?_) (pure_place_of T)
  have nd := sc_place_of.nd
  exact (pss_cons (ps_for PassesOwn.never rfl (pi_enum (by rfl) T.b_enumerate (pa_cons (pw 0) pa_nil)) (pg_tup rfl (pgs_cons (pg_name (i := 2) nd rfl (Or.inl rfl)) (pgs_cons (pg_name (i := 3) nd rfl (Or.inl rfl)) pgs_nil))) (pss_one (ps_if (pt_cmpR (op_eqD hr.units) (pe_fld (pw 3) rfl) (pw 1) (nomark _)) (pss_one (ps_ret (pw 2))) pss_nil)))
      (pss_one (ps_ret (pe_gi rfl T.i_MISSING))))
theorem ok_are_within (T : Txt w K mg) : Has P w K mg base 1 (He.fAd K ("are_within", none)) ["numbers", "bounds"] (sp_are_within K) := by
  refine Has.of (T.d_are_within) sc_are_within (fun _ _ _ _ _ _ us hl => match us, hl with | [_, _], _ => rfl) len_are_within (t_are_within K) (fun cdv A outer s H E hr => ?_) (pure_are_within T)
  have nd := sc_are_within.nd
  exact (pss_one (ps_ret (pe_callB (cr_all rfl) (by rfl) T.b_all (by decide +kernel) (pa_cons (pe_lc (own := [("number", 2), ("low", 3), ("high", 4)]) (by rfl) nd (pi_zipLT (by rfl) T.b_zip (pa_cons (pw 0) (pa_cons (pw 1) pa_nil))) (blkOk_by (own := [("number", 2), ("low", 3), ("high", 4)]) (N := N_are_within) (sc := defScope s_are_within) (by decide +kernel)) (fun _ _ _ _ _ => (pg_tup rfl (pgs_cons (pg_name (i := 2) nd rfl (Or.inl rfl)) (pgs_cons (pg_tup rfl (pgs_cons (pg_name (i := 3) nd rfl (Or.inl rfl)) (pgs_cons (pg_name (i := 4) nd rfl (Or.inl rfl)) pgs_nil))) pgs_nil)))) (fun _ _ _ _ _ => pts_nil) (fun _ _ _ _ _ => (pe_and (pe_cmpR op_le (pw 3) (pw 2) (nomark _)) (pe_one (pe_cmpR op_le (pw 2) (pw 4) (nomark _)))))) pa_nil))))
end
end Cc
end

/-! ## CcPlanC -/
section
set_option maxRecDepth 100000
set_option maxHeartbeats 4000000
/-! A plan while it is read: the directives. -/
namespace Cc
open PySem PySem.Spec PyProof.Rows L2
def After2 (K : PySem.W.Frag) (pl : Addr) (P : PAd) (H : Hp) (out : Nat × Gp27.House) (Q : VK) : Prop := ∀ (H' : Hp) (P' : PAd), BP K H' pl P' out.2 → PExt P P' H H' → Q (.int (out.1 : Nat)) H'
def spRd (K : PySem.W.Frag) (nn nk : Nat) (f : Gp27.House → List (List Nat) → List Nat → Nat × Gp27.House) : Sp := fun vs H Q _ => ∃ (pl pn pk : Addr) (P : PAd) (h : Gp27.House) (names : List (List Nat)) (nums : List Nat), vs = [.ref pl, .ref pn, .ref pk] ∧ BP K H pl P h ∧ ListsAt H pn names ∧ H pk = some (.lst (byV nums)) ∧
  names.length = nn ∧ nums.length = nk ∧ (∀ v ∈ names, v ≠ []) ∧ After2 K pl P H (f h names nums) Q
theorem len_rd {K : PySem.W.Frag} {nn nk : Nat} {f : Gp27.House → List (List Nat) → List Nat → Nat × Gp27.House} : ∀ vs H Q E, spRd K nn nk f vs H Q E → vs.length = (["plan", "names", "numbers"] : List Str).length := by rintro _ _ _ _ ⟨_, _, _, _, _, _, _, rfl, _⟩; rfl
def rdService (h : Gp27.House) (n : List (List Nat)) (k : List Nat) : Nat × Gp27.House := Cw.doService h (n.getD 0 []) (k.getD 0 0) (k.getD 1 0)
def rdWork (h : Gp27.House) (n : List (List Nat)) (k : List Nat) : Nat × Gp27.House := Cw.doWork h (n.getD 0 []) (k.getD 0 0)
def rdAsk (h : Gp27.House) (n : List (List Nat)) (k : List Nat) : Nat × Gp27.House := Cw.doAsk h (n.getD 0 []) (n.getD 1 []) (k.getD 0 0) (k.getD 1 0) (k.getD 2 0)
def rdMay (h : Gp27.House) (n : List (List Nat)) (_ : List Nat) : Nat × Gp27.House := Cw.doMay h (n.getD 0 [])
def rdBudget (h : Gp27.House) (n : List (List Nat)) (k : List Nat) : Nat × Gp27.House := Cw.doBudget h (n.getD 0 []) (k.getD 0 0)
def rdBreaker (h : Gp27.House) (n : List (List Nat)) (k : List Nat) : Nat × Gp27.House := Cw.doBreaker h (n.getD 0 []) (k.getD 0 0) (k.getD 1 0)
def rdEntry (h : Gp27.House) (n : List (List Nat)) (k : List Nat) : Nat × Gp27.House := Cw.doEntry h (n.getD 0 []) (n.getD 1 []) (k.getD 0 0)
abbrev sp_read_service (K : PySem.W.Frag) : Sp := spRd K 1 2 rdService
abbrev sp_read_work (K : PySem.W.Frag) : Sp := spRd K 1 1 rdWork
abbrev sp_read_ask (K : PySem.W.Frag) : Sp := spRd K 2 3 rdAsk
abbrev sp_read_may (K : PySem.W.Frag) : Sp := spRd K 1 0 rdMay
abbrev sp_read_budget (K : PySem.W.Frag) : Sp := spRd K 1 1 rdBudget
abbrev sp_read_breaker (K : PySem.W.Frag) : Sp := spRd K 1 2 rdBreaker
abbrev sp_read_entry (K : PySem.W.Frag) : Sp := spRd K 2 1 rdEntry
def sp_last_ask (K : PySem.W.Frag) : Sp := fun vs H Q _ => ∃ (pl nm : Addr) (P : PAd) (h : Gp27.House) (n : List Nat), vs = [.ref pl, .ref nm] ∧ BP K H pl P h ∧ H nm = some (.lst (byV n)) ∧
  ∀ (H' : Hp) (t : Addr) (v : V), Same H H' → H' t = some (.tup [.int ((Cw.lastOf h n).1 : Nat), v]) → ((Cw.lastOf h n).1 = 0 → ∃ p s, v = .ref p ∧ P.as[(Cw.lastOf h n).2]? = some p ∧ h.asks[(Cw.lastOf h n).2]? = some s) → Q (.ref t) H'
section
variable {K : PySem.W.Frag}
theorem len_read_service : ∀ vs H Q E, sp_read_service K vs H Q E → vs.length = (["plan", "names", "numbers"] : List Str).length := len_rd
theorem len_read_work : ∀ vs H Q E, sp_read_work K vs H Q E → vs.length = (["plan", "names", "numbers"] : List Str).length := len_rd
theorem len_read_ask : ∀ vs H Q E, sp_read_ask K vs H Q E → vs.length = (["plan", "names", "numbers"] : List Str).length := len_rd
theorem len_read_may : ∀ vs H Q E, sp_read_may K vs H Q E → vs.length = (["plan", "names", "numbers"] : List Str).length := len_rd
theorem len_read_budget : ∀ vs H Q E, sp_read_budget K vs H Q E → vs.length = (["plan", "names", "numbers"] : List Str).length := len_rd
theorem len_read_breaker : ∀ vs H Q E, sp_read_breaker K vs H Q E → vs.length = (["plan", "names", "numbers"] : List Str).length := len_rd
theorem len_read_entry : ∀ vs H Q E, sp_read_entry K vs H Q E → vs.length = (["plan", "names", "numbers"] : List Str).length := len_rd
theorem len_last_ask : ∀ vs H Q E, sp_last_ask K vs H Q E → vs.length = (["plan", "name"] : List Str).length := by rintro _ _ _ _ ⟨_, _, _, _, _, rfl, _⟩; rfl
end
abbrev N_read_service : List Str := ["plan", "names", "numbers"]
theorem sc_read_service : FnScope N_read_service ["plan", "names", "numbers"] (defScope s_read_service) := ⟨rfl, rfl, rfl, by decide +kernel, rfl, by decide +kernel, by decide +kernel⟩
def t_read_service (K : PySem.W.Frag) : TS := (tSeq (tIfS (tTest (tOp rNe (tCall (sp_place_of K) [] E0 (tCons (tFld K (tVar 0) "services") (tCons (tOp (rIxL K) (tVar 1) (tC (.int 0))) tNil))) (tC (.int (-1))))) (tRet (tC (.int (5)))) tNext)
  (tSeq (tIfS (tNot (tB (tCall (sp_are_within K) [] E0 (tCons (tVar 2) (tCons (tC (.ref (He.ga K "SERVICE_BOUNDS"))) tNil))))) (tRet (tC (.int (7)))) tNext)
  (tSeq (tIfS (tTest (tOp rEq (tCB (rLenQ K) (tCons (tFld K (tVar 0) "services") tNil)) (tC (.int (8))))) (tRet (tC (.int (8)))) tNext)
  (tSeq (tDrop (tBM K "list" rAppend (tFld K (tVar 0) "services") (tCons (tMake (cService K) (sp_Service_init K) [] E0 (tCons (tOp (rIxL K) (tVar 1) (tC (.int 0))) (tCons (tOp (rIxL K) (tVar 2) (tC (.int 0))) (tCons (tOp (rIxL K) (tVar 2) (tC (.int 1))) tNil)))) tNil)))
  (tRet (tC (.int (0))))))))
abbrev N_read_work : List Str := ["plan", "names", "numbers", "at"]
theorem sc_read_work : FnScope N_read_work ["plan", "names", "numbers"] (defScope s_read_work) := ⟨rfl, rfl, rfl, by decide +kernel, rfl, by decide +kernel, by decide +kernel⟩
def t_read_work (K : PySem.W.Frag) : TS := (tSeq (tAsg (tCall (sp_place_of K) [] E0 (tCons (tFld K (tVar 0) "services") (tCons (tOp (rIxL K) (tVar 1) (tC (.int 0))) tNil))) (gName 3))
  (tSeq (tIfS (tTest (tOp rEq (tVar 3) (tC (.int (-1))))) (tRet (tC (.int (6)))) tNext)
  (tSeq (tIfS (tNot (tB (tCall (sp_are_within K) [] E0 (tCons (tVar 2) (tCons (tC (.ref (He.ga K "WORK_BOUNDS"))) tNil))))) (tRet (tC (.int (7)))) tNext)
  (tSeq (tIfS (tTest (tOp rEq (tCB (rLenQ K) (tCons (tFld K (tOp (rIxL K) (tFld K (tVar 0) "services") (tVar 3)) "steps") tNil)) (tC (.int (5))))) (tRet (tC (.int (8)))) tNext)
  (tSeq (tDrop (tBM K "list" rAppend (tFld K (tOp (rIxL K) (tFld K (tVar 0) "services") (tVar 3)) "steps") (tCons (tTup (tCons (tC (.int (0))) (tCons (tOp (rIxL K) (tVar 2) (tC (.int 0))) tNil))) tNil)))
  (tRet (tC (.int (0)))))))))
abbrev N_read_ask : List Str := ["plan", "names", "numbers", "at", "target"]
theorem sc_read_ask : FnScope N_read_ask ["plan", "names", "numbers"] (defScope s_read_ask) := ⟨rfl, rfl, rfl, by decide +kernel, rfl, by decide +kernel, by decide +kernel⟩
def t_read_ask (K : PySem.W.Frag) : TS := (tSeq (tAsg (tCall (sp_place_of K) [] E0 (tCons (tFld K (tVar 0) "services") (tCons (tOp (rIxL K) (tVar 1) (tC (.int 0))) tNil))) (gName 3))
  (tSeq (tAsg (tCall (sp_place_of K) [] E0 (tCons (tFld K (tVar 0) "services") (tCons (tOp (rIxL K) (tVar 1) (tC (.int 1))) tNil))) (gName 4))
  (tSeq (tIfS (tOr (tTest (tOp rEq (tVar 3) (tC (.int (-1))))) (tTest (tOp rEq (tVar 4) (tC (.int (-1)))))) (tRet (tC (.int (6)))) tNext)
  (tSeq (tIfS (tOr (tNot (tB (tCall (sp_are_within K) [] E0 (tCons (tVar 2) (tCons (tC (.ref (He.ga K "ASK_BOUNDS"))) tNil))))) (tTest (tOp rGeI (tVar 4) (tVar 3)))) (tRet (tC (.int (7)))) tNext)
  (tSeq (tIfS (tOr (tTest (tOp rEq (tCB (rLenQ K) (tCons (tFld K (tOp (rIxL K) (tFld K (tVar 0) "services") (tVar 3)) "steps") tNil)) (tC (.int (5))))) (tTest (tOp rEq (tCB (rLenQ K) (tCons (tFld K (tVar 0) "asks") tNil)) (tC (.int (12)))))) (tRet (tC (.int (8)))) tNext)
  (tSeq (tDrop (tBM K "list" rAppend (tFld K (tOp (rIxL K) (tFld K (tVar 0) "services") (tVar 3)) "steps") (tCons (tTup (tCons (tC (.int (1))) (tCons (tCB (rLenQ K) (tCons (tFld K (tVar 0) "asks") tNil)) tNil))) tNil)))
  (tSeq (tDrop (tBM K "list" rAppend (tFld K (tVar 0) "asks") (tCons (tMake (cAsk K) (sp_Ask_init K) [] E0 (tCons (tVar 4) (tCons (tOp (rIxL K) (tVar 2) (tC (.int 0))) (tCons (tOp (rIxL K) (tVar 2) (tC (.int 1))) (tCons (tOp (rIxL K) (tVar 2) (tC (.int 2))) tNil))))) tNil)))
  (tRet (tC (.int (0)))))))))))
abbrev N_last_ask : List Str := ["plan", "name", "at", "steps"]
theorem sc_last_ask : FnScope N_last_ask ["plan", "name"] (defScope s_last_ask) := ⟨rfl, rfl, rfl, by decide +kernel, rfl, by decide +kernel, by decide +kernel⟩
def t_last_ask (K : PySem.W.Frag) : TS := (tSeq (tAsg (tCall (sp_place_of K) [] E0 (tCons (tFld K (tVar 0) "services") (tCons (tVar 1) tNil))) (gName 2))
  (tSeq (tIfS (tTest (tOp rEq (tVar 2) (tC (.int (-1))))) (tRet (tTup (tCons (tC (.int (6))) (tCons (tC .non) tNil)))) tNext)
  (tSeq (tAsg (tFld K (tOp (rIxL K) (tFld K (tVar 0) "services") (tVar 2)) "steps") (gName 3))
  (tSeq (tIfS (tOr (tTest (tOp (rEqE K) (tVar 3) (tLst tNil))) (tTest (tOp rNe (tOp (rIxT K) (tOp (rIxL K) (tVar 3) (tOp rSubI (tCB (rLenQ K) (tCons (tVar 3) tNil)) (tC (.int 1)))) (tC (.int 0))) (tC (.int (1)))))) (tRet (tTup (tCons (tC (.int (4))) (tCons (tC .non) tNil)))) tNext)
  (tRet (tTup (tCons (tC (.int (0))) (tCons (tOp (rIxL K) (tFld K (tVar 0) "asks") (tOp (rIxT K) (tOp (rIxL K) (tVar 3) (tOp rSubI (tCB (rLenQ K) (tCons (tVar 3) tNil)) (tC (.int 1)))) (tC (.int 1)))) tNil))))))))
abbrev N_read_may : List Str := ["plan", "names", "numbers", "code", "ask"]
theorem sc_read_may : FnScope N_read_may ["plan", "names", "numbers"] (defScope s_read_may) := ⟨rfl, rfl, rfl, by decide +kernel, rfl, by decide +kernel, by decide +kernel⟩
def t_read_may (K : PySem.W.Frag) : TS := (tSeq (tAsg (tCall (sp_last_ask K) [] E0 (tCons (tVar 0) (tCons (tOp (rIxL K) (tVar 1) (tC (.int 0))) tNil))) (gTup K 2 (gCons (gName 3) (gCons (gName 4) gNil))))
  (tSeq (tIfS (tTest (tOp rEq (tVar 3) (tC (.int (0))))) (sFld K (tVar 4) (tC (.bl true)) "is_optional") tNext)
  (tRet (tVar 3))))
abbrev N_read_budget : List Str := ["plan", "names", "numbers", "code", "ask"]
theorem sc_read_budget : FnScope N_read_budget ["plan", "names", "numbers"] (defScope s_read_budget) := ⟨rfl, rfl, rfl, by decide +kernel, rfl, by decide +kernel, by decide +kernel⟩
def t_read_budget (K : PySem.W.Frag) : TS := (tSeq (tAsg (tCall (sp_last_ask K) [] E0 (tCons (tVar 0) (tCons (tOp (rIxL K) (tVar 1) (tC (.int 0))) tNil))) (gTup K 2 (gCons (gName 3) (gCons (gName 4) gNil))))
  (tSeq (tIfS (tTest (tOp rNe (tVar 3) (tC (.int (0))))) (tRet (tVar 3)) tNext)
  (tSeq (tIfS (tNot (tB (tCall (sp_are_within K) [] E0 (tCons (tVar 2) (tCons (tC (.ref (He.ga K "BUDGET_BOUNDS"))) tNil))))) (tRet (tC (.int (7)))) tNext)
  (tSeq (sFld K (tVar 4) (tOp (rIxL K) (tVar 2) (tC (.int 0))) "cost")
  (tRet (tC (.int (0))))))))
abbrev N_read_breaker : List Str := ["plan", "names", "numbers", "code", "ask"]
theorem sc_read_breaker : FnScope N_read_breaker ["plan", "names", "numbers"] (defScope s_read_breaker) := ⟨rfl, rfl, rfl, by decide +kernel, rfl, by decide +kernel, by decide +kernel⟩
def t_read_breaker (K : PySem.W.Frag) : TS := (tSeq (tAsg (tCall (sp_last_ask K) [] E0 (tCons (tVar 0) (tCons (tOp (rIxL K) (tVar 1) (tC (.int 0))) tNil))) (gTup K 2 (gCons (gName 3) (gCons (gName 4) gNil))))
  (tSeq (tIfS (tTest (tOp rNe (tVar 3) (tC (.int (0))))) (tRet (tVar 3)) tNext)
  (tSeq (tIfS (tNot (tB (tCall (sp_are_within K) [] E0 (tCons (tVar 2) (tCons (tC (.ref (He.ga K "BREAKER_BOUNDS"))) tNil))))) (tRet (tC (.int (7)))) tNext)
  (tSeq (sFld K (tVar 4) (tOp (rIxL K) (tVar 2) (tC (.int 0))) "limit")
  (tSeq (sFld K (tVar 4) (tOp (rIxL K) (tVar 2) (tC (.int 1))) "span")
  (tRet (tC (.int (0)))))))))
abbrev N_read_entry : List Str := ["plan", "names", "numbers", "service"]
theorem sc_read_entry : FnScope N_read_entry ["plan", "names", "numbers"] (defScope s_read_entry) := ⟨rfl, rfl, rfl, by decide +kernel, rfl, by decide +kernel, by decide +kernel⟩
def t_read_entry (K : PySem.W.Frag) : TS := (tSeq (tIfS (tTest (tOp rNe (tCall (sp_place_of K) [] E0 (tCons (tFld K (tVar 0) "gates") (tCons (tOp (rIxL K) (tVar 1) (tC (.int 0))) tNil))) (tC (.int (-1))))) (tRet (tC (.int (5)))) tNext)
  (tSeq (tAsg (tCall (sp_place_of K) [] E0 (tCons (tFld K (tVar 0) "services") (tCons (tOp (rIxL K) (tVar 1) (tC (.int 1))) tNil))) (gName 3))
  (tSeq (tIfS (tTest (tOp rEq (tVar 3) (tC (.int (-1))))) (tRet (tC (.int (6)))) tNext)
  (tSeq (tIfS (tNot (tB (tCall (sp_are_within K) [] E0 (tCons (tVar 2) (tCons (tC (.ref (He.ga K "ENTRY_BOUNDS"))) tNil))))) (tRet (tC (.int (7)))) tNext)
  (tSeq (tIfS (tTest (tOp rEq (tCB (rLenQ K) (tCons (tFld K (tVar 0) "gates") tNil)) (tC (.int (4))))) (tRet (tC (.int (8)))) tNext)
  (tSeq (tDrop (tBM K "list" rAppend (tFld K (tVar 0) "gates") (tCons (tMake (cGate K) (sp_Gate_init K) [] E0 (tCons (tOp (rIxL K) (tVar 1) (tC (.int 0))) (tCons (tVar 3) (tCons (tOp (rIxL K) (tVar 2) (tC (.int 0))) tNil)))) tNil)))
  (tRet (tC (.int (0))))))))))
section
variable {σ : L2.St} {K : PySem.W.Frag} {H : Hp} {D : Ends} {Q : VK} {pl : Addr} {P : PAd} {h : Gp27.House}
theorem st_ifne {te : TE} {t1 t2 : TS} {c : V} (h : te σ H fun x H1 => scal x c = true ∧ ∃ b, V.bl (!decide (x = c)) = .bl b ∧ if b = true then t1 D σ H1 else t2 D σ H1) : tIfS (tTest (tOp rNe te (tC c))) t1 t2 D σ H := h
theorem st_ifnB {te : TE} {t1 t2 : TS} (h : te σ H fun v H1 => ∃ b, v = .bl b ∧ if (!b) = true then t1 D σ H1 else t2 D σ H1) : tIfS (tNot (tB te)) t1 t2 D σ H := h
theorem e_mk {C : Addr} {sp : Sp} {r : TA} {vs : List V} {E : XK} (hv : VA r σ H vs) (q : ∀ x dx, H x = none → H dx = none → dx ≠ x → sp (.ref x :: vs) (upd (upd H dx (.own x)) x (.ins C dx [])) (fun v H2 => v = .non ∧ Q (.ref x) H2) E) : tMake C sp [] E r σ H Q := by
  refine hv _ fun x dx h1 h2 h3 => ?_
  show sp (.ref x :: (vs ++ [])) _ _ E
  rw [List.append_nil]
  exact q x dx h1 h2 h3
theorem same_mk {H H' : Hp} {x dx C : Addr} (h1 : H x = none) (h2 : H dx = none) (f : Fr1 x (upd (upd H dx (.own x)) x (.ins C dx [])) H') : Same H H' := fun b o e => by
  have n1 : b ≠ x := fun z => by rw [z, h1] at e; cases e
  have n2 : b ≠ dx := fun z => by rw [z, h2] at e; cases e
  exact f b o (by rw [upd_ne n1, upd_ne n2]; exact e) n1
theorem none_mk {H : Hp} {x dx C st : Addr} (h : (upd (upd H dx (.own x)) x (.ins C dx [])) st = none) : H st = none := by
  have n1 : st ≠ x := fun z => by rw [z, upd_same] at h; cases h
  rw [upd_ne n1] at h
  have n2 : st ≠ dx := fun z => by rw [z, upd_same] at h; cases h
  rw [upd_ne n2] at h
  exact h
theorem place_sv {w : World} {mg : Str → Option Value} (T : Txt w K mg) (x : BP K H pl P h) {nm : Addr} {n : List Nat} (hnm : H nm = some (.lst (byV n))) {E : XK} (q : ∀ H', Same H H' → Q (.int (placeI (Gp27.serviceNamed h n))) H') : sp_place_of K [.ref P.sv, .ref nm] H Q E := by
  refine ⟨P.sv, nm, P.ss, h.services.map fun s => s.name, n, rfl, x.at_.sv, by rw [List.length_map]; exact x.at_.ls, fun i v hv => ?_, SqL.of hnm, fun H' s => ?_⟩
  · rw [List.getElem?_map] at hv
    cases e : h.services[i]? with
    | none => rw [e] at hv; cases hv
    | some s0 =>
      rw [e] at hv
      cases hv
      obtain ⟨p, nm0, st, e1, _, ⟨dx, e3⟩, e4, _⟩ := x.at_.svs i s0 e
      exact ⟨p, e1, _, dx, _, nm0, e3, T.c_Service, T.n_Service_name, by kernel_rfl, e4⟩
  · rw [List.findIdx?_map]
    exact q H' s
theorem place_gt {w : World} {mg : Str → Option Value} (T : Txt w K mg) (x : BP K H pl P h) {nm : Addr} {n : List Nat} (hnm : H nm = some (.lst (byV n))) {E : XK} (q : ∀ H', Same H H' → Q (.int (placeI (h.entries.findIdx? fun e => e.name == n))) H') : sp_place_of K [.ref P.gt, .ref nm] H Q E := by
  refine ⟨P.gt, nm, P.gs, h.entries.map fun s => s.name, n, rfl, x.at_.gt, by rw [List.length_map]; exact x.at_.lg, fun i v hv => ?_, SqL.of hnm, fun H' s => ?_⟩
  · rw [List.getElem?_map] at hv
    cases e : h.entries[i]? with
    | none => rw [e] at hv; cases hv
    | some s0 =>
      rw [e] at hv
      cases hv
      obtain ⟨p, nm0, e1, ⟨dx, e3⟩, e4⟩ := x.at_.gts i s0 e
      exact ⟨p, e1, _, dx, _, nm0, e3, T.c_Gate, T.n_Gate_name, by kernel_rfl, e4⟩
  · rw [List.findIdx?_map]
    exact q H' s
theorem within1 {pk b t : Addr} {lo hi x : Nat} {E : XK} (hk : H pk = some (.lst (byV [x]))) (hb : SqT K H b [.ref t]) (ht : SqT K H t [.int ((lo : Nat) : Int), .int ((hi : Nat) : Int)]) (q : ∀ H', Same H H' → Q (.bl (inB [x] [(lo, hi)])) H') : sp_are_within K [.ref pk, .ref b] H Q E :=
  ⟨pk, b, [x], [t], [(lo, hi)], rfl, SqL.of hk, hb, rfl, rfl, Nat.le_of_ble_eq_true rfl, fun i l u hh => (by
    match i, hh with
    | 0, hh => cases hh; exact ⟨t, rfl, ht⟩
    | _ + 1, hh => cases hh), q⟩
theorem within2 {pk b t t2 : Addr} {lo hi x lo2 hi2 y : Nat} {E : XK} (hk : H pk = some (.lst (byV [x, y]))) (hb : SqT K H b [.ref t, .ref t2]) (ht : SqT K H t [.int ((lo : Nat) : Int), .int ((hi : Nat) : Int)]) (ht2 : SqT K H t2 [.int ((lo2 : Nat) : Int), .int ((hi2 : Nat) : Int)])
    (q : ∀ H', Same H H' → Q (.bl (inB [x, y] [(lo, hi), (lo2, hi2)])) H') : sp_are_within K [.ref pk, .ref b] H Q E :=
  ⟨pk, b, [x, y], [t, t2], [(lo, hi), (lo2, hi2)], rfl, SqL.of hk, hb, rfl, rfl, Nat.le_of_ble_eq_true rfl, fun i l u hh => (by
    match i, hh with
    | 0, hh => cases hh; exact ⟨t, rfl, ht⟩
    | 1, hh => cases hh; exact ⟨t2, rfl, ht2⟩
    | _ + 2, hh => cases hh), q⟩
theorem within3 {pk b t t2 t3 : Addr} {lo hi x lo2 hi2 y lo3 hi3 z : Nat} {E : XK} (hk : H pk = some (.lst (byV [x, y, z]))) (hb : SqT K H b [.ref t, .ref t2, .ref t3]) (ht : SqT K H t [.int ((lo : Nat) : Int), .int ((hi : Nat) : Int)]) (ht2 : SqT K H t2 [.int ((lo2 : Nat) : Int), .int ((hi2 : Nat) : Int)]) (ht3 : SqT K H t3 [.int ((lo3 : Nat) : Int), .int ((hi3 : Nat) : Int)])
    (q : ∀ H', Same H H' → Q (.bl (inB [x, y, z] [(lo, hi), (lo2, hi2), (lo3, hi3)])) H') : sp_are_within K [.ref pk, .ref b] H Q E :=
  ⟨pk, b, [x, y, z], [t, t2, t3], [(lo, hi), (lo2, hi2), (lo3, hi3)], rfl, SqL.of hk, hb, rfl, rfl, Nat.le_of_ble_eq_true rfl, fun i l u hh => (by
    match i, hh with
    | 0, hh => cases hh; exact ⟨t, rfl, ht⟩
    | 1, hh => cases hh; exact ⟨t2, rfl, ht2⟩
    | 2, hh => cases hh; exact ⟨t3, rfl, ht3⟩
    | _ + 3, hh => cases hh), q⟩
theorem inB1 {x lo hi : Nat} : (!inB [x] [(lo, hi)]) = decide (x < lo ∨ hi < x) := by
  rw [Bool.eq_iff_iff, decide_eq_true_iff]
  simp [inB] <;> omega
theorem inB2 {x lo hi y lo2 hi2 : Nat} : (!inB [x, y] [(lo, hi), (lo2, hi2)]) = decide (x < lo ∨ hi < x ∨ y < lo2 ∨ hi2 < y) := by
  rw [Bool.eq_iff_iff, decide_eq_true_iff]
  simp [inB] <;> omega
theorem inB3 {x lo hi y lo2 hi2 z lo3 hi3 : Nat} : (!inB [x, y, z] [(lo, hi), (lo2, hi2), (lo3, hi3)]) = decide (x < lo ∨ hi < x ∨ y < lo2 ∨ hi2 < y ∨ z < lo3 ∨ hi3 < z) := by
  rw [Bool.eq_iff_iff, decide_eq_true_iff]
  simp [inB] <;> omega
theorem len3 {α : Type} {ns : List α} (h : ns.length = 3) : ∃ x y z, ns = [x, y, z] := by
  match ns, h with
  | [x, y, z], _ => exact ⟨x, y, z, rfl⟩
theorem ln1 {α : Type} {ns : List α} (h : ns.length = 1) : ∃ x, ns = [x] := by
  match ns, h with
  | [x], _ => exact ⟨x, rfl⟩
theorem ln2 {α : Type} {ns : List α} (h : ns.length = 2) : ∃ x y, ns = [x, y] := by
  match ns, h with
  | [x, y], _ => exact ⟨x, y, rfl⟩
theorem placeI_no {o : Option Nat} : (placeI o = -1) ↔ o = none := by
  cases o with
  | none => exact ⟨fun _ => rfl, fun _ => rfl⟩
  | some i => exact ⟨fun z => by have z : (i : Int) = -1 := z; omega, fun z => nomatch z⟩
/-- names[i] -/
theorem names_at {p : Addr} {l : List (List Nat)} (hL : ListsAt H p l) {i : Nat} {n : List Nat} (hn : l[i]? = some n) : ∃ (ps : List Addr) (q : Addr), H p = some (.lst (ps.map V.ref)) ∧ ps[i]? = some q ∧ H q = some (.lst (byV n)) := by
  obtain ⟨ps, h1, _, h3⟩ := hL
  obtain ⟨q, e1, _, e3⟩ := h3 i n hn
  exact ⟨ps, q, h1, e1, e3⟩
theorem any_idx {α : Type} {l : List α} {p : α → Bool} : l.any p = (l.findIdx? p).isSome := by
  rw [List.findIdx?_isSome]
/-- the services' own rows -/
theorem BP.row (x : BP K H pl P h) {i : Nat} (hi : i < h.services.length) : ∃ (p nm st : Addr) (ts : List Addr), P.ss[i]? = some p ∧ P.sts[i]? = some st ∧ AtService K H p nm (Cw.svc h i) st ∧ H st = some (.lst (ts.map V.ref)) ∧ ts.length = (Gp27.stepsOf h i).length ∧
    ∀ (j : Nat) y, (Gp27.stepsOf h i)[j]? = some y → ∃ t, ts[j]? = some t ∧ H t = some (.tup (stepV y)) := by
  obtain ⟨p, nm, st, e1, e2, e3, e4, ts, h1, h2, h3⟩ := x.at_.svs i _ (Cw.svc_eq hi)
  rw [← Cw.stepsOf_eq] at h2 h3
  exact ⟨p, nm, st, ts, e1, e2, e3, h1, h2, h3⟩
end
section
variable {P : Program} {w : World} {K : PySem.W.Frag} {mg : Str → Option Value} {base : Heap}
theorem pure_read_service (T : Txt w K mg) (vs : List V) (H : Hp) (Q : VK) (E : XK) (h : sp_read_service K vs H Q E) : t_read_service K { nx := fun _ H' => Q .non H', rt := Q } (start N_read_service vs) H := by
  obtain ⟨pl, pn, pk, P, h, names, nums, rfl, x, hN, hk, ln, lk, hne, kk⟩ := h
  obtain ⟨n, rfl⟩ := ln1 ln
  obtain ⟨a, b, rfl⟩ := ln2 lk
  have hn0 : n ≠ [] := hne n (List.mem_singleton.mpr rfl)
  obtain ⟨ps, q0, e1, e2, e3⟩ := names_at hN (i := 0) rfl
  have kk : After2 K pl P H (Cw.doService h n a b) Q := kk
  unfold Cw.doService at kk
  refine st_ifne (e_fn (va_cons (vpl_services T (val_var rfl) x.at_.at_) (va_cons (val_ix (n := 0) (val_var rfl) val_c (SqL.of e1) rfl (map_at e2)) va_nil)) (place_sv T x e3 fun H1 s1 => ⟨rfl, _, rfl, ?_⟩))
  have x1 := x.mono s1
  by_cases c1 : (Gp27.serviceNamed h n).isSome = true
  · rw [if_pos c1] at kk
    rw [show (!decide (V.int (placeI (Gp27.serviceNamed h n)) = V.int (-1))) = true by rw [Bool.not_eq_true', decide_eq_false_iff_not, vi_eq, placeI_no]; intro z; rw [z] at c1; cases c1]
    exact iteT (st_ret val_c (kk H1 P x1 (PExt.same s1)))
  rw [if_neg c1] at kk
  rw [show (!decide (V.int (placeI (Gp27.serviceNamed h n)) = V.int (-1))) = false by rw [Bool.not_eq_false', decide_eq_true_iff, vi_eq, placeI_no]; cases e : Gp27.serviceNamed h n with
    | none => rfl
    | some _ => rw [e] at c1; exact absurd rfl c1]
  refine iteF ?_
  have hk1 := s1 _ _ hk
  refine st_ifnB (e_fn (va_cons (val_var rfl) (va_cons val_c va_nil)) (within2 (lo := 1) (hi := 9) (lo2 := 0) (hi2 := 20) hk1 (T.t_SERVICE_BOUNDS H1) (T.t_SERVICE_BOUNDS_0 H1) (T.t_SERVICE_BOUNDS_1 H1) fun H2 s2 => ⟨_, rfl, ?_⟩))
  have s12 := trS s1 s2
  have x2 := x.mono s12
  rw [inB2]
  by_cases c2 : a = 0 ∨ 9 < a ∨ 20 < b
  · rw [if_pos c2] at kk
    rw [decide_eq_true (by omega : a < 1 ∨ 9 < a ∨ b < 0 ∨ 20 < b)]
    exact iteT (st_ret val_c (kk H2 P x2 (PExt.same s12)))
  rw [if_neg c2] at kk
  rw [decide_eq_false (by omega : ¬ (a < 1 ∨ 9 < a ∨ b < 0 ∨ 20 < b))]
  refine iteF ?_
  have h8 := x.ok.ok.ns
  refine st_ifd (p := 8 ≤ h.services.length) (Ans.to (ans_t (val_eq (val_len (vpl_services T (val_var rfl) x2.at_.at_) (SqL.of x2.at_.sv)) val_c)) (decide_eq_decide.mpr (by rw [vi_eq, List.length_map, x2.at_.ls]; omega))) (fun c3 => ?_) (fun c3 => ?_)
  · rw [if_pos c3] at kk
    exact st_ret val_c (kk H2 P x2 (PExt.same s12))
  rw [if_neg c3] at kk
  refine st_appE (vpl_services T (val_var rfl) x2.at_.at_) x2.at_.sv (e_mk (va_cons (val_ix (n := 0) (val_var rfl) val_c (SqL.of (s12 _ _ e1)) rfl (map_at e2)) (va_cons (val_part (val_var rfl) (s12 _ _ hk) (i := 0) rfl) (va_cons (val_part (val_var rfl) (s12 _ _ hk) (i := 1) rfl) va_nil))) fun p dx hp hdx ndx => ⟨p, dx, q0, a, b, rfl, upd_same, fun H3 st hs hst nst f3 => ⟨rfl, ?_⟩⟩)
  have s3 := same_mk hp hdx f3
  have nst2 := none_mk nst
  have s13 := trS s12 s3
  have x3 := x.mono s13
  refine ⟨P.sv, _, _, rfl, rfl, x3.at_.sv, Nat.lt_of_le_of_lt (show _ ≤ 8 by rw [List.length_map, x3.at_.ls]; exact h8) (by decide), ?_⟩
  have out : st ∉ [P.sv, P.ak, P.gt] ++ P.sts := fun z => by
    rcases List.mem_append.mp z with z | z
    · simp only [List.mem_cons, List.not_mem_nil, or_false] at z
      rcases z with z | z | z
      · rw [z, x2.at_.sv] at nst2; cases nst2
      · rw [z, x2.at_.ak] at nst2; cases nst2
      · rw [z, x2.at_.gt] at nst2; cases nst2
    · obtain ⟨i, hi⟩ := Cw.mem_at z
      obtain ⟨_, _, st0, ts, _, u2, _, u4, _⟩ := x2.row (i := i) (by rw [← x2.at_.lt]; exact (List.getElem?_eq_some_iff.mp hi).1)
      cases hi.symm.trans u2
      rw [u4] at nst2; cases nst2
  refine kk _ _ (BP.addS x3 (s := ⟨n, a, b, []⟩) (hs n) (s13 _ _ e3) hst rfl (x.ok.service hn0 (by omega)) out upd_same fr_upd) ⟨fun c o hc nc => ⟨?_, fun z => ?_⟩⟩
  · rw [upd_ne (fun z => nc (.inl z))]
    exact s13 _ _ hc
  · rcases z with z | z | z | z | z
    · exact nc (.inl z)
    · exact nc (.inr (.inl z))
    · exact nc (.inr (.inr (.inl z)))
    · rcases List.mem_append.mp z with z | z
      · exact nc (.inr (.inr (.inr (.inl z))))
      · rw [List.mem_singleton.mp z] at hc
        rw [s12 _ _ hc] at nst2
        cases nst2
    · exact nc (.inr (.inr (.inr (.inr z))))
theorem ok_read_service (T : Txt w K mg) : Has P w K mg base 4 (He.fAd K ("read_service", none)) ["plan", "names", "numbers"] (sp_read_service K) := by
  have G_place_of := ok_place_of (P := P) (base := base) T
  have G_are_within := ok_are_within (P := P) (base := base) T
  have G_Service_init := ok_Service_init (P := P) (base := base) T
  refine Has.of (T.d_read_service) sc_read_service (fun _ _ _ _ _ _ us hl => match us, hl with | [_, _, _], _ => rfl) len_read_service (t_read_service K) (fun cdv A outer s H E hr => ?_) (pure_read_service T)
  have nd := sc_read_service.nd
  exact (pss_cons (ps_if (pt_cmpR op_ne (pe_fn G_place_of (hr.mono (by decide)) rfl T.g_place_of (pa_cons (pe_fld (pw 0) rfl) (pa_cons (pe_ix ix_list (pw 1) pe_int (fun _ _ => rfl)) pa_nil))) (pe_gi rfl T.i_MISSING) (nomark _)) (pss_one (ps_ret (pe_gi rfl T.i_NAME_USED))) pss_nil)
      (pss_cons (ps_if (pt_not (pt_val (pe_fn G_are_within (hr.mono (by decide)) rfl T.g_are_within (pa_cons (pw 2) (pa_cons (pe_gr rfl T.g_SERVICE_BOUNDS) pa_nil))))) (pss_one (ps_ret (pe_gi rfl T.i_OUT_OF_RANGE))) pss_nil)
      (pss_cons (ps_if (pt_cmpR op_eq (pe_callB call_len_seq (by rfl) T.b_len PySem.boot_len (pa_cons (pe_fld (pw 0) rfl) pa_nil)) (pe_gi rfl T.i_MOST_SERVICES) (nomark _)) (pss_one (ps_ret (pe_gi rfl T.i_TOO_MANY))) pss_nil)
      (pss_cons (ps_expr (pe_bm PySem.F.plainAttrs_list PySem.F.slot_list_append PySem.F.type_list_append mt_append (pe_fld (pw 0) rfl) (pa_cons (pe_mk T.k_Service G_Service_init (hr.mono (by decide)) rfl T.g_Service (pa_cons (pe_ix ix_list (pw 1) pe_int (fun _ _ => rfl)) (pa_cons (pe_ix ix_list (pw 2) pe_int (fun _ _ => rfl)) (pa_cons (pe_ix ix_list (pw 2) pe_int (fun _ _ => rfl)) pa_nil)))) pa_nil)))
      (pss_one (ps_ret (pe_gi rfl T.i_FINE)))))))
end
end Cc
end

/-! ## CcPlanD -/
section
set_option maxRecDepth 100000
set_option maxHeartbeats 4000000
/-! A plan while it is read: the other directives. -/
namespace Cc
open PySem PySem.Spec PyProof.Rows L2
section
variable {σ : L2.St} {K : PySem.W.Frag} {H : Hp} {D : Ends} {Q : VK} {pl : Addr} {P : PAd} {h : Gp27.House}
theorem st_orC {t u : TT} {t1 t2 : TS} (h : t σ H fun b H1 => if b = true then (if true = true then t1 D σ H1 else t2 D σ H1) else u σ H1 fun c H2 => if c = true then t1 D σ H2 else t2 D σ H2) : tIfS (tOr t u) t1 t2 D σ H := h
theorem tn_c {te : TE} {Q : Bool → Hp → Prop} (h : te σ H fun v H1 => ∃ b, v = .bl b ∧ Q (!b) H1) : tNot (tB te) σ H Q := h
theorem an_go {t : TT} {b : Bool} {Q : Bool → Hp → Prop} (h : Ans t σ H b) (q : Q b H) : t σ H Q := h _ q
theorem e_tup {r : TA} {vs : List V} (hv : VA r σ H vs) (hl : vs.length.ble 1000 = true) (q : ∀ p, H p = none → Q (.ref p) (upd H p (.tup vs))) : tTup r σ H Q := hv _ ⟨Nat.le_trans (Nat.le_of_ble_eq_true hl) (by decide), q⟩
theorem ans_m1 {i : Nat} {o : Option Nat} (hv : σ[i]? = some (some (.int (placeI o)))) : Ans (tTest (tOp rEq (tVar i) (tC (.int (-1))))) σ H o.isNone := Ans.to (ans_t (val_eq (val_var hv) val_c)) (by
  rw [Bool.eq_iff_iff, decide_eq_true_iff, vi_eq, placeI_no]
  cases o <;> simp)
/-- a list of numbers, not empty, is no list of objects -/
theorem ne_nums {p q : Addr} {x : Nat} {r : List Nat} {qs : List Addr} (h1 : H p = some (.lst (byV (x :: r)))) (h2 : H q = some (.lst (qs.map V.ref))) : p ≠ q := ne_nm h1 (fun z => nomatch z) h2
theorem BP.as_of (x : BP K H pl P h) {p : Addr} (hp : p ∈ P.as) : ∃ o, H p = some o := by
  obtain ⟨i, hi⟩ := Cw.mem_at hp
  have hl : i < h.asks.length := by rw [← x.at_.la]; exact (List.getElem?_eq_some_iff.mp hi).1
  obtain ⟨p0, b0, e1, _, dx, e3⟩ := x.at_.aks i _ (Cw.askOf_eq hl)
  cases hi.symm.trans e1
  exact ⟨_, e3⟩
end
section
variable {P : Program} {w : World} {K : PySem.W.Frag} {mg : Str → Option Value} {base : Heap}
theorem pure_read_work (T : Txt w K mg) (vs : List V) (H : Hp) (Q : VK) (E : XK) (h : sp_read_work K vs H Q E) : t_read_work K { nx := fun _ H' => Q .non H', rt := Q } (start N_read_work vs) H := by
  obtain ⟨pl, pn, pk, P, h, names, nums, rfl, x, hN, hk, ln, lk, hne, kk⟩ := h
  obtain ⟨n, rfl⟩ := ln1 ln
  obtain ⟨a, rfl⟩ := ln1 lk
  obtain ⟨ps, q0, e1, e2, e3⟩ := names_at hN (i := 0) rfl
  have kk : After2 K pl P H (Cw.doWork h n a) Q := kk
  have tk := Cw.doWork_ok x.ok (n := n) (x := a)
  unfold Cw.doWork at kk tk
  refine e_asg (e_fn (va_cons (vpl_services T (val_var rfl) x.at_.at_) (va_cons (val_ix (n := 0) (val_var rfl) val_c (SqL.of e1) rfl (map_at e2)) va_nil)) (place_sv T x e3 fun H1 s1 => ?_))
  have x1 := x.mono s1
  refine st_if (ans_m1 (o := Gp27.serviceNamed h n) rfl) (fun c1 => ?_) (fun c1 => ?_)
  · have e : Gp27.serviceNamed h n = none := by
      cases e : Gp27.serviceNamed h n with
      | none => rfl
      | some _ => rw [e] at c1; cases c1
    rw [e] at kk
    exact st_ret val_c (kk H1 P x1 (PExt.same s1))
  obtain ⟨i, e⟩ : ∃ i, Gp27.serviceNamed h n = some i := by
    cases e : Gp27.serviceNamed h n with
    | none => rw [e] at c1; cases c1
    | some i => exact ⟨i, rfl⟩
  have hi := Cw.named_lt e
  rw [e] at kk tk ⊢
  dsimp only at kk tk
  refine st_ifnB (e_fn (va_cons (val_var rfl) (va_cons val_c va_nil)) (within1 (lo := 1) (hi := 50) (s1 _ _ hk) (T.t_WORK_BOUNDS H1) (T.t_WORK_BOUNDS_0 H1) fun H2 s2 => ⟨_, rfl, ?_⟩))
  have s12 := trS s1 s2
  have x2 := x.mono s12
  rw [inB1]
  by_cases c2 : a = 0 ∨ 50 < a
  · rw [if_pos c2] at kk
    rw [decide_eq_true (by omega : a < 1 ∨ 50 < a)]
    exact iteT (st_ret val_c (kk H2 P x2 (PExt.same s12)))
  rw [if_neg c2] at kk tk
  rw [decide_eq_false (by omega : ¬ (a < 1 ∨ 50 < a))]
  refine iteF ?_
  obtain ⟨p, nm, st, ts, u1, u2, u3, u4, u5, u6⟩ := x2.row hi
  have h5 : (Gp27.stepsOf h i).length ≤ 5 := by rw [Cw.stepsOf_eq]; exact x.ok.ok.nst _ (List.mem_of_getElem? (Cw.svc_eq hi))
  refine st_ifd (p := 5 ≤ (Gp27.stepsOf h i).length) (Ans.to (ans_t (val_eq (val_len (vsv_steps T (val_ix (n := i) (vpl_services T (val_var rfl) x2.at_.at_) (val_var rfl) (SqL.of x2.at_.sv) rfl (map_at u1)) u3) (SqL.of u4)) val_c)) (decide_eq_decide.mpr (by rw [vi_eq, List.length_map, u5]; omega))) (fun c3 => ?_) (fun c3 => ?_)
  · rw [if_pos c3] at kk
    exact st_ret val_c (kk H2 P x2 (PExt.same s12))
  rw [if_neg c3] at kk tk
  refine st_appE (vsv_steps T (val_ix (n := i) (vpl_services T (val_var rfl) x2.at_.at_) (val_var rfl) (SqL.of x2.at_.sv) rfl (map_at u1)) u3) u4 (e_tup (va_cons val_c (va_cons (val_part (val_var rfl) (s12 _ _ hk) (i := 0) rfl) va_nil)) rfl fun t ht => ⟨st, _, _, rfl, rfl, same_new ht _ _ u4, Nat.lt_of_le_of_lt (show _ ≤ 5 by rw [List.length_map, u5]; exact h5) (by decide), ?_⟩)
  have s3 : Same H2 (upd H2 t (.tup [V.int 0, V.int (a : Nat)])) := same_new ht
  have x3 := x2.mono s3
  have z := BP.addT x3 (i := i) (st := st) (t := t) (ts := ts) (s := .work a) u2 (s3 _ _ u4) upd_same (upd_same (o := .lst (ts.map V.ref ++ [.ref t]))) fr_upd rfl
  exact kk _ P ⟨z, tk, x.nd, x.nda⟩ (PExt.trans (PExt.same (trS s12 s3)) (PExt.one (.inr (.inr (.inr (.inl (List.mem_of_getElem? u2))))) fr_upd))
theorem pure_read_ask (T : Txt w K mg) (vs : List V) (H : Hp) (Q : VK) (E : XK) (h : sp_read_ask K vs H Q E) : t_read_ask K { nx := fun _ H' => Q .non H', rt := Q } (start N_read_ask vs) H := by
  obtain ⟨pl, pn, pk, P, h, names, nums, rfl, x, hN, hk, ln, lk, hne, kk⟩ := h
  obtain ⟨n, d, rfl⟩ := ln2 ln
  obtain ⟨a, b, c, rfl⟩ := len3 lk
  obtain ⟨ps, q0, e1, e2, e3⟩ := names_at hN (i := 0) rfl
  obtain ⟨ps', q1, e1', e2', e3'⟩ := names_at hN (i := 1) rfl
  have kk : After2 K pl P H (Cw.doAsk h n d a b c) Q := kk
  have tk := Cw.doAsk_ok x.ok (n := n) (d := d) (x := a) (y := b) (z := c)
  unfold Cw.doAsk at kk tk
  refine e_asg (e_fn (va_cons (vpl_services T (val_var rfl) x.at_.at_) (va_cons (val_ix (n := 0) (val_var rfl) val_c (SqL.of e1) rfl (map_at e2)) va_nil)) (place_sv T x e3 fun H1 s1 => ?_))
  have x1 := x.mono s1
  refine e_asg (e_fn (va_cons (vpl_services T (val_var rfl) x1.at_.at_) (va_cons (val_ix (n := 1) (val_var rfl) val_c (SqL.of (s1 _ _ e1')) rfl (map_at e2')) va_nil)) (place_sv T x1 (s1 _ _ e3') fun H2 s2 => ?_))
  have s12 := trS s1 s2
  have x2 := x.mono s12
  refine st_if (ans_or2 (ans_m1 (o := Gp27.serviceNamed h n) rfl) fun _ => ans_m1 (o := Gp27.serviceNamed h d) rfl) (fun c1 => ?_) (fun c1 => ?_)
  · cases e1 : Gp27.serviceNamed h n with
    | none =>
      rw [e1] at kk
      exact st_ret val_c (kk H2 P x2 (PExt.same s12))
    | some i =>
      cases e2 : Gp27.serviceNamed h d with
      | none =>
        rw [e1, e2] at kk
        exact st_ret val_c (kk H2 P x2 (PExt.same s12))
      | some j => rw [e1, e2] at c1; cases c1
  obtain ⟨i, j, ei, ej⟩ : ∃ i j, Gp27.serviceNamed h n = some i ∧ Gp27.serviceNamed h d = some j := by
    cases e1 : Gp27.serviceNamed h n with
    | none => rw [e1] at c1; cases c1
    | some i =>
      cases e2 : Gp27.serviceNamed h d with
      | none => rw [e1, e2] at c1; cases c1
      | some j => exact ⟨i, j, rfl, rfl⟩
  have hi := Cw.named_lt ei
  rw [ei, ej] at kk tk ⊢
  dsimp only at kk tk
  refine st_orC (tn_c (e_fn (va_cons (val_var rfl) (va_cons val_c va_nil)) (within3 (lo := 1) (hi := 200) (lo2 := 1) (hi2 := 4) (lo3 := 0) (hi3 := 20) (s12 _ _ hk) (T.t_ASK_BOUNDS H2) (T.t_ASK_BOUNDS_0 H2) (T.t_ASK_BOUNDS_1 H2) (T.t_ASK_BOUNDS_2 H2) fun H3 s3 => ⟨_, rfl, ?_⟩)))
  have s13 := trS s12 s3
  have x3 := x.mono s13
  rw [inB3]
  by_cases c2 : a < 1 ∨ 200 < a ∨ b < 1 ∨ 4 < b ∨ c < 0 ∨ 20 < c
  · rw [if_pos (by omega)] at kk
    rw [decide_eq_true c2]
    exact iteT (iteT (st_ret val_c (kk H3 P x3 (PExt.same s13))))
  rw [decide_eq_false c2]
  refine iteF (an_go (Ans.to (ans_t (val_ge (val_var (v := .int (placeI (some j))) rfl) (val_var (v := .int (placeI (some i))) rfl))) (show _ = decide (i ≤ j) from decide_eq_decide.mpr (by show ((i : Int) ≤ (j : Int)) ↔ _; omega))) ?_)
  by_cases c3 : i ≤ j
  · rw [if_pos (.inl c3)] at kk
    rw [decide_eq_true c3]
    exact iteT (st_ret val_c (kk H3 P x3 (PExt.same s13)))
  rw [decide_eq_false c3]
  rw [if_neg (by omega)] at kk tk
  refine iteF ?_
  obtain ⟨p, nm, st, ts, u1, u2, u3, u4, u5, u6⟩ := x3.row hi
  have h5 : (Gp27.stepsOf h i).length ≤ 5 := by rw [Cw.stepsOf_eq]; exact x.ok.ok.nst _ (List.mem_of_getElem? (Cw.svc_eq hi))
  have h12 := x.ok.ok.na
  refine st_ifd (p := 5 ≤ (Gp27.stepsOf h i).length ∨ 12 ≤ h.asks.length) (Ans.to (ans_or2 (ans_t (val_eq (val_len (vsv_steps T (val_ix (n := i) (vpl_services T (val_var rfl) x3.at_.at_) (val_var rfl) (SqL.of x3.at_.sv) rfl (map_at u1)) u3) (SqL.of u4)) val_c)) fun _ => ans_t (val_eq (val_len (vpl_asks T (val_var rfl) x3.at_.at_) (SqL.of x3.at_.ak)) val_c)) (by
    rw [Bool.eq_iff_iff, Bool.or_eq_true, decide_eq_true_iff, decide_eq_true_iff, decide_eq_true_iff, vi_eq, vi_eq, List.length_map, List.length_map, u5, x3.at_.la]; omega)) (fun c4 => ?_) (fun c4 => ?_)
  · rw [if_pos c4] at kk
    exact st_ret val_c (kk H3 P x3 (PExt.same s13))
  rw [if_neg c4] at kk tk
  refine st_appE (vsv_steps T (val_ix (n := i) (vpl_services T (val_var rfl) x3.at_.at_) (val_var rfl) (SqL.of x3.at_.sv) rfl (map_at u1)) u3) u4 (e_tup (va_cons val_c (va_cons (val_to (val_len (vpl_asks T (val_var rfl) x3.at_.at_) (SqL.of x3.at_.ak)) (by rw [List.length_map, x3.at_.la])) va_nil)) rfl fun t ht => ⟨st, _, _, rfl, rfl, same_new ht _ _ u4, Nat.lt_of_le_of_lt (show _ ≤ 5 by rw [List.length_map, u5]; exact h5) (by decide), ?_⟩)
  have s4 : Same H3 (upd H3 t (.tup [V.int 1, V.int (h.asks.length : Nat)])) := same_new ht
  have x4 := x3.mono s4
  have z := BP.addT x4 (i := i) (st := st) (t := t) (ts := ts) (s := .ask h.asks.length) u2 (s4 _ _ u4) upd_same (upd_same (o := .lst (ts.map V.ref ++ [.ref t]))) fr_upd rfl
  have pe : PExt P P H (upd (upd H3 t (.tup [V.int 1, V.int (h.asks.length : Nat)])) st (.lst (ts.map V.ref ++ [.ref t]))) := PExt.trans (PExt.same (trS s13 s4)) (PExt.one (.inr (.inr (.inr (.inl (List.mem_of_getElem? u2))))) fr_upd)
  have hk5 : upd (upd H3 t (.tup [V.int 1, V.int (h.asks.length : Nat)])) st (.lst (ts.map V.ref ++ [.ref t])) pk = some (.lst (byV [a, b, c])) := by
    rw [upd_ne (ne_nums (s4 _ _ (s13 _ _ hk)) (s4 _ _ u4))]
    exact s4 _ _ (s13 _ _ hk)
  have as5 : ∀ q ∈ P.as, ∃ o, upd (upd H3 t (.tup [V.int 1, V.int (h.asks.length : Nat)])) st (.lst (ts.map V.ref ++ [.ref t])) q = some o := fun q hq => by
    obtain ⟨o, ho⟩ := x4.as_of hq
    by_cases e : q = st
    · rw [e]; exact ⟨_, upd_same⟩
    · exact ⟨o, by rw [upd_ne e]; exact ho⟩
  generalize upd (upd H3 t (.tup [V.int 1, V.int (h.asks.length : Nat)])) st (.lst (ts.map V.ref ++ [.ref t])) = H5 at z pe hk5 as5
  refine st_appE (vpl_asks T (val_var rfl) z.at_) z.ak (e_mk (va_cons (val_var (v := .int (j : Int)) rfl) (va_cons (val_part (val_var rfl) hk5 (i := 0) rfl) (va_cons (val_part (val_var rfl) hk5 (i := 1) rfl) (va_cons (val_part (val_var rfl) hk5 (i := 2) rfl) va_nil)))) fun p dx hp hdx ndx => ⟨p, dx, j, a, b, c, rfl, upd_same, fun H6 hs f6 => ⟨rfl, ?_⟩⟩)
  have s6 := same_mk hp hdx f6
  have z6 := z.mono s6
  refine ⟨P.ak, _, _, rfl, rfl, z6.ak, Nat.lt_of_le_of_lt (show _ ≤ 12 by rw [List.length_map, x3.at_.la]; exact h12) (by decide), ?_⟩
  have ns : ∀ s ∈ (Gp27.addStep h i (.ask h.asks.length)).services, s.name ≠ [] := fun s hs' => tk.ns s hs'
  have z7 := plan_addK z6 ns x.ok.ne x.nd (p := p) (s := ⟨j, a, b, c, false, 0, 0, 0⟩) hs (H' := upd H6 P.ak (.lst (P.as.map V.ref ++ [.ref p]))) upd_same fr_upd
  refine kk _ { P with as := P.as ++ [p] } ⟨z7, tk, x.nd, ?_⟩ (PExt.trans pe ⟨fun q o hq nq => ⟨?_, fun y => ?_⟩⟩)
  · refine List.nodup_append.mpr ⟨x.nda, by simp, fun q hq q' hq' e => ?_⟩
    rw [List.mem_singleton.mp hq'] at e
    obtain ⟨o, ho⟩ := as5 q hq
    rw [e, hp] at ho
    cases ho
  · rw [upd_ne (fun y => nq (.inr (.inl y)))]
    exact s6 _ _ hq
  · rcases y with y | y | y | y | y
    · exact nq (.inl y)
    · exact nq (.inr (.inl y))
    · exact nq (.inr (.inr (.inl y)))
    · exact nq (.inr (.inr (.inr (.inl y))))
    · rcases List.mem_append.mp y with y | y
      · exact nq (.inr (.inr (.inr (.inr y))))
      · rw [List.mem_singleton.mp y, hp] at hq
        cases hq
theorem pure_last_ask (T : Txt w K mg) (vs : List V) (H : Hp) (Q : VK) (E : XK) (h : sp_last_ask K vs H Q E) : t_last_ask K { nx := fun _ H' => Q .non H', rt := Q } (start N_last_ask vs) H := by
  obtain ⟨pl, nm, P, h, n, rfl, x, hnm, kk⟩ := h
  unfold Cw.lastOf at kk
  refine e_asg (e_fn (va_cons (vpl_services T (val_var rfl) x.at_.at_) (va_cons (val_var rfl) va_nil)) (place_sv T x hnm fun H1 s1 => ?_))
  have x1 := x.mono s1
  refine st_if (ans_m1 (o := Gp27.serviceNamed h n) rfl) (fun c1 => ?_) (fun c1 => ?_)
  · have e : Gp27.serviceNamed h n = none := by
      cases e : Gp27.serviceNamed h n with
      | none => rfl
      | some _ => rw [e] at c1; cases c1
    rw [e] at kk
    exact e_ret (e_tup (va_cons val_c (va_cons val_c va_nil)) rfl fun t ht => kk _ t .non (trS s1 (same_new ht)) upd_same (fun z => by cases z))
  obtain ⟨i, e⟩ : ∃ i, Gp27.serviceNamed h n = some i := by
    cases e : Gp27.serviceNamed h n with
    | none => rw [e] at c1; cases c1
    | some i => exact ⟨i, rfl⟩
  have hi := Cw.named_lt e
  rw [e] at kk ⊢
  dsimp only at kk
  obtain ⟨p, nms, st, ts, u1, u2, u3, u4, u5, u6⟩ := x1.row hi
  refine st_set (vsv_steps T (val_ix (n := i) (vpl_services T (val_var rfl) x1.at_.at_) (val_var rfl) (SqL.of x1.at_.sv) rfl (map_at u1)) u3) ?_
  refine st_orC (t_eqE (val_var (v := .ref st) rfl) (SqL.of u4) fun H2 s2 => ?_)
  have s12 := trS s1 s2
  have x2 := x.mono s12
  unfold Gp27.lastAsk at kk
  rw [List.getLast?_eq_getElem?] at kk
  by_cases c2 : (Gp27.stepsOf h i).length = 0
  · rw [List.getElem?_eq_none (by omega)] at kk
    rw [show (ts.map V.ref).isEmpty = true by rw [List.isEmpty_iff, ← List.length_eq_zero_iff, List.length_map, u5]; exact c2]
    exact iteT (iteT (e_ret (e_tup (va_cons val_c (va_cons val_c va_nil)) rfl fun t ht => kk _ t .non (trS s12 (same_new ht)) upd_same (fun z => by cases z))))
  rw [show (ts.map V.ref).isEmpty = false by
    cases ts with
    | nil => exact absurd u5.symm (fun z => c2 z)
    | cons _ _ => rfl]
  refine iteF ?_
  have hl : (Gp27.stepsOf h i).length - 1 < (Gp27.stepsOf h i).length := by omega
  have ey := List.getElem?_eq_getElem hl
  generalize (Gp27.stepsOf h i)[(Gp27.stepsOf h i).length - 1] = y at ey
  rw [ey] at kk
  obtain ⟨t, v1, v2⟩ := u6 _ y ey
  have v2 := s2 _ _ v2
  have vt : ∀ {σ : L2.St}, σ[3]? = some (some (.ref st)) → Val (tOp (rIxL K) (tVar 3) (tOp rSubI (tCB (rLenQ K) (tCons (tVar 3) tNil)) (tC (.int 1)))) σ H2 (.ref t) := fun hσ => val_ix (n := (Gp27.stepsOf h i).length - 1) (val_var hσ) (val_sub (val_len (val_var hσ) (SqL.of (s2 _ _ u4))) val_c) (SqL.of (s2 _ _ u4)) (by rw [List.length_map, u5]; omega) (map_at v1)
  cases y with
  | work k =>
    refine an_go (b := true) (Ans.to (ans_t (val_ne (val_ixT (n := 0) (vt rfl) val_c (SqT.of v2) rfl (v := .int 0) rfl) val_c)) rfl) (iteT (e_ret (e_tup (va_cons val_c (va_cons val_c va_nil)) rfl fun t ht => kk _ t .non (trS s12 (same_new ht)) upd_same (fun z => by cases z))))
  | ask k =>
    refine an_go (b := false) (Ans.to (ans_t (val_ne (val_ixT (n := 0) (vt rfl) val_c (SqT.of v2) rfl (v := .int 1) rfl) val_c)) rfl) (iteF ?_)
    have hk : k < h.asks.length := by
      have := x.ok.ok.ak _ (List.mem_of_getElem? (Cw.svc_eq hi)) k (by rw [← Cw.stepsOf_eq]; exact List.mem_of_getElem? ey)
      exact this
    obtain ⟨pa, b, w1, _, _⟩ := x2.at_.aks k _ (Cw.askOf_eq hk)
    exact e_ret (e_tup (va_cons val_c (va_cons (val_ix (n := k) (vpl_asks T (val_var rfl) x2.at_.at_) (val_ixT (n := 1) (vt rfl) val_c (SqT.of v2) rfl (v := .int (k : Int)) rfl) (SqL.of x2.at_.ak) rfl (map_at w1)) va_nil)) rfl fun t ht => kk _ t (.ref pa) (trS s12 (same_new ht)) upd_same fun _ => ⟨pa, _, rfl, w1, Cw.askOf_eq hk⟩)
theorem pure_read_may (T : Txt w K mg) (vs : List V) (H : Hp) (Q : VK) (E : XK) (h : sp_read_may K vs H Q E) : t_read_may K { nx := fun _ H' => Q .non H', rt := Q } (start N_read_may vs) H := by
  obtain ⟨pl, pn, pk, P, h, names, nums, rfl, x, hN, hk, ln, lk, hne, kk⟩ := h
  obtain ⟨n, rfl⟩ := ln1 ln
  obtain ⟨ps, q0, e1, e2, e3⟩ := names_at hN (i := 0) rfl
  have kk : After2 K pl P H (Cw.doMay h n) Q := kk
  unfold Cw.doMay at kk
  refine e_asg (e_fn (va_cons (val_var rfl) (va_cons (val_ix (n := 0) (val_var rfl) val_c (SqL.of e1) rfl (map_at e2)) va_nil)) ⟨pl, q0, P, h, n, rfl, x, e3, fun H1 t v s1 ht hv => ⟨t, _, rfl, SqT.of ht, rfl, _, _, rfl, _, _, rfl, rfl, ?_⟩⟩)
  have x1 := x.mono s1
  refine st_ifd (p := (Cw.lastOf h n).1 = 0) (Ans.to (ans_t (val_eq (val_var (v := .int ((Cw.lastOf h n).1 : Nat)) rfl) val_c)) (decide_eq_decide.mpr (by rw [vi_eq]; omega))) (fun c1 => ?_) (fun c1 => ?_)
  · rw [if_pos c1] at kk
    obtain ⟨p, s, rfl, hp, hs⟩ := hv c1
    obtain ⟨p', b, w1, _, w3⟩ := x1.at_.aks _ s hs
    cases hp.symm.trans w1
    refine sak_is_optional T (val_c (v := .bl true)) (val_var rfl) w3 fun H2 h2 f2 _ => ?_
    have z := BP.setA x1 (g := fun a => { a with may := true }) hs hp h2 f2 fun _ => rfl
    refine st_ret (val_var (v := .int ((Cw.lastOf h n).1 : Nat)) rfl) ?_
    rw [c1]
    exact kk H2 P z (PExt.trans (PExt.same s1) (PExt.one (.inr (.inr (.inr (.inr (List.mem_of_getElem? hp))))) f2))
  · rw [if_neg c1] at kk
    exact st_ret (val_var (v := .int ((Cw.lastOf h n).1 : Nat)) rfl) (kk H1 P x1 (PExt.same s1))
theorem pure_read_budget (T : Txt w K mg) (vs : List V) (H : Hp) (Q : VK) (E : XK) (h : sp_read_budget K vs H Q E) : t_read_budget K { nx := fun _ H' => Q .non H', rt := Q } (start N_read_budget vs) H := by
  obtain ⟨pl, pn, pk, P, h, names, nums, rfl, x, hN, hk, ln, lk, hne, kk⟩ := h
  obtain ⟨n, rfl⟩ := ln1 ln
  obtain ⟨a, rfl⟩ := ln1 lk
  obtain ⟨ps, q0, e1, e2, e3⟩ := names_at hN (i := 0) rfl
  have kk : After2 K pl P H (Cw.doBudget h n a) Q := kk
  unfold Cw.doBudget at kk
  refine e_asg (e_fn (va_cons (val_var rfl) (va_cons (val_ix (n := 0) (val_var rfl) val_c (SqL.of e1) rfl (map_at e2)) va_nil)) ⟨pl, q0, P, h, n, rfl, x, e3, fun H1 t v s1 ht hv => ⟨t, _, rfl, SqT.of ht, rfl, _, _, rfl, _, _, rfl, rfl, ?_⟩⟩)
  have x1 := x.mono s1
  refine st_ifn (p := V.int ((Cw.lastOf h n).1 : Nat) = V.int 0) (ans_t (val_ne (val_var rfl) val_c)) (fun c1 => ?_) (fun c1 => ?_)
  · rw [if_neg (fun z => c1 (by rw [z]; rfl))] at kk
    exact st_ret (val_var (v := .int ((Cw.lastOf h n).1 : Nat)) rfl) (kk H1 P x1 (PExt.same s1))
  have c1 : (Cw.lastOf h n).1 = 0 := Int.ofNat.inj (vi_eq.mp c1)
  rw [if_pos c1] at kk
  obtain ⟨p, s, rfl, hp, hs⟩ := hv c1
  refine st_ifnB (e_fn (va_cons (val_var rfl) (va_cons val_c va_nil)) (within1 (lo := 1) (hi := 20) (s1 _ _ hk) (T.t_BUDGET_BOUNDS H1) (T.t_BUDGET_BOUNDS_0 H1) fun H2 s2 => ⟨_, rfl, ?_⟩))
  have s12 := trS s1 s2
  have x2 := x.mono s12
  rw [inB1]
  by_cases c2 : a = 0 ∨ 20 < a
  · rw [if_pos c2] at kk
    rw [decide_eq_true (by omega : a < 1 ∨ 20 < a)]
    exact iteT (st_ret val_c (kk H2 P x2 (PExt.same s12)))
  rw [if_neg c2] at kk
  rw [decide_eq_false (by omega : ¬ (a < 1 ∨ 20 < a))]
  refine iteF ?_
  obtain ⟨p', b, w1, w2, w3⟩ := x2.at_.aks _ s hs
  cases hp.symm.trans w1
  rw [List.getElem?_map, hs] at w2
  cases w2
  refine sak_cost T (n := a) (val_part (val_var rfl) (s12 _ _ hk) (i := 0) rfl) (val_var rfl) w3 fun H3 h3 f3 _ => ?_
  have z := BP.setA x2 (g := fun q => { q with cost := a }) hs hp h3 f3 fun _ => rfl
  exact (kk H3 P z (PExt.trans (PExt.same s12) (PExt.one (.inr (.inr (.inr (.inr (List.mem_of_getElem? hp))))) f3)))
theorem pure_read_breaker (T : Txt w K mg) (vs : List V) (H : Hp) (Q : VK) (E : XK) (h : sp_read_breaker K vs H Q E) : t_read_breaker K { nx := fun _ H' => Q .non H', rt := Q } (start N_read_breaker vs) H := by
  obtain ⟨pl, pn, pk, P, h, names, nums, rfl, x, hN, hk, ln, lk, hne, kk⟩ := h
  obtain ⟨n, rfl⟩ := ln1 ln
  obtain ⟨a, c, rfl⟩ := ln2 lk
  obtain ⟨ps, q0, e1, e2, e3⟩ := names_at hN (i := 0) rfl
  have kk : After2 K pl P H (Cw.doBreaker h n a c) Q := kk
  unfold Cw.doBreaker at kk
  refine e_asg (e_fn (va_cons (val_var rfl) (va_cons (val_ix (n := 0) (val_var rfl) val_c (SqL.of e1) rfl (map_at e2)) va_nil)) ⟨pl, q0, P, h, n, rfl, x, e3, fun H1 t v s1 ht hv => ⟨t, _, rfl, SqT.of ht, rfl, _, _, rfl, _, _, rfl, rfl, ?_⟩⟩)
  have x1 := x.mono s1
  refine st_ifn (p := V.int ((Cw.lastOf h n).1 : Nat) = V.int 0) (ans_t (val_ne (val_var rfl) val_c)) (fun c1 => ?_) (fun c1 => ?_)
  · rw [if_neg (fun z => c1 (by rw [z]; rfl))] at kk
    exact st_ret (val_var (v := .int ((Cw.lastOf h n).1 : Nat)) rfl) (kk H1 P x1 (PExt.same s1))
  have c1 : (Cw.lastOf h n).1 = 0 := Int.ofNat.inj (vi_eq.mp c1)
  rw [if_pos c1] at kk
  obtain ⟨p, s, rfl, hp, hs⟩ := hv c1
  refine st_ifnB (e_fn (va_cons (val_var rfl) (va_cons val_c va_nil)) (within2 (lo := 1) (hi := 20) (lo2 := 1) (hi2 := 100) (s1 _ _ hk) (T.t_BREAKER_BOUNDS H1) (T.t_BREAKER_BOUNDS_0 H1) (T.t_BREAKER_BOUNDS_1 H1) fun H2 s2 => ⟨_, rfl, ?_⟩))
  have s12 := trS s1 s2
  have x2 := x.mono s12
  rw [inB2]
  by_cases c2 : a = 0 ∨ 20 < a ∨ c = 0 ∨ 100 < c
  · rw [if_pos c2] at kk
    rw [decide_eq_true (by omega : a < 1 ∨ 20 < a ∨ c < 1 ∨ 100 < c)]
    exact iteT (st_ret val_c (kk H2 P x2 (PExt.same s12)))
  rw [if_neg c2] at kk
  rw [decide_eq_false (by omega : ¬ (a < 1 ∨ 20 < a ∨ c < 1 ∨ 100 < c))]
  refine iteF ?_
  obtain ⟨p', b, w1, w2, w3⟩ := x2.at_.aks _ s hs
  cases hp.symm.trans w1
  rw [List.getElem?_map, hs] at w2
  cases w2
  have hk2 := s12 _ _ hk
  refine sak_limit T (n := a) (val_part (val_var rfl) hk2 (i := 0) rfl) (val_var rfl) w3 fun H3 h3 f3 _ => ?_
  have hk3 : H3 pk = some (.lst (byV [a, c])) := f3 _ _ hk2 (by
    obtain ⟨dx, w3⟩ := w3
    exact (ne_of w3 hk2 (fun z => nomatch z)).symm)
  refine sak_span T (n := c) (val_part (val_var rfl) hk3 (i := 1) rfl) (val_var rfl) h3 fun H4 h4 f4 _ => ?_
  have f34 : Fr1 p H2 H4 := fun q o hq nq => f4 _ _ (f3 _ _ hq nq) nq
  have z := BP.setA x2 (g := fun q => { q with fails := a, open_ := c }) hs hp h4 f34 fun _ => rfl
  exact (kk H4 P z (PExt.trans (PExt.same s12) (PExt.one (.inr (.inr (.inr (.inr (List.mem_of_getElem? hp))))) f34)))
theorem pure_read_entry (T : Txt w K mg) (vs : List V) (H : Hp) (Q : VK) (E : XK) (h : sp_read_entry K vs H Q E) : t_read_entry K { nx := fun _ H' => Q .non H', rt := Q } (start N_read_entry vs) H := by
  obtain ⟨pl, pn, pk, P, h, names, nums, rfl, x, hN, hk, ln, lk, hne, kk⟩ := h
  obtain ⟨n, d, rfl⟩ := ln2 ln
  obtain ⟨a, rfl⟩ := ln1 lk
  have hn0 : n ≠ [] := hne n (List.mem_cons_self ..)
  obtain ⟨ps, q0, e1, e2, e3⟩ := names_at hN (i := 0) rfl
  obtain ⟨ps', q1, e1', e2', e3'⟩ := names_at hN (i := 1) rfl
  have kk : After2 K pl P H (Cw.doEntry h n d a) Q := kk
  have tk := Cw.doEntry_ok x.ok (n := n) (s := d) (x := a) hn0
  unfold Cw.doEntry at kk tk
  refine st_ifne (e_fn (va_cons (vpl_gates T (val_var rfl) x.at_.at_) (va_cons (val_ix (n := 0) (val_var rfl) val_c (SqL.of e1) rfl (map_at e2)) va_nil)) (place_gt T x e3 fun H1 s1 => ⟨rfl, _, rfl, ?_⟩))
  have x1 := x.mono s1
  rw [any_idx] at kk tk
  by_cases c1 : (h.entries.findIdx? fun e => e.name == n).isSome = true
  · rw [if_pos c1] at kk
    rw [show (!decide (V.int (placeI (h.entries.findIdx? fun e => e.name == n)) = V.int (-1))) = true by rw [Bool.not_eq_true', decide_eq_false_iff_not, vi_eq, placeI_no]; intro z; rw [z] at c1; cases c1]
    exact iteT (st_ret val_c (kk H1 P x1 (PExt.same s1)))
  rw [if_neg c1] at kk tk
  rw [show (!decide (V.int (placeI (h.entries.findIdx? fun e => e.name == n)) = V.int (-1))) = false by rw [Bool.not_eq_false', decide_eq_true_iff, vi_eq, placeI_no]; cases e : h.entries.findIdx? fun e => e.name == n with
    | none => rfl
    | some _ => rw [e] at c1; exact absurd rfl c1]
  refine iteF ?_
  refine e_asg (e_fn (va_cons (vpl_services T (val_var rfl) x1.at_.at_) (va_cons (val_ix (n := 1) (val_var rfl) val_c (SqL.of (s1 _ _ e1')) rfl (map_at e2')) va_nil)) (place_sv T x1 (s1 _ _ e3') fun H2 s2 => ?_))
  have s12 := trS s1 s2
  have x2 := x.mono s12
  refine st_if (ans_m1 (o := Gp27.serviceNamed h d) rfl) (fun c2 => ?_) (fun c2 => ?_)
  · have e : Gp27.serviceNamed h d = none := by
      cases e : Gp27.serviceNamed h d with
      | none => rfl
      | some _ => rw [e] at c2; cases c2
    rw [e] at kk
    exact st_ret val_c (kk H2 P x2 (PExt.same s12))
  obtain ⟨i, e⟩ : ∃ i, Gp27.serviceNamed h d = some i := by
    cases e : Gp27.serviceNamed h d with
    | none => rw [e] at c2; cases c2
    | some i => exact ⟨i, rfl⟩
  rw [e] at kk tk ⊢
  dsimp only at kk tk
  refine st_ifnB (e_fn (va_cons (val_var rfl) (va_cons val_c va_nil)) (within1 (lo := 1) (hi := 200) (s12 _ _ hk) (T.t_ENTRY_BOUNDS H2) (T.t_ENTRY_BOUNDS_0 H2) fun H3 s3 => ⟨_, rfl, ?_⟩))
  have s13 := trS s12 s3
  have x3 := x.mono s13
  rw [inB1]
  by_cases c3 : a = 0 ∨ 200 < a
  · rw [if_pos c3] at kk
    rw [decide_eq_true (by omega : a < 1 ∨ 200 < a)]
    exact iteT (st_ret val_c (kk H3 P x3 (PExt.same s13)))
  rw [if_neg c3] at kk tk
  rw [decide_eq_false (by omega : ¬ (a < 1 ∨ 200 < a))]
  refine iteF ?_
  have h4 := x.ok.ok.ne
  refine st_ifd (p := 4 ≤ h.entries.length) (Ans.to (ans_t (val_eq (val_len (vpl_gates T (val_var rfl) x3.at_.at_) (SqL.of x3.at_.gt)) val_c)) (decide_eq_decide.mpr (by rw [vi_eq, List.length_map, x3.at_.lg]; omega))) (fun c4 => ?_) (fun c4 => ?_)
  · rw [if_pos c4] at kk
    exact st_ret val_c (kk H3 P x3 (PExt.same s13))
  rw [if_neg c4] at kk tk
  refine st_appE (vpl_gates T (val_var rfl) x3.at_.at_) x3.at_.gt (e_mk (va_cons (val_ix (n := 0) (val_var rfl) val_c (SqL.of (s13 _ _ e1)) rfl (map_at e2)) (va_cons (val_var (v := .int (i : Int)) rfl) (va_cons (val_part (val_var rfl) (s13 _ _ hk) (i := 0) rfl) va_nil))) fun p dx hp hdx ndx => ⟨p, dx, q0, i, a, rfl, upd_same, fun H4 hs f4 => ⟨rfl, ?_⟩⟩)
  have s4 := same_mk hp hdx f4
  have s14 := trS s13 s4
  have x4 := x.mono s14
  refine ⟨P.gt, _, _, rfl, rfl, x4.at_.gt, Nat.lt_of_le_of_lt (show _ ≤ 4 by rw [List.length_map, x4.at_.lg]; exact h4) (by decide), ?_⟩
  refine kk _ { P with gs := P.gs ++ [p] } (BP.addG x4 (s := ⟨n, i, a⟩) (hs n) (s14 _ _ e3) tk upd_same fr_upd) ⟨fun c o hc nc => ⟨?_, fun z => nc z⟩⟩
  rw [upd_ne (fun z => nc (.inr (.inr (.inl z))))]
  exact s14 _ _ hc
theorem ok_read_work (T : Txt w K mg) : Has P w K mg base 4 (He.fAd K ("read_work", none)) ["plan", "names", "numbers"] (sp_read_work K) := by
  have G_place_of := ok_place_of (P := P) (base := base) T
  have G_are_within := ok_are_within (P := P) (base := base) T
  refine Has.of (T.d_read_work) sc_read_work (fun _ _ _ _ _ _ us hl => match us, hl with | [_, _, _], _ => rfl) len_read_work (t_read_work K) (fun cdv A outer s H E hr => ?_) (pure_read_work T)
  have nd := sc_read_work.nd
  exact (pss_cons (ps_set (i := 3) nd rfl (Or.inl rfl) (pe_fn G_place_of (hr.mono (by decide)) rfl T.g_place_of (pa_cons (pe_fld (pw 0) rfl) (pa_cons (pe_ix ix_list (pw 1) pe_int (fun _ _ => rfl)) pa_nil))))
      (pss_cons (ps_if (pt_cmpR op_eq (pw 3) (pe_gi rfl T.i_MISSING) (nomark _)) (pss_one (ps_ret (pe_gi rfl T.i_NO_SERVICE))) pss_nil)
      (pss_cons (ps_if (pt_not (pt_val (pe_fn G_are_within (hr.mono (by decide)) rfl T.g_are_within (pa_cons (pw 2) (pa_cons (pe_gr rfl T.g_WORK_BOUNDS) pa_nil))))) (pss_one (ps_ret (pe_gi rfl T.i_OUT_OF_RANGE))) pss_nil)
      (pss_cons (ps_if (pt_cmpR op_eq (pe_callB call_len_seq (by rfl) T.b_len PySem.boot_len (pa_cons (pe_fld (pe_ix ix_list (pe_fld (pw 0) rfl) (pw 3) (fun _ _ => rfl)) rfl) pa_nil)) (pe_gi rfl T.i_MOST_STEPS) (nomark _)) (pss_one (ps_ret (pe_gi rfl T.i_TOO_MANY))) pss_nil)
      (pss_cons (ps_expr (pe_bm PySem.F.plainAttrs_list PySem.F.slot_list_append PySem.F.type_list_append mt_append (pe_fld (pe_ix ix_list (pe_fld (pw 0) rfl) (pw 3) (fun _ _ => rfl)) rfl) (pa_cons (pe_tup (pa_cons (pe_gi rfl T.i_WORK) (pa_cons (pe_ix ix_list (pw 2) pe_int (fun _ _ => rfl)) pa_nil))) pa_nil)))
      (pss_one (ps_ret (pe_gi rfl T.i_FINE))))))))
theorem ok_read_ask (T : Txt w K mg) : Has P w K mg base 4 (He.fAd K ("read_ask", none)) ["plan", "names", "numbers"] (sp_read_ask K) := by
  have G_place_of := ok_place_of (P := P) (base := base) T
  have G_are_within := ok_are_within (P := P) (base := base) T
  have G_Ask_init := ok_Ask_init (P := P) (base := base) T
  refine Has.of (T.d_read_ask) sc_read_ask (fun _ _ _ _ _ _ us hl => match us, hl with | [_, _, _], _ => rfl) len_read_ask (t_read_ask K) (fun cdv A outer s H E hr => ?_) (pure_read_ask T)
  have nd := sc_read_ask.nd
  exact (pss_cons (ps_set (i := 3) nd rfl (Or.inl rfl) (pe_fn G_place_of (hr.mono (by decide)) rfl T.g_place_of (pa_cons (pe_fld (pw 0) rfl) (pa_cons (pe_ix ix_list (pw 1) pe_int (fun _ _ => rfl)) pa_nil))))
      (pss_cons (ps_set (i := 4) nd rfl (Or.inl rfl) (pe_fn G_place_of (hr.mono (by decide)) rfl T.g_place_of (pa_cons (pe_fld (pw 0) rfl) (pa_cons (pe_ix ix_list (pw 1) pe_int (fun _ _ => rfl)) pa_nil))))
      (pss_cons (ps_if (PW.pt (pw_or (pt_cmpR op_eq (pw 3) (pe_gi rfl T.i_MISSING) (nomark _)) (pw_or1 (pt_cmpR op_eq (pw 4) (pe_gi rfl T.i_MISSING) (nomark _))))) (pss_one (ps_ret (pe_gi rfl T.i_NO_SERVICE))) pss_nil)
      (pss_cons (ps_if (PW.pt (pw_or (pt_not (pt_val (pe_fn G_are_within (hr.mono (by decide)) rfl T.g_are_within (pa_cons (pw 2) (pa_cons (pe_gr rfl T.g_ASK_BOUNDS) pa_nil))))) (pw_or1 (pt_cmpR op_ge (pw 4) (pw 3) (nomark _))))) (pss_one (ps_ret (pe_gi rfl T.i_OUT_OF_RANGE))) pss_nil)
      (pss_cons (ps_if (PW.pt (pw_or (pt_cmpR op_eq (pe_callB call_len_seq (by rfl) T.b_len PySem.boot_len (pa_cons (pe_fld (pe_ix ix_list (pe_fld (pw 0) rfl) (pw 3) (fun _ _ => rfl)) rfl) pa_nil)) (pe_gi rfl T.i_MOST_STEPS) (nomark _)) (pw_or1 (pt_cmpR op_eq (pe_callB call_len_seq (by rfl) T.b_len PySem.boot_len (pa_cons (pe_fld (pw 0) rfl) pa_nil)) (pe_gi rfl T.i_MOST_ASKS) (nomark _))))) (pss_one (ps_ret (pe_gi rfl T.i_TOO_MANY))) pss_nil)
      (pss_cons (ps_expr (pe_bm PySem.F.plainAttrs_list PySem.F.slot_list_append PySem.F.type_list_append mt_append (pe_fld (pe_ix ix_list (pe_fld (pw 0) rfl) (pw 3) (fun _ _ => rfl)) rfl) (pa_cons (pe_tup (pa_cons (pe_gi rfl T.i_ASK) (pa_cons (pe_callB call_len_seq (by rfl) T.b_len PySem.boot_len (pa_cons (pe_fld (pw 0) rfl) pa_nil)) pa_nil))) pa_nil)))
      (pss_cons (ps_expr (pe_bm PySem.F.plainAttrs_list PySem.F.slot_list_append PySem.F.type_list_append mt_append (pe_fld (pw 0) rfl) (pa_cons (pe_mk T.k_Ask G_Ask_init (hr.mono (by decide)) rfl T.g_Ask (pa_cons (pw 4) (pa_cons (pe_ix ix_list (pw 2) pe_int (fun _ _ => rfl)) (pa_cons (pe_ix ix_list (pw 2) pe_int (fun _ _ => rfl)) (pa_cons (pe_ix ix_list (pw 2) pe_int (fun _ _ => rfl)) pa_nil))))) pa_nil)))
      (pss_one (ps_ret (pe_gi rfl T.i_FINE))))))))))
theorem ok_last_ask (T : Txt w K mg) : Has P w K mg base 2 (He.fAd K ("last_ask", none)) ["plan", "name"] (sp_last_ask K) := by
  have G_place_of := ok_place_of (P := P) (base := base) T
  refine Has.of (T.d_last_ask) sc_last_ask (fun _ _ _ _ _ _ us hl => match us, hl with | [_, _], _ => rfl) len_last_ask (t_last_ask K) (fun cdv A outer s H E hr => ?_) (pure_last_ask T)
  have nd := sc_last_ask.nd
  exact (pss_cons (ps_set (i := 2) nd rfl (Or.inl rfl) (pe_fn G_place_of (hr.mono (by decide)) rfl T.g_place_of (pa_cons (pe_fld (pw 0) rfl) (pa_cons (pw 1) pa_nil))))
      (pss_cons (ps_if (pt_cmpR op_eq (pw 2) (pe_gi rfl T.i_MISSING) (nomark _)) (pss_one (ps_ret (pe_tup (pa_cons (pe_gi rfl T.i_NO_SERVICE) (pa_cons pe_non pa_nil))))) pss_nil)
      (pss_cons (ps_set (i := 3) nd rfl (Or.inl rfl) (pe_fld (pe_ix ix_list (pe_fld (pw 0) rfl) (pw 2) (fun _ _ => rfl)) rfl))
      (pss_cons (ps_if (PW.pt (pw_or (pt_cmpR (op_eqE hr.units) (pw 3) (pe_lst pa_nil) (nomark _)) (pw_or1 (pt_cmpR op_ne (pe_ix ix_tup (pe_ix ix_list (pw 3) (pe_op op_sub (pe_callB call_len_seq (by rfl) T.b_len PySem.boot_len (pa_cons (pw 3) pa_nil)) pe_int) (fun _ _ => rfl)) pe_int (fun _ _ => rfl)) (pe_gi rfl T.i_ASK) (nomark _))))) (pss_one (ps_ret (pe_tup (pa_cons (pe_gi rfl T.i_NO_CALL) (pa_cons pe_non pa_nil))))) pss_nil)
      (pss_one (ps_ret (pe_tup (pa_cons (pe_gi rfl T.i_FINE) (pa_cons (pe_ix ix_list (pe_fld (pw 0) rfl) (pe_ix ix_tup (pe_ix ix_list (pw 3) (pe_op op_sub (pe_callB call_len_seq (by rfl) T.b_len PySem.boot_len (pa_cons (pw 3) pa_nil)) pe_int) (fun _ _ => rfl)) pe_int (fun _ _ => rfl)) (fun _ _ => rfl)) pa_nil)))))))))
theorem ok_read_may (T : Txt w K mg) : Has P w K mg base 4 (He.fAd K ("read_may", none)) ["plan", "names", "numbers"] (sp_read_may K) := by
  have G_last_ask := ok_last_ask (P := P) (base := base) T
  refine Has.of (T.d_read_may) sc_read_may (fun _ _ _ _ _ _ us hl => match us, hl with | [_, _, _], _ => rfl) len_read_may (t_read_may K) (fun cdv A outer s H E hr => ?_) (pure_read_may T)
  have nd := sc_read_may.nd
  exact (pss_cons (ps_asg (pe_fn G_last_ask (hr.mono (by decide)) rfl T.g_last_ask (pa_cons (pw 0) (pa_cons (pe_ix ix_list (pw 1) pe_int (fun _ _ => rfl)) pa_nil))) (pg_tup rfl (pgs_cons (pg_name (i := 3) nd rfl (Or.inl rfl)) (pgs_cons (pg_name (i := 4) nd rfl (Or.inl rfl)) pgs_nil))))
      (pss_cons (ps_if (pt_cmpR op_eq (pw 3) (pe_gi rfl T.i_FINE) (nomark _)) (pss_one (ps_fld (pw 4) pe_bl rfl)) pss_nil)
      (pss_one (ps_ret (pw 3)))))
theorem ok_read_budget (T : Txt w K mg) : Has P w K mg base 4 (He.fAd K ("read_budget", none)) ["plan", "names", "numbers"] (sp_read_budget K) := by
  have G_last_ask := ok_last_ask (P := P) (base := base) T
  have G_are_within := ok_are_within (P := P) (base := base) T
  refine Has.of (T.d_read_budget) sc_read_budget (fun _ _ _ _ _ _ us hl => match us, hl with | [_, _, _], _ => rfl) len_read_budget (t_read_budget K) (fun cdv A outer s H E hr => ?_) (pure_read_budget T)
  have nd := sc_read_budget.nd
  exact (pss_cons (ps_asg (pe_fn G_last_ask (hr.mono (by decide)) rfl T.g_last_ask (pa_cons (pw 0) (pa_cons (pe_ix ix_list (pw 1) pe_int (fun _ _ => rfl)) pa_nil))) (pg_tup rfl (pgs_cons (pg_name (i := 3) nd rfl (Or.inl rfl)) (pgs_cons (pg_name (i := 4) nd rfl (Or.inl rfl)) pgs_nil))))
      (pss_cons (ps_if (pt_cmpR op_ne (pw 3) (pe_gi rfl T.i_FINE) (nomark _)) (pss_one (ps_ret (pw 3))) pss_nil)
      (pss_cons (ps_if (pt_not (pt_val (pe_fn G_are_within (hr.mono (by decide)) rfl T.g_are_within (pa_cons (pw 2) (pa_cons (pe_gr rfl T.g_BUDGET_BOUNDS) pa_nil))))) (pss_one (ps_ret (pe_gi rfl T.i_OUT_OF_RANGE))) pss_nil)
      (pss_cons (ps_fld (pw 4) (pe_ix ix_list (pw 2) pe_int (fun _ _ => rfl)) rfl)
      (pss_one (ps_ret (pe_gi rfl T.i_FINE)))))))
theorem ok_read_breaker (T : Txt w K mg) : Has P w K mg base 4 (He.fAd K ("read_breaker", none)) ["plan", "names", "numbers"] (sp_read_breaker K) := by
  have G_last_ask := ok_last_ask (P := P) (base := base) T
  have G_are_within := ok_are_within (P := P) (base := base) T
  refine Has.of (T.d_read_breaker) sc_read_breaker (fun _ _ _ _ _ _ us hl => match us, hl with | [_, _, _], _ => rfl) len_read_breaker (t_read_breaker K) (fun cdv A outer s H E hr => ?_) (pure_read_breaker T)
  have nd := sc_read_breaker.nd
  exact (pss_cons (ps_asg (pe_fn G_last_ask (hr.mono (by decide)) rfl T.g_last_ask (pa_cons (pw 0) (pa_cons (pe_ix ix_list (pw 1) pe_int (fun _ _ => rfl)) pa_nil))) (pg_tup rfl (pgs_cons (pg_name (i := 3) nd rfl (Or.inl rfl)) (pgs_cons (pg_name (i := 4) nd rfl (Or.inl rfl)) pgs_nil))))
      (pss_cons (ps_if (pt_cmpR op_ne (pw 3) (pe_gi rfl T.i_FINE) (nomark _)) (pss_one (ps_ret (pw 3))) pss_nil)
      (pss_cons (ps_if (pt_not (pt_val (pe_fn G_are_within (hr.mono (by decide)) rfl T.g_are_within (pa_cons (pw 2) (pa_cons (pe_gr rfl T.g_BREAKER_BOUNDS) pa_nil))))) (pss_one (ps_ret (pe_gi rfl T.i_OUT_OF_RANGE))) pss_nil)
      (pss_cons (ps_fld (pw 4) (pe_ix ix_list (pw 2) pe_int (fun _ _ => rfl)) rfl)
      (pss_cons (ps_fld (pw 4) (pe_ix ix_list (pw 2) pe_int (fun _ _ => rfl)) rfl)
      (pss_one (ps_ret (pe_gi rfl T.i_FINE))))))))
theorem ok_read_entry (T : Txt w K mg) : Has P w K mg base 4 (He.fAd K ("read_entry", none)) ["plan", "names", "numbers"] (sp_read_entry K) := by
  have G_place_of := ok_place_of (P := P) (base := base) T
  have G_are_within := ok_are_within (P := P) (base := base) T
  have G_Gate_init := ok_Gate_init (P := P) (base := base) T
  refine Has.of (T.d_read_entry) sc_read_entry (fun _ _ _ _ _ _ us hl => match us, hl with | [_, _, _], _ => rfl) len_read_entry (t_read_entry K) (fun cdv A outer s H E hr => ?_) (pure_read_entry T)
  have nd := sc_read_entry.nd
  exact (pss_cons (ps_if (pt_cmpR op_ne (pe_fn G_place_of (hr.mono (by decide)) rfl T.g_place_of (pa_cons (pe_fld (pw 0) rfl) (pa_cons (pe_ix ix_list (pw 1) pe_int (fun _ _ => rfl)) pa_nil))) (pe_gi rfl T.i_MISSING) (nomark _)) (pss_one (ps_ret (pe_gi rfl T.i_NAME_USED))) pss_nil)
      (pss_cons (ps_set (i := 3) nd rfl (Or.inl rfl) (pe_fn G_place_of (hr.mono (by decide)) rfl T.g_place_of (pa_cons (pe_fld (pw 0) rfl) (pa_cons (pe_ix ix_list (pw 1) pe_int (fun _ _ => rfl)) pa_nil))))
      (pss_cons (ps_if (pt_cmpR op_eq (pw 3) (pe_gi rfl T.i_MISSING) (nomark _)) (pss_one (ps_ret (pe_gi rfl T.i_NO_SERVICE))) pss_nil)
      (pss_cons (ps_if (pt_not (pt_val (pe_fn G_are_within (hr.mono (by decide)) rfl T.g_are_within (pa_cons (pw 2) (pa_cons (pe_gr rfl T.g_ENTRY_BOUNDS) pa_nil))))) (pss_one (ps_ret (pe_gi rfl T.i_OUT_OF_RANGE))) pss_nil)
      (pss_cons (ps_if (pt_cmpR op_eq (pe_callB call_len_seq (by rfl) T.b_len PySem.boot_len (pa_cons (pe_fld (pw 0) rfl) pa_nil)) (pe_gi rfl T.i_MOST_GATES) (nomark _)) (pss_one (ps_ret (pe_gi rfl T.i_TOO_MANY))) pss_nil)
      (pss_cons (ps_expr (pe_bm PySem.F.plainAttrs_list PySem.F.slot_list_append PySem.F.type_list_append mt_append (pe_fld (pw 0) rfl) (pa_cons (pe_mk T.k_Gate G_Gate_init (hr.mono (by decide)) rfl T.g_Gate (pa_cons (pe_ix ix_list (pw 1) pe_int (fun _ _ => rfl)) (pa_cons (pw 3) (pa_cons (pe_ix ix_list (pw 2) pe_int (fun _ _ => rfl)) pa_nil)))) pa_nil)))
      (pss_one (ps_ret (pe_gi rfl T.i_FINE)))))))))
end
end Cc
end

/-! ## CcWords -/
section
set_option maxRecDepth 100000
set_option maxHeartbeats 4000000
/-! A line's words: its directive, its form, its reader. -/
namespace Cc
open PySem PySem.Spec PyProof.Rows L2
def keys : List Str := ["service", "work", "ask", "may", "budget", "breaker", "entry"]
def dirOf (w : List Nat) : Str := (keys.find? fun k => decide (w = k.cps.toList)).getD ""
def fitsB (w : List Nat) (z : Str) : Bool := if z = "S" then Gp27.isName w else if z = "N" then (Gp27.number w).isSome else decide (w = z.cps.toList)
def hasForm (ws : List (List Nat)) (zs : List Str) : Bool := decide (ws.length = zs.length) && (ws.zip zs).all fun q => fitsB q.1 q.2
def WordsOk (ws : List (List Nat)) : Prop := (∀ v ∈ ws, v ≠ [] ∧ v.length ≤ 5000) ∧ ws.length ≤ 6000
def sp_directive_of (K : PySem.W.Frag) : Sp := fun vs H Q _ => ∃ (p : Addr) (w : List Nat), vs = [.ref p] ∧ SqL K H p (byV w) ∧ ∀ H', Same H H' → Q (.str (dirOf w)) H'
def sp_fits (K : PySem.W.Frag) : Sp := fun vs H Q _ => ∃ (p : Addr) (w : List Nat) (z : Str), vs = [.ref p, .str z] ∧ SqL K H p (byV w) ∧ w ≠ [] ∧ w.length ≤ 5000 ∧ z.cps.size ≤ 100 ∧ ∀ H', Same H H' → Q (.bl (fitsB w z)) H'
def sp_has_form (K : PySem.W.Frag) : Sp := fun vs H Q _ => ∃ (p f : Addr) (ws : List (List Nat)) (zs : List Str), vs = [.ref p, .ref f] ∧ ListsAt H p ws ∧ SqT K H f (zs.map V.str) ∧ WordsOk ws ∧ (∀ z ∈ zs, z.cps.size ≤ 100) ∧ ∀ H', Same H H' → Q (.bl (hasForm ws zs)) H'
section
variable {K : PySem.W.Frag}
theorem len_directive_of : ∀ vs H Q E, sp_directive_of K vs H Q E → vs.length = (["word"] : List Str).length := by rintro _ _ _ _ ⟨_, _, rfl, _⟩; rfl
theorem len_fits : ∀ vs H Q E, sp_fits K vs H Q E → vs.length = (["word", "wanted"] : List Str).length := by rintro _ _ _ _ ⟨_, _, _, rfl, _⟩; rfl
theorem len_has_form : ∀ vs H Q E, sp_has_form K vs H Q E → vs.length = (["words", "form"] : List Str).length := by rintro _ _ _ _ ⟨_, _, _, _, rfl, _⟩; rfl
end
abbrev N_directive_of : List Str := ["word", "text"]
theorem sc_directive_of : FnScope N_directive_of ["word"] (defScope s_directive_of) := ⟨rfl, rfl, rfl, by decide +kernel, rfl, by decide +kernel, by decide +kernel⟩
def t_directive_of (K : PySem.W.Frag) : TS := (tSeq (tFor (iKd K (tC (.ref (He.ga K "FORMS")))) (gName 1) (tIfS (tB (tCall (sp_is_word K) [] E0 (tCons (tVar 0) (tCons (tVar 1) tNil)))) (tRet (tVar 1)) tNext))
  (tRet (tC (.str ""))))
abbrev N_fits : List Str := ["word", "wanted"]
theorem sc_fits : FnScope N_fits ["word", "wanted"] (defScope s_fits) := ⟨rfl, rfl, rfl, by decide +kernel, rfl, by decide +kernel, by decide +kernel⟩
def t_fits (K : PySem.W.Frag) : TS := (tSeq (tIfS (tTest (tOp rEq (tVar 1) (tC (.str "S")))) (tRet (tCall (sp_is_name K) [] E0 (tCons (tVar 0) tNil))) tNext)
  (tSeq (tIfS (tTest (tOp rEq (tVar 1) (tC (.str "N")))) (tRet (tCall (sp_is_number K) [] E0 (tCons (tVar 0) tNil))) tNext)
  (tRet (tCall (sp_is_word K) [] E0 (tCons (tVar 0) (tCons (tVar 1) tNil))))))
abbrev N_has_form : List Str := ["words", "form", "word", "wanted"]
theorem sc_has_form : FnScope N_has_form ["words", "form"] (defScope s_has_form) := ⟨rfl, rfl, rfl, by decide +kernel, rfl, by decide +kernel, by decide +kernel⟩
def t_has_form (K : PySem.W.Frag) : TS := (tRet (tAndV (tOp rEq (tCB (rLenQ K) (tCons (tVar 0) tNil)) (tCB (rLenQ K) (tCons (tVar 1) tNil))) (tCB (rAll K) (tCons (tLc (iZipLT K (tCons (tVar 0) (tCons (tVar 1) tNil))) (gTup K 2 (gCons (gName 2) (gCons (gName 3) gNil))) tYes (tCall (sp_fits K) [] E0 (tCons (tVar 2) (tCons (tVar 3) tNil))) [2, 3]) tNil))))
theorem keys_size : ∀ k ∈ keys, k.cps.size ≤ 100 := by decide +kernel
theorem ListsAt.mono {H H' : Hp} {D : Addr} {l : List (List Nat)} (h : ListsAt H D l) (s : Same H H') : ListsAt H' D l := by
  obtain ⟨ps, h1, h2, h3⟩ := h
  exact ⟨ps, s _ _ h1, h2, fun i x hx => by
    obtain ⟨p, e1, e2, e3⟩ := h3 i x hx
    exact ⟨p, e1, e2, s _ _ e3⟩⟩
theorem vs_eq {a b : Str} : (V.str a = V.str b) ↔ a = b := ⟨fun z => by injection z, fun z => by rw [z]⟩
section
variable {P : Program} {w : World} {K : PySem.W.Frag} {mg : Str → Option Value} {base : Heap}
theorem Txt.kforms (T : Txt w K mg) : ∃ es n, KKeys K (He.ga K "FORMS") keys es n := by
  have e : ts.map (fun t => He.dicW K (t.1 K)) = ts.map fun t => some (He.keysIn w.params t.2) := congrArg (fun z : He.AlT => z.2) T.s
  have e2 : (ts.map fun t => He.dicW K (t.1 K))[0]? = (ts.map fun t => some (He.keysIn w.params t.2))[0]? := by rw [e]
  exact kkeys_of (P := w.params) (Option.some.inj e2)
theorem pure_directive_of (T : Txt w K mg) (vs : List V) (H : Hp) (Q : VK) (E : XK) (h : sp_directive_of K vs H Q E) : t_directive_of K { nx := fun _ H' => Q .non H', rt := Q } (start N_directive_of vs) H := by
  obtain ⟨p, wd, rfl, hx, kk⟩ := h
  obtain ⟨es, nn, hkk⟩ := T.kforms
  refine ⟨_, keys, es, nn, rfl, hkk, ?_⟩
  refine for_it walk_kd (fun i σ' H' => ∃ y : Option V, σ' = [some (.ref p), y] ∧ Same H H' ∧ (keys.take i).find? (fun k => decide (wd = k.cps.toList)) = none) ⟨none, rfl, Same.refl H, rfl⟩ (fun _ _ _ _ _ => trivial) ?_ ?_
  · rintro i x σ' H1 H2 hi ⟨y, rfl, s, hf⟩ ⟨rfl, k, hk, rfl⟩
    refine e_fn (va_cons (val_var (v := .ref p) rfl) (va_cons (val_var (v := .str k) rfl) va_nil)) ⟨p, wd, k, rfl, Same.seq s hx, keys_size k (List.mem_of_getElem? hk), fun H3 s3 => ⟨_, rfl, ?_⟩⟩
    by_cases c : wd = k.cps.toList
    · rw [decide_eq_true c]
      have e : dirOf wd = k := by
        unfold dirOf
        rw [find_at hf hk (decide_eq_true c)] <;> rfl
      rw [e] at kk
      exact iteT (st_ret (val_var (v := .str k) rfl) (kk H3 (trS s s3)))
    · rw [decide_eq_false c]
      exact iteF ⟨_, rfl, trS s s3, find_no hf hk (decide_eq_false c)⟩
  · rintro σ' H' ⟨y, rfl, s, hf⟩
    rw [List.take_length] at hf
    have e : dirOf wd = "" := by
      unfold dirOf
      rw [hf] <;> rfl
    rw [e] at kk
    exact kk H' s
theorem pure_fits (T : Txt w K mg) (vs : List V) (H : Hp) (Q : VK) (E : XK) (h : sp_fits K vs H Q E) : t_fits K { nx := fun _ H' => Q .non H', rt := Q } (start N_fits vs) H := by
  obtain ⟨p, wd, z, rfl, hx, hne, hl, hz, kk⟩ := h
  unfold fitsB at kk
  refine st_ifd (p := V.str z = V.str "S") (ans_t (val_eq (val_var rfl) val_c)) (fun c => ?_) (fun c => ?_)
  · rw [if_pos (vs_eq.mp c)] at kk
    exact e_ret (e_fn (va_cons (val_var rfl) va_nil) ⟨p, wd, rfl, hx, hne, hl, kk⟩)
  rw [if_neg (fun y => c (vs_eq.mpr y))] at kk
  refine st_ifd (p := V.str z = V.str "N") (ans_t (val_eq (val_var rfl) val_c)) (fun c2 => ?_) (fun c2 => ?_)
  · rw [if_pos (vs_eq.mp c2)] at kk
    exact e_ret (e_fn (va_cons (val_var rfl) va_nil) ⟨p, wd, rfl, hx, hne, hl, kk⟩)
  rw [if_neg (fun y => c2 (vs_eq.mpr y))] at kk
  exact e_ret (e_fn (va_cons (val_var rfl) (va_cons (val_var rfl) va_nil)) ⟨p, wd, z, rfl, hx, hz, kk⟩)
theorem pure_has_form (T : Txt w K mg) (vs : List V) (H : Hp) (Q : VK) (E : XK) (h : sp_has_form K vs H Q E) : t_has_form K { nx := fun _ H' => Q .non H', rt := Q } (start N_has_form vs) H := by
  obtain ⟨p, f, ws, zs, rfl, hL, hf, ok, hz, kk⟩ := h
  obtain ⟨ps, h1, h2, h3⟩ := id hL
  unfold hasForm at kk
  refine e_ret (e_andV (b := decide (ws.length = zs.length)) (val_to (val_eq (val_len (val_var rfl) (SqL.of h1)) (val_lenT (val_var rfl) hf)) (congrArg V.bl (decide_eq_decide.mpr (by rw [vi_eq, List.length_map, List.length_map, h2]; omega)))) (fun c => ?_) (fun c => ?_))
  · rw [c] at kk
    have hl : ws.length = zs.length := of_decide_eq_true c
    refine e_all (zipLT_c (a := p) (b := f) (va_cons (val_var rfl) (va_cons (val_var rfl) va_nil)) (SqL.of h1) hf ?_)
    refine fun D hD => lc_it (walk_zt (n := ws.length) (by rw [List.length_map, h2]) (by rw [List.length_map, hl])) (fun i H' => Same H H' ∧ H' D = some (.lst ((((ws.zip zs).take i).map fun q => fitsB q.1 q.2).map V.bl))) ⟨same_put (Same.refl H) hD, upd_same⟩ (fun i H' _ y => ⟨SqL.of (y.1 _ _ h1), st_ne hf (y.1 f)⟩) ?_ ?_
    · rintro i x H1 H2 hi ⟨s, hd⟩ ⟨t, u, v, rfl, ht, rfl, e1, e2⟩
      have en := List.getElem?_eq_getElem hi
      generalize ws[i] = n at en
      have eb := List.getElem?_eq_getElem (show i < zs.length by omega)
      generalize zs[i]'(by omega) = z at eb
      obtain ⟨q, u1, u2, u3⟩ := h3 i n en
      have e1 : (ps.map V.ref)[i]? = some u := e1
      have e2 : (zs.map V.str)[i]? = some v := e2
      rw [List.getElem?_map, u1] at e1
      rw [List.getElem?_map, eb] at e2
      cases e1
      cases e2
      have s2 : Same H (upd H1 t (.tup [V.ref q, V.str z])) := fun b o z => same_new ht _ _ (s _ _ z)
      have okn := ok.1 n (List.mem_of_getElem? en)
      refine ⟨t, _, rfl, SqT.of upd_same, rfl, _, _, rfl, _, _, rfl, rfl, rfl, ans_yes _ (iteT ?_)⟩
      refine e_fn (va_cons (val_var (v := .ref q) rfl) (va_cons (val_var (v := .str z) rfl) va_nil)) ⟨q, n, z, rfl, SqL.of (s2 _ _ u3), okn.1, okn.2, hz z (List.mem_of_getElem? eb), fun H3 s3 => ⟨_, s3 _ _ (same_new ht _ _ hd), ?_, same_upd (trS s2 s3) hD, ?_⟩⟩
      · rw [List.length_map, List.length_map, List.length_take]
        exact Nat.lt_of_le_of_lt (Nat.min_le_left _ _) (Nat.lt_of_lt_of_le hi (Nat.le_trans ok.2 (by decide)))
      · have ez : (ws.zip zs)[i]? = some (n, z) := List.getElem?_zip_eq_some.mpr ⟨en, eb⟩
        rw [upd_same, take_more ez, List.map_append, List.map_append] <;> rfl
    · rintro H' ⟨s, hd⟩
      rw [List.take_of_length_le (by rw [List.length_zip]; omega)] at hd
      refine ⟨D, _, rfl, SqL.of hd, ?_⟩
      have e : ((ws.zip zs).map fun q => fitsB q.1 q.2).all id = (ws.zip zs).all fun q => fitsB q.1 q.2 := by
        rw [List.all_map] <;> rfl
      rw [e]
      exact kk H' s
  · rw [c] at kk
    exact kk H (Same.refl H)
theorem ok_directive_of (T : Txt w K mg) : Has P w K mg base 2 (He.fAd K ("directive_of", none)) ["word"] (sp_directive_of K) := by
  have G_is_word := ok_is_word (P := P) (base := base) T
  refine Has.of (T.d_directive_of) sc_directive_of (fun _ _ _ _ _ _ us hl => match us, hl with | [_], _ => rfl) len_directive_of (t_directive_of K) (fun cdv A outer s H E hr => ?_) (pure_directive_of T)
  have nd := sc_directive_of.nd
  exact (pss_cons (ps_for PassesOwn.never rfl (pi_kdict (pe_gr rfl T.g_FORMS)) (pg_name (i := 1) nd rfl (Or.inl rfl)) (pss_one (ps_if (pt_val (pe_fn G_is_word (hr.mono (by decide)) rfl T.g_is_word (pa_cons (pw 0) (pa_cons (pw 1) pa_nil)))) (pss_one (ps_ret (pw 1))) pss_nil)))
      (pss_one (ps_ret pe_str)))
theorem ok_fits (T : Txt w K mg) : Has P w K mg base 3 (He.fAd K ("fits", none)) ["word", "wanted"] (sp_fits K) := by
  have G_is_name := ok_is_name (P := P) (base := base) T
  have G_is_number := ok_is_number (P := P) (base := base) T
  have G_is_word := ok_is_word (P := P) (base := base) T
  refine Has.of (T.d_fits) sc_fits (fun _ _ _ _ _ _ us hl => match us, hl with | [_, _], _ => rfl) len_fits (t_fits K) (fun cdv A outer s H E hr => ?_) (pure_fits T)
  have nd := sc_fits.nd
  exact (pss_cons (ps_if (pt_cmpR op_eq (pw 1) pe_str (nomark _)) (pss_one (ps_ret (pe_fn G_is_name (hr.mono (by decide)) rfl T.g_is_name (pa_cons (pw 0) pa_nil)))) pss_nil)
      (pss_cons (ps_if (pt_cmpR op_eq (pw 1) pe_str (nomark _)) (pss_one (ps_ret (pe_fn G_is_number (hr.mono (by decide)) rfl T.g_is_number (pa_cons (pw 0) pa_nil)))) pss_nil)
      (pss_one (ps_ret (pe_fn G_is_word (hr.mono (by decide)) rfl T.g_is_word (pa_cons (pw 0) (pa_cons (pw 1) pa_nil)))))))
theorem ok_has_form (T : Txt w K mg) : Has P w K mg base 4 (He.fAd K ("has_form", none)) ["words", "form"] (sp_has_form K) := by
  have G_fits := ok_fits (P := P) (base := base) T
  refine Has.of (T.d_has_form) sc_has_form (fun _ _ _ _ _ _ us hl => match us, hl with | [_, _], _ => rfl) len_has_form (t_has_form K) (fun cdv A outer s H E hr => ?_) (pure_has_form T)
  have nd := sc_has_form.nd
  exact (pss_one (ps_ret (pe_and (pe_cmpR op_eq (pe_callB call_len_seq (by rfl) T.b_len PySem.boot_len (pa_cons (pw 0) pa_nil)) (pe_callB call_len_seq (by rfl) T.b_len PySem.boot_len (pa_cons (pw 1) pa_nil)) (nomark _)) (pe_one (pe_callB (cr_all rfl) (by rfl) T.b_all (by decide +kernel) (pa_cons (pe_lc (own := [("word", 2), ("wanted", 3)]) (by rfl) nd (pi_zipLT (by rfl) T.b_zip (pa_cons (pw 0) (pa_cons (pw 1) pa_nil))) (blkOk_by (own := [("word", 2), ("wanted", 3)]) (N := N_has_form) (sc := defScope s_has_form) (by decide +kernel)) (fun _ _ _ _ _ => (pg_tup rfl (pgs_cons (pg_name (i := 2) nd rfl (Or.inl rfl)) (pgs_cons (pg_name (i := 3) nd rfl (Or.inl rfl)) pgs_nil)))) (fun _ _ _ _ _ => pts_nil) (fun _ _ _ _ _ => (pe_fn G_fits (hr.mono (by decide)) rfl T.g_fits (pa_cons (pw 2) (pa_cons (pw 3) pa_nil))))) pa_nil))))))
end
end Cc
end

/-! ## W8 -/
section
set_option maxRecDepth 100000
set_option maxHeartbeats 4000000
/-! A line's words: what the program computes is what the specification says. Plain Lean. -/
namespace Cc
open PySem PySem.Spec PyProof.Rows L2
def formOf (d : Str) : List Str :=
  if d = "service" then ["S", "workers", "N", "queue", "N"] else if d = "work" then ["S", "N"] else if d = "ask" then ["S", "S", "within", "N", "tries", "N", "wait", "N"] else if d = "may" then ["S", "fail"] else if d = "budget" then ["S", "N"]
  else if d = "breaker" then ["S", "N", "for", "N"] else ["S", "to", "S", "within", "N"]
def rdBy (d : Str) : Gp27.House → List (List Nat) → List Nat → Nat × Gp27.House :=
  if d = "service" then rdService else if d = "work" then rdWork else if d = "ask" then rdAsk else if d = "may" then rdMay else if d = "budget" then rdBudget else if d = "breaker" then rdBreaker else rdEntry
def namesOf (r : List (List Nat)) (zs : List Str) : List (List Nat) := ((r.zip zs).filter fun q => decide (q.2 = ("S" : Str))).map (·.1)
def numsOf (r : List (List Nat)) (zs : List Str) : List Nat := ((r.zip zs).filter fun q => decide (q.2 = ("N" : Str))).map fun q => (Gp27.number q.1).getD 0
def rdWords (h : Gp27.House) (w0 : List Nat) (r : List (List Nat)) : Nat × Gp27.House :=
  if dirOf w0 = "" then (2, h) else if hasForm r (formOf (dirOf w0)) = false then (3, h) else rdBy (dirOf w0) h (namesOf r (formOf (dirOf w0))) (numsOf r (formOf (dirOf w0)))
theorem fS (w : List Nat) : fitsB w "S" = Gp27.isName w := if_pos rfl
theorem fN (w : List Nat) : fitsB w "N" = (Gp27.number w).isSome := by
  unfold fitsB
  rw [if_neg (by decide +kernel), if_pos rfl]
theorem fW (w : List Nat) (z : Str) (h1 : z ≠ "S") (h2 : z ≠ "N") : fitsB w z = decide (w = z.cps.toList) := by
  unfold fitsB
  rw [if_neg h1, if_neg h2]
/-- what a line's outcome is -/
def outE (k : Nat) (x : Nat × Gp27.House) : Except Gp27.Fault Gp27.House := if x.1 = 0 then .ok x.2 else .error (k, x.1)
theorem txt_eq : Gp27.txt "service" = ("service" : Str).cps.toList ∧ Gp27.txt "work" = ("work" : Str).cps.toList ∧ Gp27.txt "ask" = ("ask" : Str).cps.toList ∧ Gp27.txt "may" = ("may" : Str).cps.toList ∧ Gp27.txt "budget" = ("budget" : Str).cps.toList ∧ Gp27.txt "breaker" = ("breaker" : Str).cps.toList ∧ Gp27.txt "entry" = ("entry" : Str).cps.toList := by decide +kernel
theorem txt_eq2 : Gp27.txt "workers" = ("workers" : Str).cps.toList ∧ Gp27.txt "queue" = ("queue" : Str).cps.toList ∧ Gp27.txt "within" = ("within" : Str).cps.toList ∧ Gp27.txt "tries" = ("tries" : Str).cps.toList ∧ Gp27.txt "wait" = ("wait" : Str).cps.toList ∧ Gp27.txt "fail" = ("fail" : Str).cps.toList ∧ Gp27.txt "for" = ("for" : Str).cps.toList ∧ Gp27.txt "to" = ("to" : Str).cps.toList := by decide +kernel
theorem hf_nil {r : List (List Nat)} {zs : List Str} (h : r.length ≠ zs.length) : hasForm r zs = false := by
  unfold hasForm
  rw [decide_eq_false h] <;> rfl
theorem dir_at (w : List Nat) : dirOf w = if w = Gp27.txt "service" then "service" else if w = Gp27.txt "work" then "work" else if w = Gp27.txt "ask" then "ask" else if w = Gp27.txt "may" then "may" else if w = Gp27.txt "budget" then "budget" else if w = Gp27.txt "breaker" then "breaker" else if w = Gp27.txt "entry" then "entry" else "" := by
  obtain ⟨t1, t2, t3, t4, t5, t6, t7⟩ := txt_eq
  rw [t1, t2, t3, t4, t5, t6, t7]
  unfold dirOf keys
  simp only [List.find?_cons, List.find?_nil]
  by_cases c1 : w = ("service" : Str).cps.toList
  · rw [decide_eq_true c1, if_pos c1] <;> rfl
  rw [decide_eq_false c1, if_neg c1]
  by_cases c2 : w = ("work" : Str).cps.toList
  · rw [decide_eq_true c2, if_pos c2] <;> rfl
  rw [decide_eq_false c2, if_neg c2]
  by_cases c3 : w = ("ask" : Str).cps.toList
  · rw [decide_eq_true c3, if_pos c3] <;> rfl
  rw [decide_eq_false c3, if_neg c3]
  by_cases c4 : w = ("may" : Str).cps.toList
  · rw [decide_eq_true c4, if_pos c4] <;> rfl
  rw [decide_eq_false c4, if_neg c4]
  by_cases c5 : w = ("budget" : Str).cps.toList
  · rw [decide_eq_true c5, if_pos c5] <;> rfl
  rw [decide_eq_false c5, if_neg c5]
  by_cases c6 : w = ("breaker" : Str).cps.toList
  · rw [decide_eq_true c6, if_pos c6] <;> rfl
  rw [decide_eq_false c6, if_neg c6]
  by_cases c7 : w = ("entry" : Str).cps.toList
  · rw [decide_eq_true c7, if_pos c7] <;> rfl
  rw [decide_eq_false c7, if_neg c7] <;> rfl
theorem out_if {k : Nat} {c : Prop} [Decidable c] {a b : Nat × Gp27.House} : outE k (if c then a else b) = if c then outE k a else outE k b := by
  by_cases h : c
  · rw [if_pos h, if_pos h]
  · rw [if_neg h, if_neg h]
theorem out_err {k n : Nat} {h : Gp27.House} (hn : n ≠ 0) : outE k (n, h) = .error (k, n) := if_neg hn
theorem out_ok {k : Nat} {h : Gp27.House} : outE k (0, h) = .ok h := if_pos rfl
theorem some_of {α : Type} {o : Option α} (h : o.isSome = true) : ∃ x, o = some x := by
  cases o with
  | none => cases h
  | some x => exact ⟨x, rfl⟩
theorem last_none {h : Gp27.House} {n : List Nat} (e : Gp27.serviceNamed h n = none) : Cw.lastOf h n = (6, 0) := by
  unfold Cw.lastOf
  rw [e]
theorem last_no {h : Gp27.House} {n : List Nat} {i : Nat} (e : Gp27.serviceNamed h n = some i) (e2 : Gp27.lastAsk h i = none) : Cw.lastOf h n = (4, 0) := by
  unfold Cw.lastOf
  rw [e]
  dsimp only
  rw [e2]
theorem last_yes {h : Gp27.House} {n : List Nat} {i j : Nat} (e : Gp27.serviceNamed h n = some i) (e2 : Gp27.lastAsk h i = some j) : Cw.lastOf h n = (0, j) := by
  unfold Cw.lastOf
  rw [e]
  dsimp only
  rw [e2]
theorem law_service {h : Gp27.House} {k : Nat} {r : List (List Nat)} : (match r with
      | [n, a, x, b, y] => if Gp27.isName n = false ∨ a ≠ Gp27.txt "workers" ∨ b ≠ Gp27.txt "queue" then .error (k, 3) else (match Gp27.number x, Gp27.number y with
        | some x, some y => if (Gp27.serviceNamed h n).isSome = true then .error (k, 5) else if x = 0 ∨ 9 < x ∨ 20 < y then .error (k, 7) else if 8 ≤ h.services.length then .error (k, 8) else .ok { h with services := h.services ++ [⟨n, x, y, []⟩] }
        | _, _ => .error (k, 3))
      | _ => .error (k, 3) : Except Gp27.Fault Gp27.House) = outE k (if hasForm r ["S", "workers", "N", "queue", "N"] = false then (3, h) else rdService h (namesOf r ["S", "workers", "N", "queue", "N"]) (numsOf r ["S", "workers", "N", "queue", "N"])) := by
  split
  · rename_i n a x b y
    have hf : hasForm [n, a, x, b, y] ["S", "workers", "N", "queue", "N"] = (Gp27.isName n && (decide (a = Gp27.txt "workers") && ((Gp27.number x).isSome && (decide (b = Gp27.txt "queue") && ((Gp27.number y).isSome && true))))) := by
      rw [txt_eq2.1, txt_eq2.2.1, ← fS, ← fN, ← fN, ← fW a "workers" (by decide +kernel) (by decide +kernel), ← fW b "queue" (by decide +kernel) (by decide +kernel)] <;> rfl
    have hn : namesOf [n, a, x, b, y] ["S", "workers", "N", "queue", "N"] = [n] := by kernel_rfl
    have hk : numsOf [n, a, x, b, y] ["S", "workers", "N", "queue", "N"] = [(Gp27.number x).getD 0, (Gp27.number y).getD 0] := by kernel_rfl
    rw [hf, hn, hk]
    by_cases c : Gp27.isName n = false ∨ a ≠ Gp27.txt "workers" ∨ b ≠ Gp27.txt "queue"
    · rw [if_pos c, if_pos (by rcases c with c | c | c <;> simp [c]), out_err (by decide)]
    · have c1 : Gp27.isName n = true := by
        cases e : Gp27.isName n with
        | true => rfl
        | false => exact absurd (.inl e) c
      have c2 : a = Gp27.txt "workers" := Decidable.of_not_not fun e => c (.inr (.inl e))
      have c3 : b = Gp27.txt "queue" := Decidable.of_not_not fun e => c (.inr (.inr e))
      rw [if_neg c]
      cases ex : Gp27.number x with
      | none => rw [if_pos (by simp), out_err (by decide)]
      | some x' =>
        cases ey : Gp27.number y with
        | none => rw [if_pos (by simp), out_err (by decide)]
        | some y' =>
          rw [if_neg (by simp [c1, c2, c3])]
          show _ = outE k (Cw.doService h n x' y')
          unfold Cw.doService
          rw [out_if, out_if, out_if, out_err (by decide), out_err (by decide), out_err (by decide), out_ok]
  · rename_i hne
    have : r.length ≠ 5 := fun hl => by
      match r, hl with
      | [n, a, x, b, y], _ => exact hne _ _ _ _ _ rfl
    rw [hf_nil this, if_pos rfl, out_err (by decide)]
theorem law_work {h : Gp27.House} {k : Nat} {r : List (List Nat)} : (match r with
      | [n, x] => if Gp27.isName n = false then .error (k, 3) else (match Gp27.number x with
        | none => .error (k, 3)
        | some x => match Gp27.serviceNamed h n with
          | none => .error (k, 6)
          | some i => if x = 0 ∨ 50 < x then .error (k, 7) else if 5 ≤ (Gp27.stepsOf h i).length then .error (k, 8) else .ok (Gp27.addStep h i (.work x)))
      | _ => .error (k, 3) : Except Gp27.Fault Gp27.House) = outE k (if hasForm r ["S", "N"] = false then (3, h) else rdWork h (namesOf r ["S", "N"]) (numsOf r ["S", "N"])) := by
  split
  · rename_i n x
    have hf : hasForm [n, x] ["S", "N"] = (Gp27.isName n && ((Gp27.number x).isSome && true)) := by
      rw [← fS n, ← fN x]
      kernel_rfl
    have hn : namesOf [n, x] ["S", "N"] = [n] := by kernel_rfl
    have hk : numsOf [n, x] ["S", "N"] = [(Gp27.number x).getD 0] := by kernel_rfl
    rw [hf, hn, hk]
    by_cases c : Gp27.isName n = false
    · rw [if_pos c, if_pos (by simp [c]), out_err (by decide)]
    · have c0 : Gp27.isName n = true := by
        cases e : Gp27.isName n with
        | true => rfl
        | false => exact absurd e c
      rw [if_neg c]
      cases ex : Gp27.number x with
      | none => rw [if_pos (by simp), out_err (by decide)]
      | some x' =>
        rw [if_neg (by simp [c0])]
        show _ = outE k (Cw.doWork h n x')
        unfold Cw.doWork
        cases ei : Gp27.serviceNamed h n with
        | none => exact (out_err (by decide)).symm
        | some i =>
          dsimp only
          rw [out_if, out_if, out_err (by decide), out_err (by decide), out_ok]
  · rename_i hne
    have : r.length ≠ 2 := fun hl => by
      match r, hl with
      | [n, x], _ => exact hne _ _ rfl
    rw [hf_nil this, if_pos rfl, out_err (by decide)]
theorem law_ask {h : Gp27.House} {k : Nat} {r : List (List Nat)} : (match r with
      | [n, d, a, x, b, y, c, z] => if Gp27.isName n = false ∨ Gp27.isName d = false ∨ a ≠ Gp27.txt "within" ∨ b ≠ Gp27.txt "tries" ∨ c ≠ Gp27.txt "wait" then .error (k, 3) else (match Gp27.number x, Gp27.number y, Gp27.number z with
        | some x, some y, some z => (match Gp27.serviceNamed h n, Gp27.serviceNamed h d with
          | some i, some j => if i ≤ j ∨ x = 0 ∨ 200 < x ∨ y = 0 ∨ 4 < y ∨ 20 < z then .error (k, 7) else if 5 ≤ (Gp27.stepsOf h i).length ∨ 12 ≤ h.asks.length then .error (k, 8) else .ok { Gp27.addStep h i (.ask h.asks.length) with asks := h.asks ++ [⟨j, x, y, z, false, 0, 0, 0⟩] }
          | _, _ => .error (k, 6))
        | _, _, _ => .error (k, 3))
      | _ => .error (k, 3) : Except Gp27.Fault Gp27.House) = outE k (if hasForm r ["S", "S", "within", "N", "tries", "N", "wait", "N"] = false then (3, h) else rdAsk h (namesOf r ["S", "S", "within", "N", "tries", "N", "wait", "N"]) (numsOf r ["S", "S", "within", "N", "tries", "N", "wait", "N"])) := by
  split
  · rename_i n d a x b y c z
    have hf : hasForm [n, d, a, x, b, y, c, z] ["S", "S", "within", "N", "tries", "N", "wait", "N"] = (Gp27.isName n && (Gp27.isName d && (decide (a = Gp27.txt "within") && ((Gp27.number x).isSome && (decide (b = Gp27.txt "tries") && ((Gp27.number y).isSome && (decide (c = Gp27.txt "wait") && ((Gp27.number z).isSome && true)))))))) := by
      rw [txt_eq2.2.2.1, txt_eq2.2.2.2.1, txt_eq2.2.2.2.2.1, ← fW a "within" (by decide +kernel) (by decide +kernel), ← fW b "tries" (by decide +kernel) (by decide +kernel), ← fW c "wait" (by decide +kernel) (by decide +kernel), ← fS n, ← fS d, ← fN x, ← fN y, ← fN z]
      kernel_rfl
    have hn : namesOf [n, d, a, x, b, y, c, z] ["S", "S", "within", "N", "tries", "N", "wait", "N"] = [n, d] := by kernel_rfl
    have hk : numsOf [n, d, a, x, b, y, c, z] ["S", "S", "within", "N", "tries", "N", "wait", "N"] = [(Gp27.number x).getD 0, (Gp27.number y).getD 0, (Gp27.number z).getD 0] := by kernel_rfl
    rw [hf, hn, hk]
    by_cases hc : Gp27.isName n = false ∨ Gp27.isName d = false ∨ a ≠ Gp27.txt "within" ∨ b ≠ Gp27.txt "tries" ∨ c ≠ Gp27.txt "wait"
    · rw [if_pos hc, if_pos (by rcases hc with hc | hc | hc | hc | hc <;> simp [hc]), out_err (by decide)]
    · have c0 : Gp27.isName n = true := by
        cases e : Gp27.isName n with
        | true => rfl
        | false => exact absurd (.inl e) hc
      have c1 : Gp27.isName d = true := by
        cases e : Gp27.isName d with
        | true => rfl
        | false => exact absurd (.inr (.inl e)) hc
      have c2 : a = Gp27.txt "within" := Decidable.of_not_not fun e => hc (.inr (.inr (.inl e)))
      have c3 : b = Gp27.txt "tries" := Decidable.of_not_not fun e => hc (.inr (.inr (.inr (.inl e))))
      have c4 : c = Gp27.txt "wait" := Decidable.of_not_not fun e => hc (.inr (.inr (.inr (.inr e))))
      rw [if_neg hc]
      cases ex : Gp27.number x with
      | none => rw [if_pos (by simp), out_err (by decide)]
      | some x' =>
        cases ey : Gp27.number y with
        | none => rw [if_pos (by simp), out_err (by decide)]
        | some y' =>
          cases ez : Gp27.number z with
          | none => rw [if_pos (by simp), out_err (by decide)]
          | some z' =>
            rw [if_neg (by simp [c0, c1, c2, c3, c4])]
            show _ = outE k (Cw.doAsk h n d x' y' z')
            unfold Cw.doAsk
            cases ei : Gp27.serviceNamed h n with
            | none => exact (out_err (by decide)).symm
            | some i =>
              cases ej : Gp27.serviceNamed h d with
              | none => exact (out_err (by decide)).symm
              | some j =>
                dsimp only
                rw [out_if, out_if, out_err (by decide), out_err (by decide), out_ok]
  · rename_i hne
    have : r.length ≠ 8 := fun hl => by
      match r, hl with
      | [n, d, a, x, b, y, c, z], _ => exact hne _ _ _ _ _ _ _ _ rfl
    rw [hf_nil this, if_pos rfl, out_err (by decide)]
theorem law_may {h : Gp27.House} {k : Nat} {r : List (List Nat)} : (match r with
      | [n, f] => if Gp27.isName n = false ∨ f ≠ Gp27.txt "fail" then .error (k, 3) else (match Gp27.serviceNamed h n with
        | none => .error (k, 6)
        | some i => match Gp27.lastAsk h i with
          | none => .error (k, 4)
          | some j => .ok (Gp27.changeAsk h j fun a => { a with may := true }))
      | _ => .error (k, 3) : Except Gp27.Fault Gp27.House) = outE k (if hasForm r ["S", "fail"] = false then (3, h) else rdMay h (namesOf r ["S", "fail"]) (numsOf r ["S", "fail"])) := by
  split
  · rename_i n f
    have hf : hasForm [n, f] ["S", "fail"] = (Gp27.isName n && (decide (f = Gp27.txt "fail") && true)) := by
      rw [txt_eq2.2.2.2.2.2.1, ← fW f "fail" (by decide +kernel) (by decide +kernel), ← fS n]
      kernel_rfl
    have hn : namesOf [n, f] ["S", "fail"] = [n] := by kernel_rfl
    have hk : numsOf [n, f] ["S", "fail"] = [] := by kernel_rfl
    rw [hf, hn, hk]
    by_cases c : Gp27.isName n = false ∨ f ≠ Gp27.txt "fail"
    · rw [if_pos c, if_pos (by rcases c with c | c <;> simp [c]), out_err (by decide)]
    · have c0 : Gp27.isName n = true := by
        cases e : Gp27.isName n with
        | true => rfl
        | false => exact absurd (.inl e) c
      have c1 : f = Gp27.txt "fail" := Decidable.of_not_not fun e => c (.inr e)
      rw [if_neg c]
      rw [if_neg (by simp [c0, c1])]
      show _ = outE k (Cw.doMay h n)
      unfold Cw.doMay
      cases ei : Gp27.serviceNamed h n with
      | none => rw [last_none ei, if_neg (by decide), out_err (by decide)]
      | some i =>
        dsimp only
        cases ej : Gp27.lastAsk h i with
        | none => rw [last_no ei ej, if_neg (by decide), out_err (by decide)]
        | some j =>
          dsimp only
          rw [last_yes ei ej, if_pos rfl]
          rw [out_ok]
  · rename_i hne
    have : r.length ≠ 2 := fun hl => by
      match r, hl with
      | [n, f], _ => exact hne _ _ rfl
    rw [hf_nil this, if_pos rfl, out_err (by decide)]
theorem law_budget {h : Gp27.House} {k : Nat} {r : List (List Nat)} : (match r with
      | [n, x] => if Gp27.isName n = false then .error (k, 3) else (match Gp27.number x with
        | none => .error (k, 3)
        | some x => match Gp27.serviceNamed h n with
          | none => .error (k, 6)
          | some i => match Gp27.lastAsk h i with
            | none => .error (k, 4)
            | some j => if x = 0 ∨ 20 < x then .error (k, 7) else .ok (Gp27.changeAsk h j fun a => { a with cost := x }))
      | _ => .error (k, 3) : Except Gp27.Fault Gp27.House) = outE k (if hasForm r ["S", "N"] = false then (3, h) else rdBudget h (namesOf r ["S", "N"]) (numsOf r ["S", "N"])) := by
  split
  · rename_i n x
    have hf : hasForm [n, x] ["S", "N"] = (Gp27.isName n && ((Gp27.number x).isSome && true)) := by
      rw [← fS n, ← fN x]
      kernel_rfl
    have hn : namesOf [n, x] ["S", "N"] = [n] := by kernel_rfl
    have hk : numsOf [n, x] ["S", "N"] = [(Gp27.number x).getD 0] := by kernel_rfl
    rw [hf, hn, hk]
    by_cases c : Gp27.isName n = false
    · rw [if_pos c, if_pos (by simp [c]), out_err (by decide)]
    · have c0 : Gp27.isName n = true := by
        cases e : Gp27.isName n with
        | true => rfl
        | false => exact absurd e c
      rw [if_neg c]
      cases ex : Gp27.number x with
      | none => rw [if_pos (by simp), out_err (by decide)]
      | some x' =>
        rw [if_neg (by simp [c0])]
        show _ = outE k (Cw.doBudget h n x')
        unfold Cw.doBudget
        cases ei : Gp27.serviceNamed h n with
        | none => rw [last_none ei, if_neg (by decide), out_err (by decide)]
        | some i =>
          dsimp only
          cases ej : Gp27.lastAsk h i with
          | none => rw [last_no ei ej, if_neg (by decide), out_err (by decide)]
          | some j =>
            dsimp only
            rw [last_yes ei ej, if_pos rfl]
            rw [out_if, out_err (by decide), out_ok]
  · rename_i hne
    have : r.length ≠ 2 := fun hl => by
      match r, hl with
      | [n, x], _ => exact hne _ _ rfl
    rw [hf_nil this, if_pos rfl, out_err (by decide)]
theorem law_breaker {h : Gp27.House} {k : Nat} {r : List (List Nat)} : (match r with
      | [n, x, f, y] => if Gp27.isName n = false ∨ f ≠ Gp27.txt "for" then .error (k, 3) else (match Gp27.number x, Gp27.number y with
        | some x, some y => (match Gp27.serviceNamed h n with
          | none => .error (k, 6)
          | some i => match Gp27.lastAsk h i with
            | none => .error (k, 4)
            | some j => if x = 0 ∨ 20 < x ∨ y = 0 ∨ 100 < y then .error (k, 7) else .ok (Gp27.changeAsk h j fun a => { a with fails := x, open_ := y }))
        | _, _ => .error (k, 3))
      | _ => .error (k, 3) : Except Gp27.Fault Gp27.House) = outE k (if hasForm r ["S", "N", "for", "N"] = false then (3, h) else rdBreaker h (namesOf r ["S", "N", "for", "N"]) (numsOf r ["S", "N", "for", "N"])) := by
  split
  · rename_i n x f y
    have hf : hasForm [n, x, f, y] ["S", "N", "for", "N"] = (Gp27.isName n && ((Gp27.number x).isSome && (decide (f = Gp27.txt "for") && ((Gp27.number y).isSome && true)))) := by
      rw [txt_eq2.2.2.2.2.2.2.1, ← fW f "for" (by decide +kernel) (by decide +kernel), ← fS n, ← fN x, ← fN y]
      kernel_rfl
    have hn : namesOf [n, x, f, y] ["S", "N", "for", "N"] = [n] := by kernel_rfl
    have hk : numsOf [n, x, f, y] ["S", "N", "for", "N"] = [(Gp27.number x).getD 0, (Gp27.number y).getD 0] := by kernel_rfl
    rw [hf, hn, hk]
    by_cases c : Gp27.isName n = false ∨ f ≠ Gp27.txt "for"
    · rw [if_pos c, if_pos (by rcases c with c | c <;> simp [c]), out_err (by decide)]
    · have c0 : Gp27.isName n = true := by
        cases e : Gp27.isName n with
        | true => rfl
        | false => exact absurd (.inl e) c
      have c1 : f = Gp27.txt "for" := Decidable.of_not_not fun e => c (.inr e)
      rw [if_neg c]
      cases ex : Gp27.number x with
      | none => rw [if_pos (by simp), out_err (by decide)]
      | some x' =>
        cases ey : Gp27.number y with
        | none => rw [if_pos (by simp), out_err (by decide)]
        | some y' =>
          rw [if_neg (by simp [c0, c1])]
          show _ = outE k (Cw.doBreaker h n x' y')
          unfold Cw.doBreaker
          cases ei : Gp27.serviceNamed h n with
          | none => rw [last_none ei, if_neg (by decide), out_err (by decide)]
          | some i =>
            dsimp only
            cases ej : Gp27.lastAsk h i with
            | none => rw [last_no ei ej, if_neg (by decide), out_err (by decide)]
            | some j =>
              dsimp only
              rw [last_yes ei ej, if_pos rfl]
              rw [out_if, out_err (by decide), out_ok]
  · rename_i hne
    have : r.length ≠ 4 := fun hl => by
      match r, hl with
      | [n, x, f, y], _ => exact hne _ _ _ _ rfl
    rw [hf_nil this, if_pos rfl, out_err (by decide)]
theorem law_entry {h : Gp27.House} {k : Nat} {r : List (List Nat)} : (match r with
      | [n, a, s, b, x] => if Gp27.isName n = false ∨ a ≠ Gp27.txt "to" ∨ Gp27.isName s = false ∨ b ≠ Gp27.txt "within" then .error (k, 3) else (match Gp27.number x with
        | none => .error (k, 3)
        | some x => if (h.entries.any fun e => e.name == n) = true then .error (k, 5) else match Gp27.serviceNamed h s with
          | none => .error (k, 6)
          | some i => if x = 0 ∨ 200 < x then .error (k, 7) else if 4 ≤ h.entries.length then .error (k, 8) else .ok { h with entries := h.entries ++ [⟨n, i, x⟩] })
      | _ => .error (k, 3) : Except Gp27.Fault Gp27.House) = outE k (if hasForm r ["S", "to", "S", "within", "N"] = false then (3, h) else rdEntry h (namesOf r ["S", "to", "S", "within", "N"]) (numsOf r ["S", "to", "S", "within", "N"])) := by
  split
  · rename_i n a s b x
    have hf : hasForm [n, a, s, b, x] ["S", "to", "S", "within", "N"] = (Gp27.isName n && (decide (a = Gp27.txt "to") && (Gp27.isName s && (decide (b = Gp27.txt "within") && ((Gp27.number x).isSome && true))))) := by
      rw [txt_eq2.2.2.2.2.2.2.2, txt_eq2.2.2.1, ← fW a "to" (by decide +kernel) (by decide +kernel), ← fW b "within" (by decide +kernel) (by decide +kernel), ← fS n, ← fS s, ← fN x]
      kernel_rfl
    have hn : namesOf [n, a, s, b, x] ["S", "to", "S", "within", "N"] = [n, s] := by kernel_rfl
    have hk : numsOf [n, a, s, b, x] ["S", "to", "S", "within", "N"] = [(Gp27.number x).getD 0] := by kernel_rfl
    rw [hf, hn, hk]
    by_cases c : Gp27.isName n = false ∨ a ≠ Gp27.txt "to" ∨ Gp27.isName s = false ∨ b ≠ Gp27.txt "within"
    · rw [if_pos c, if_pos (by rcases c with c | c | c | c <;> simp [c]), out_err (by decide)]
    · have c0 : Gp27.isName n = true := by
        cases e : Gp27.isName n with
        | true => rfl
        | false => exact absurd (.inl e) c
      have c1 : a = Gp27.txt "to" := Decidable.of_not_not fun e => c (.inr (.inl e))
      have c2 : Gp27.isName s = true := by
        cases e : Gp27.isName s with
        | true => rfl
        | false => exact absurd (.inr (.inr (.inl e))) c
      have c3 : b = Gp27.txt "within" := Decidable.of_not_not fun e => c (.inr (.inr (.inr e)))
      rw [if_neg c]
      cases ex : Gp27.number x with
      | none => rw [if_pos (by simp), out_err (by decide)]
      | some x' =>
        rw [if_neg (by simp [c0, c1, c2, c3])]
        show _ = outE k (Cw.doEntry h n s x')
        unfold Cw.doEntry
        rw [out_if, out_err (n := 5) (by decide)]
        dsimp only
        by_cases ca : (h.entries.any fun e => e.name == n) = true
        · rw [if_pos ca, if_pos ca]
        rw [if_neg ca, if_neg ca]
        cases ei : Gp27.serviceNamed h s with
        | none => exact (out_err (n := 6) (by decide)).symm
        | some i =>
          dsimp only
          rw [out_if, out_if, out_err (by decide), out_err (by decide), out_ok]
  · rename_i hne
    have : r.length ≠ 5 := fun hl => by
      match r, hl with
      | [n, a, s, b, x], _ => exact hne _ _ _ _ _ rfl
    rw [hf_nil this, if_pos rfl, out_err (by decide)]
theorem lineOf_eq {h : Gp27.House} {k : Nat} {w : List Nat} {r : List (List Nat)} : Gp27.lineOf h k (w :: r) = outE k (rdWords h w r) := by
  unfold rdWords
  rw [dir_at]
  show (if w = Gp27.txt "service" then _ else _) = _
  by_cases c1 : w = Gp27.txt "service"
  · rw [if_pos c1, if_pos c1, if_neg (by decide +kernel)]
    exact law_service
  rw [if_neg c1, if_neg c1]
  by_cases c2 : w = Gp27.txt "work"
  · rw [if_pos c2, if_pos c2, if_neg (by decide +kernel)]
    exact law_work
  rw [if_neg c2, if_neg c2]
  by_cases c3 : w = Gp27.txt "ask"
  · rw [if_pos c3, if_pos c3, if_neg (by decide +kernel)]
    exact law_ask
  rw [if_neg c3, if_neg c3]
  by_cases c4 : w = Gp27.txt "may"
  · rw [if_pos c4, if_pos c4, if_neg (by decide +kernel)]
    exact law_may
  rw [if_neg c4, if_neg c4]
  by_cases c5 : w = Gp27.txt "budget"
  · rw [if_pos c5, if_pos c5, if_neg (by decide +kernel)]
    exact law_budget
  rw [if_neg c5, if_neg c5]
  by_cases c6 : w = Gp27.txt "breaker"
  · rw [if_pos c6, if_pos c6, if_neg (by decide +kernel)]
    exact law_breaker
  rw [if_neg c6, if_neg c6]
  by_cases c7 : w = Gp27.txt "entry"
  · rw [if_pos c7, if_pos c7, if_neg (by decide +kernel)]
    exact law_entry
  rw [if_neg c7, if_neg c7, if_pos rfl, out_err (n := 2) (by decide)]
end Cc
end

/-! ## CcWordsB -/
section
set_option maxRecDepth 100000
set_option maxHeartbeats 4000000
/-! A line's words are read into the plan. -/
namespace Cc
open PySem PySem.Spec PyProof.Rows L2
/-! ### a call of a local that holds one of several defs -/
def tCallH (i : Nat) (S : Addr → Sp → Prop) (t : TA) : TE := fun σ H Q => ∃ f sp, σ[i]? = some (some (.ref f)) ∧ S f sp ∧ t σ H fun vs H1 => sp vs H1 Q (fun _ _ _ => False)
theorem pe_callH {X : Cx} {k i : Nat} {x : Str} {p pos : Pos} {e : Expr} {es : List Expr} {t : TA} {S : Addr → Sp → Prop} (A : ∀ f sp, S f sp → Held X.prog X.w X.K X.mg X.base k f sp) (hr : Room k X.A) (hN : X.N[i]? = some x) (hv : Vis X.env.scope x) (ha : PA X (e :: es) t)
    (hdb : (x == ("__debug__" : Str)) = false := by decide) (hcd : (x == ("__classdict__" : Str)) = false := by decide)
    (he : starEach (e :: es) X.env = (false, eval e X.env) :: starEach es X.env := by rfl) (hpl : (backTo pos (starEach es X.env)).any (·.1) = false := by rfl) : PE X (.Call (.Name x p) (e :: es) [] pos) (tCallH i S t) := by
  refine ⟨fun pins s σ H Q I h => ?_⟩
  obtain ⟨f, sp, hs, hS, ht⟩ := h
  obtain ⟨fd, ps, F, hk, hb⟩ := (A f sp hS).ex
  refine (pe_callL (i := i) (f := f) (sp := sp) (dvs := []) (E := fun _ _ _ => False) F hr hN hv hk hb .nil (fun _ _ _ _ _ _ _ z => z.elim) ha hdb hcd he hpl).run pins s σ H Q I ⟨hs, ?_⟩
  have e0 : (fun (vs : List V) (H1 : Hp) => sp (vs ++ []) H1 Q (fun _ _ _ => False)) = fun vs H1 => sp vs H1 Q (fun _ _ _ => False) := by
    funext vs H1
    rw [List.append_nil]
  show t σ H (fun vs H1 => sp (vs ++ []) H1 Q (fun _ _ _ => False))
  rw [e0]
  exact ht
theorem Has.held {P : Program} {w : World} {K : PySem.W.Frag} {mg : Str → Option Value} {base : Heap} {k j : Nat} {f : Addr} {ps : List Str} {sp : Sp} (h : Has P w K mg base k f ps sp) (hk : k ≤ j) : Held P w K mg base j f sp := by
  obtain ⟨⟨fd, F, b⟩, kp⟩ := h
  exact ⟨fd, ps, F.mono hk, kp, b⟩
def S_read_words (K : PySem.W.Frag) (f : Addr) (sp : Sp) : Prop := (f = He.ga K "read_service" ∧ sp = sp_read_service K) ∨ (f = He.ga K "read_work" ∧ sp = sp_read_work K) ∨ (f = He.ga K "read_ask" ∧ sp = sp_read_ask K) ∨ (f = He.ga K "read_may" ∧ sp = sp_read_may K) ∨ (f = He.ga K "read_budget" ∧ sp = sp_read_budget K) ∨ (f = He.ga K "read_breaker" ∧ sp = sp_read_breaker K) ∨ (f = He.ga K "read_entry" ∧ sp = sp_read_entry K)
def sp_read_words (K : PySem.W.Frag) : Sp := fun vs H Q _ => ∃ (pl p : Addr) (P : PAd) (h : Gp27.House) (w0 : List Nat) (r : List (List Nat)), vs = [.ref pl, .ref p] ∧ BP K H pl P h ∧ ListsAt H p (w0 :: r) ∧ WordsOk (w0 :: r) ∧ After2 K pl P H (rdWords h w0 r) Q
theorem len_read_words {K : PySem.W.Frag} : ∀ vs H Q E, sp_read_words K vs H Q E → vs.length = (["plan", "words"] : List Str).length := by rintro _ _ _ _ ⟨_, _, _, _, _, _, rfl, _⟩; rfl
abbrev N_read_words : List Str := ["plan", "words", "directive", "form", "pairs", "names", "numbers", "reader", "word", "wanted"]
theorem sc_read_words : FnScope N_read_words ["plan", "words"] (defScope s_read_words) := ⟨rfl, rfl, rfl, by decide +kernel, rfl, by decide +kernel, by decide +kernel⟩
def t_read_words (K : PySem.W.Frag) (w : World) : TS := (tSeq (tAsg (tCall (sp_directive_of K) [] E0 (tCons (tOp (rIxL K) (tVar 1) (tC (.int 0))) tNil)) (gName 2))
  (tSeq (tIfS (tTest (tOp rEq (tVar 2) (tC (.str "")))) (tRet (tC (.int (2)))) tNext)
  (tSeq (tAsg (tOp (rIxD K w) (tC (.ref (He.ga K "FORMS"))) (tVar 2)) (gName 3))
  (tSeq (tIfS (tNot (tB (tCall (sp_has_form K) [] E0 (tCons (tSl (rSlL K) (tVar 1) (tPart (tC (.int 1))) tNoPart) (tCons (tVar 3) tNil))))) (tRet (tC (.int (3)))) tNext)
  (tSeq (tAsg (tListZip K (tCons (tSl (rSlL K) (tVar 1) (tPart (tC (.int 1))) tNoPart) (tCons (tVar 3) tNil))) (gName 4))
  (tSeq (tAsg (tLc (iList K (tVar 4)) (gTup K 2 (gCons (gName 8) (gCons (gName 9) gNil))) (tTest (tOp rEq (tVar 9) (tC (.str "S")))) (tVar 8) [8, 9]) (gName 5))
  (tSeq (tAsg (tLc (iList K (tVar 4)) (gTup K 2 (gCons (gName 8) (gCons (gName 9) gNil))) (tTest (tOp rEq (tVar 9) (tC (.str "N")))) (tCall (sp_number_of K) [] E0 (tCons (tVar 8) tNil)) [8, 9]) (gName 6))
  (tSeq (tAsg (tOp (rIxD K w) (tC (.ref (He.ga K "READERS"))) (tVar 2)) (gName 7))
  (tRet (tCallH 7 (S_read_words K) (tCons (tVar 0) (tCons (tVar 5) (tCons (tVar 6) tNil)))))))))))))
structure Dir (K : PySem.W.Frag) (w : World) (d : Str) (zs : List Str) (nn nk : Nat) (f : Gp27.House → List (List Nat) → List Nat → Nat × Gp27.House) (fa g : Addr) : Prop where
  kf : KDct K w (He.ga K "FORMS") d (.ref fa)
  kr : KDct K w (He.ga K "READERS") d (.ref g)
  ft : ∀ H, SqT K H fa (zs.map V.str)
  S : S_read_words K g (spRd K nn nk f)
  cs : (zs.filter fun z => decide (z = ("S" : Str))).length = nn
  cn : (zs.filter fun z => decide (z = ("N" : Str))).length = nk
  sz : ∀ z ∈ zs, z.cps.size ≤ 100
  e1 : formOf d = zs
  e2 : rdBy d = f
section
variable {P : Program} {w : World} {K : PySem.W.Frag} {mg : Str → Option Value} {base : Heap}
theorem kd_ok {d : Addr} {x : Str} {kvs : List (Str × He.Dv)} {q : Str × He.Dv} (hk : ∃ es n, KDict K w d es n) (hv : He.valsB K d kvs = true) (hq : q ∈ kvs) : KDct K w d q.1 (q.2.v K) := by
  obtain ⟨es, n, D⟩ := hk
  obtain ⟨u, h1, h2⟩ := He.valsB_ok hv hq
  exact ⟨es, n, u, D.at_, D.lit, h1, h2⟩
theorem H_read_words (T : Txt w K mg) : ∀ f sp, S_read_words K f sp → Held P w K mg base 4 f sp := by
  rintro f sp (⟨rfl, rfl⟩ | ⟨rfl, rfl⟩ | ⟨rfl, rfl⟩ | ⟨rfl, rfl⟩ | ⟨rfl, rfl⟩ | ⟨rfl, rfl⟩ | ⟨rfl, rfl⟩)
  · exact (ok_read_service T).held (Nat.le_refl _)
  · exact (ok_read_work T).held (Nat.le_refl _)
  · exact (ok_read_ask T).held (Nat.le_refl _)
  · exact (ok_read_may T).held (Nat.le_refl _)
  · exact (ok_read_budget T).held (Nat.le_refl _)
  · exact (ok_read_breaker T).held (Nat.le_refl _)
  · exact (ok_read_entry T).held (Nat.le_refl _)
theorem dirs (T : Txt w K mg) : ∀ d ∈ keys, ∃ zs nn nk f fa g, Dir K w d zs nn nk f fa g := by
  have F : ∀ q ∈ [(("service" : Str), He.Dv.adr (keyAt "FORMS" "service")), ("work", .adr (keyAt "FORMS" "work")), ("ask", .adr (keyAt "FORMS" "ask")), ("may", .adr (keyAt "FORMS" "may")), ("budget", .adr (keyAt "FORMS" "budget")), ("breaker", .adr (keyAt "FORMS" "breaker")), ("entry", .adr (keyAt "FORMS" "entry"))], KDct K w (He.ga K "FORMS") q.1 (q.2.v K) := fun q hq => kd_ok (x := q.1) (T.s.tab 0) T.t_FORMS hq
  have R : ∀ q ∈ [(("service" : Str), He.Dv.glo "read_service"), ("work", .glo "read_work"), ("ask", .glo "read_ask"), ("may", .glo "read_may"), ("budget", .glo "read_budget"), ("breaker", .glo "read_breaker"), ("entry", .glo "read_entry")], KDct K w (He.ga K "READERS") q.1 (q.2.v K) := fun q hq => kd_ok (x := q.1) (T.s.tab 1) T.t_READERS hq
  intro d hd
  simp only [keys, List.mem_cons, List.not_mem_nil, or_false] at hd
  rcases hd with rfl | rfl | rfl | rfl | rfl | rfl | rfl
  · exact ⟨["S", "workers", "N", "queue", "N"], 1, 2, rdService, _, _, F _ (List.mem_of_getElem? (i := 0) rfl), R _ (List.mem_of_getElem? (i := 0) rfl), T.t_FORM_service, .inl ⟨rfl, rfl⟩, by decide +kernel, by decide +kernel, by decide +kernel, by decide +kernel, if_pos rfl⟩
  · exact ⟨["S", "N"], 1, 1, rdWork, _, _, F _ (List.mem_of_getElem? (i := 1) rfl), R _ (List.mem_of_getElem? (i := 1) rfl), T.t_FORM_work, .inr (.inl ⟨rfl, rfl⟩), by decide +kernel, by decide +kernel, by decide +kernel, by decide +kernel, by unfold rdBy; rw [if_neg (by decide +kernel), if_pos rfl]⟩
  · exact ⟨["S", "S", "within", "N", "tries", "N", "wait", "N"], 2, 3, rdAsk, _, _, F _ (List.mem_of_getElem? (i := 2) rfl), R _ (List.mem_of_getElem? (i := 2) rfl), T.t_FORM_ask, .inr (.inr (.inl ⟨rfl, rfl⟩)), by decide +kernel, by decide +kernel, by decide +kernel, by decide +kernel, by unfold rdBy; rw [if_neg (by decide +kernel), if_neg (by decide +kernel), if_pos rfl]⟩
  · exact ⟨["S", "fail"], 1, 0, rdMay, _, _, F _ (List.mem_of_getElem? (i := 3) rfl), R _ (List.mem_of_getElem? (i := 3) rfl), T.t_FORM_may, .inr (.inr (.inr (.inl ⟨rfl, rfl⟩))), by decide +kernel, by decide +kernel, by decide +kernel, by decide +kernel, by unfold rdBy; rw [if_neg (by decide +kernel), if_neg (by decide +kernel), if_neg (by decide +kernel), if_pos rfl]⟩
  · exact ⟨["S", "N"], 1, 1, rdBudget, _, _, F _ (List.mem_of_getElem? (i := 4) rfl), R _ (List.mem_of_getElem? (i := 4) rfl), T.t_FORM_budget, .inr (.inr (.inr (.inr (.inl ⟨rfl, rfl⟩)))), by decide +kernel, by decide +kernel, by decide +kernel, by decide +kernel, by unfold rdBy; rw [if_neg (by decide +kernel), if_neg (by decide +kernel), if_neg (by decide +kernel), if_neg (by decide +kernel), if_pos rfl]⟩
  · exact ⟨["S", "N", "for", "N"], 1, 2, rdBreaker, _, _, F _ (List.mem_of_getElem? (i := 5) rfl), R _ (List.mem_of_getElem? (i := 5) rfl), T.t_FORM_breaker, .inr (.inr (.inr (.inr (.inr (.inl ⟨rfl, rfl⟩))))), by decide +kernel, by decide +kernel, by decide +kernel, by decide +kernel, by unfold rdBy; rw [if_neg (by decide +kernel), if_neg (by decide +kernel), if_neg (by decide +kernel), if_neg (by decide +kernel), if_neg (by decide +kernel), if_pos rfl]⟩
  · exact ⟨["S", "to", "S", "within", "N"], 2, 1, rdEntry, _, _, F _ (List.mem_of_getElem? (i := 6) rfl), R _ (List.mem_of_getElem? (i := 6) rfl), T.t_FORM_entry, .inr (.inr (.inr (.inr (.inr (.inr ⟨rfl, rfl⟩))))), by decide +kernel, by decide +kernel, by decide +kernel, by decide +kernel, by unfold rdBy; rw [if_neg (by decide +kernel), if_neg (by decide +kernel), if_neg (by decide +kernel), if_neg (by decide +kernel), if_neg (by decide +kernel), if_neg (by decide +kernel)]⟩
theorem dir_mem {v : List Nat} (h : dirOf v ≠ "") : dirOf v ∈ keys := by
  unfold dirOf at h ⊢
  cases e : keys.find? fun k => decide (v = k.cps.toList) with
  | none => rw [e] at h; exact absurd rfl h
  | some k => exact List.mem_of_find?_eq_some e
theorem lists_tail {H : Hp} {p : Addr} {w0 : List Nat} {r : List (List Nat)} (h : ListsAt H p (w0 :: r)) : ∃ (q0 : Addr) (ps : List Addr), H p = some (.lst ((q0 :: ps).map V.ref)) ∧ ps.length = r.length ∧ H q0 = some (.lst (byV w0)) ∧ (∀ (i : Nat) v, r[i]? = some v → ∃ q, ps[i]? = some q ∧ H q = some (.lst (byV v))) := by
  obtain ⟨ps, h1, h2, h3⟩ := h
  cases ps with
  | nil => cases h2
  | cons q0 ps =>
    refine ⟨q0, ps, h1, Nat.succ.inj h2, ?_, fun i v hv => ?_⟩
    · obtain ⟨q, e1, _, e3⟩ := h3 0 w0 rfl
      cases e1
      exact e3
    · obtain ⟨q, e1, _, e3⟩ := h3 (i + 1) v hv
      exact ⟨q, e1, e3⟩
theorem lists_of {H : Hp} {d : Addr} {ps : List Addr} {r : List (List Nat)} (hd : H d = none) (h2 : ps.length = r.length) (h3 : ∀ (i : Nat) v, r[i]? = some v → ∃ q, ps[i]? = some q ∧ H q = some (.lst (byV v))) : ListsAt (upd H d (.lst (ps.map V.ref))) d r :=
  ⟨ps, upd_same, h2, fun i v hv => by
    obtain ⟨q, e1, e3⟩ := h3 i v hv
    have n : q ≠ d := fun z => by rw [z, hd] at e3; cases e3
    exact ⟨q, e1, n, by rw [upd_ne n]; exact e3⟩⟩
section
variable {σ : L2.St} {H : Hp} {D : Ends} {Q : VK}
theorem e_call2 {sp : Sp} {t1 t2 : TE} {E : XK} (h : t1 σ H fun v H1 => t2 σ H1 fun u H2 => sp [v, u] H2 Q E) : tCall sp [] E (tCons t1 (tCons t2 tNil)) σ H Q := h
theorem va_go {r : TA} {vs : List V} {Q : List V → Hp → Prop} (h : VA r σ H vs) (q : Q vs H) : r σ H Q := h _ q
theorem lz_c {t1 t2 : TE} (h : t1 σ H fun v H1 => t2 σ H1 fun u H2 => ∃ a b xs ys, [v, u] = [.ref a, .ref b] ∧ SqL K H2 a xs ∧ SqT K H2 b ys ∧ xs.length = ys.length ∧
    ∀ S H' ts, H2 S = none → Same H2 H' → H' S = some (.lst (ts.map V.ref)) → ts.length = xs.length → PairsAt H' xs ys ts → Q (.ref S) H') : tListZip K (tCons t1 (tCons t2 tNil)) σ H Q := h
/-- [out for a, b in pairs if ..] -/
theorem e_lcP {α : Type} {tl te : TE} {tt : TT} {j1 j2 : Nat} {vs : List Nat} {S : Addr} (l : List α) (fq : α → Addr) (fz : α → Str) (out : α → V) (pt : α → Bool) (ts : List Addr) (hS : H S = some (.lst (ts.map V.ref))) (hl : ts.length = l.length) (hz : l.length ≤ 10000)
    (hp : ∀ (i : Nat) y, l[i]? = some y → ∃ t, ts[i]? = some t ∧ H t = some (.tup [.ref (fq y), .str (fz y)])) (ha : Val tl σ H (.ref S)) (hw : ∀ u v, wipe (((wipe σ vs).set j1 (some u)).set j2 (some v)) vs = wipe σ vs)
    (ht : ∀ y ∈ l, ∀ H', Same H H' → Ans tt (((wipe σ vs).set j1 (some (.ref (fq y)))).set j2 (some (.str (fz y)))) H' (pt y)) (he : ∀ y ∈ l, pt y = true → ∀ H', Same H H' → Val te (((wipe σ vs).set j1 (some (.ref (fq y)))).set j2 (some (.str (fz y)))) H' (out y))
    (q : ∀ D H', H D = none → Same H H' → H' D = some (.lst ((l.filter pt).map out)) → Q (.ref D) H') : tLc (iList K tl) (gTup K 2 (gCons (gName j1) (gCons (gName j2) gNil))) tt te vs σ H Q := by
  refine ha _ ⟨S, rfl, ⟨_, SqL.of hS⟩, fun D hD => lc_list (xs := ts.map V.ref) (fun i H' => Same H H' ∧ H' D = some (.lst (((l.take i).filter pt).map out))) ⟨same_put (Same.refl H) hD, upd_same⟩ (fun i H' _ h => SqL.of (h.1 _ _ hS)) ?_ ?_⟩
  · rintro i x H' hi ⟨s, hd⟩
    have hil : i < l.length := by
      have := (List.getElem?_eq_some_iff.mp hi).1
      rw [List.length_map] at this
      omega
    have ey := List.getElem?_eq_getElem hil
    generalize l[i] = y at ey
    obtain ⟨t, e1, e2⟩ := hp i y ey
    rw [List.getElem?_map, e1] at hi
    cases hi
    have my := List.mem_of_getElem? ey
    refine ⟨t, _, rfl, SqT.of (s _ _ e2), rfl, _, _, rfl, _, _, rfl, rfl, hw _ _, ht y my H' s _ ?_⟩
    cases hpt : pt y with
    | true =>
      refine iteT (he y my hpt H' s _ ⟨_, hd, ?_, same_put s hD, ?_⟩)
      · rw [List.length_map]
        have h1 := List.length_filter_le pt (l.take i)
        have h2 : (l.take i).length ≤ l.length := by rw [List.length_take]; exact Nat.min_le_right _ _
        exact Nat.lt_of_le_of_lt (Nat.le_trans h1 (Nat.le_trans h2 hz)) (by decide)
      · rw [upd_same, take_more ey, List.filter_append, List.map_append, List.filter_cons, hpt] <;> rfl
    | false =>
      refine iteF ⟨s, ?_⟩
      rw [hd, take_more ey, List.filter_append, List.map_append, List.filter_cons, hpt, if_neg Bool.false_ne_true]
      simp
  · rintro H' ⟨s, hd⟩
    rw [List.length_map, hl, List.take_length] at hd
    exact q D H' hD s hd
end
theorem zip_snd {α : Type} {r : List α} {zs : List Str} (h : r.length = zs.length) (pz : Str → Bool) : ((r.zip zs).filter fun q => pz q.2).length = (zs.filter pz).length := by
  have e : (r.zip zs).map (·.2) = zs := List.map_snd_zip (by omega)
  conv => rhs; rw [← e, List.filter_map, List.length_map]
  rfl
theorem pure_read_words (T : Txt w K mg) (vs : List V) (H : Hp) (Q : VK) (E : XK) (h : sp_read_words K vs H Q E) : t_read_words K w { nx := fun _ H' => Q .non H', rt := Q } (start N_read_words vs) H := by
  obtain ⟨pl, p, P, h, w0, r, rfl, x, hL, ok, kk⟩ := h
  obtain ⟨q0, ps, g1, g2, g3, g4⟩ := lists_tail hL
  have okr : WordsOk r := ⟨fun v hv => ok.1 v (List.mem_cons_of_mem _ hv), by have := ok.2; rw [List.length_cons] at this; omega⟩
  unfold rdWords at kk
  refine e_asg (e_fn (va_cons (val_ix (n := 0) (val_var rfl) val_c (SqL.of g1) rfl rfl) va_nil) ⟨q0, w0, rfl, SqL.of g3, fun H1 s1 => ?_⟩)
  have x1 := x.mono s1
  refine st_ifd (p := V.str (dirOf w0) = V.str "") (ans_t (val_eq (val_var rfl) val_c)) (fun c => ?_) (fun c => ?_)
  · rw [if_pos (vs_eq.mp c)] at kk
    exact st_ret val_c (kk H1 P x1 (PExt.same s1))
  have c' : dirOf w0 ≠ "" := fun z => c (vs_eq.mpr z)
  rw [if_neg c'] at kk
  obtain ⟨zs, nn, nk, f, fa, g, DD⟩ := dirs T _ (dir_mem c')
  rw [DD.e1, DD.e2] at kk
  generalize dirOf w0 = d at DD
  refine st_set (v := .ref fa) (val_op val_c (val_var (v := .str d) rfl) fun _ q => ⟨_, _, _, rfl, rfl, DD.kf, q⟩) ?_
  have cutE : ((q0 :: ps).map V.ref).drop 1 = ps.map V.ref := rfl
  refine st_ifnB (e_call2 (e_cut (n := 1) (val_var (v := .ref p) rfl) val_c (SqL.of (s1 _ _ g1)) fun d1 hd1 => v_go (v := .ref fa) (val_var rfl) ⟨d1, fa, r, zs, rfl, lists_of hd1 g2 fun i v hv => ?_, DD.ft _, okr, DD.sz, fun H2 s2 => ⟨_, rfl, ?_⟩⟩))
  · obtain ⟨q, u1, u2⟩ := g4 i v hv
    exact ⟨q, u1, s1 _ _ u2⟩
  have s12 : Same H H2 := trS (trS s1 (same_new hd1)) s2
  have x2 := x.mono s12
  cases hf : hasForm r zs with
  | false =>
    rw [hf, if_pos rfl] at kk
    exact iteT (st_ret val_c (kk H2 P x2 (PExt.same s12)))
  | true =>
    rw [hf, if_neg (by decide)] at kk
    refine iteF ?_
    unfold hasForm at hf
    rw [Bool.and_eq_true, decide_eq_true_iff] at hf
    obtain ⟨hlen, hall⟩ := hf
    refine e_asg (lz_c (e_cut (n := 1) (val_var (v := .ref p) rfl) val_c (SqL.of (s12 _ _ g1)) fun d2 hd2 => v_go (v := .ref fa) (val_var rfl) ⟨d2, fa, ps.map V.ref, _, rfl, SqL.of upd_same, DD.ft _, by rw [List.length_map, List.length_map]; omega, fun S H3 ts hS s3 hS3 hts hp => ?_⟩))
    have s23 : Same H2 H3 := trS (same_new hd2) s3
    have s13 : Same H H3 := trS s12 s23
    rw [List.length_map] at hts
    have hl3 : (ps.zip (r.zip zs)).length = ts.length := by rw [List.length_zip, List.length_zip]; omega
    have hmem : ∀ (i : Nat) (y : Addr × List Nat × Str), (ps.zip (r.zip zs))[i]? = some y → ps[i]? = some y.1 ∧ r[i]? = some y.2.1 ∧ zs[i]? = some y.2.2 := fun i y hy => by
      obtain ⟨a1, a2⟩ := List.getElem?_zip_eq_some.mp hy
      obtain ⟨a3, a4⟩ := List.getElem?_zip_eq_some.mp a2
      exact ⟨a1, a3, a4⟩
    have hpp : ∀ (i : Nat) (y : Addr × List Nat × Str), (ps.zip (r.zip zs))[i]? = some y → ∃ t, ts[i]? = some t ∧ H3 t = some (.tup [.ref y.1, .str y.2.2]) := fun i y hy => by
      obtain ⟨a1, _, a3⟩ := hmem i y hy
      have hi : i < ts.length := by rw [← hl3]; exact (List.getElem?_eq_some_iff.mp hy).1
      obtain ⟨u, v, b1, b2, b3⟩ := hp i _ (List.getElem?_eq_getElem hi)
      rw [List.getElem?_map, a1] at b1
      rw [List.getElem?_map, a3] at b2
      cases b1
      cases b2
      exact ⟨_, List.getElem?_eq_getElem hi, b3⟩
    have hw : ∀ y ∈ ps.zip (r.zip zs), H y.1 = some (.lst (byV y.2.1)) ∧ y.2.1 ∈ r ∧ fitsB y.2.1 y.2.2 = true := fun y hy => by
      obtain ⟨i, hi⟩ := Cw.mem_at hy
      obtain ⟨a1, a2, a3⟩ := hmem i y hi
      obtain ⟨q, u1, u2⟩ := g4 i _ a2
      cases a1.symm.trans u1
      exact ⟨u2, List.mem_of_getElem? a2, List.all_eq_true.mp hall (y.2.1, y.2.2) (List.mem_of_getElem? (List.getElem?_zip_eq_some.mpr ⟨a2, a3⟩))⟩
    have hz3 : (ps.zip (r.zip zs)).length ≤ 10000 := by
      rw [List.length_zip]
      have := okr.2
      omega
    have e3 : r.zip zs = (ps.zip (r.zip zs)).map (·.2) := (List.map_snd_zip (by rw [List.length_zip]; omega)).symm
    refine e_asg (e_lcP (j1 := 8) (j2 := 9) (vs := [8, 9]) (ps.zip (r.zip zs)) (fun y => y.1) (fun y => y.2.2) (fun y => V.ref y.1) (fun y => decide (y.2.2 = ("S" : Str))) ts hS3 hl3.symm hz3 hpp (val_var rfl) (fun _ _ => rfl) (fun y hy H' s => by
      refine Ans.to (ans_t (val_eq (val_var rfl) val_c)) ?_
      exact decide_eq_decide.mpr vs_eq) (fun y hy _ H' s => by exact val_var rfl) fun D1 H4 hD1 s4 h4 => ?_)
    have s14 : Same H H4 := trS s13 s4
    refine e_asg (e_lcP (j1 := 8) (j2 := 9) (vs := [8, 9]) (ps.zip (r.zip zs)) (fun y => y.1) (fun y => y.2.2) (fun y => V.int (((Gp27.number y.2.1).getD 0 : Nat) : Int)) (fun y => decide (y.2.2 = ("N" : Str))) ts (s4 _ _ hS3) hl3.symm hz3 (fun i y hy => by
      obtain ⟨t, b1, b2⟩ := hpp i y hy
      exact ⟨t, b1, s4 _ _ b2⟩) (val_var rfl) (fun _ _ => rfl) (fun y hy H' s => by
      refine Ans.to (ans_t (val_eq (val_var rfl) val_c)) ?_
      exact decide_eq_decide.mpr vs_eq) (fun y hy hN H' s => by
      obtain ⟨b1, _, b3⟩ := hw y hy
      rw [of_decide_eq_true hN, fN] at b3
      obtain ⟨m, hm⟩ := some_of b3
      exact fun Q q => e_fn (va_cons (val_var rfl) va_nil) ⟨y.1, y.2.1, m, rfl, SqL.of (s _ _ (s14 _ _ b1)), hm, by rw [hm] at q; exact q⟩) fun D2 H5 hD2 s5 h5 => ?_)
    have s15 : Same H H5 := trS s14 s5
    refine st_set (v := .ref g) (val_op val_c (val_var (v := .str d) rfl) fun _ q => ⟨_, _, _, rfl, rfl, DD.kr, q⟩) ?_
    refine ⟨g, _, rfl, DD.S, ?_⟩
    refine va_go (va_cons (val_var (v := .ref pl) rfl) (va_cons (val_var (v := .ref D1) rfl) (va_cons (val_var (v := .ref D2) rfl) va_nil))) ?_
    refine ⟨pl, D1, D2, P, h, namesOf r zs, numsOf r zs, rfl, x.mono s15, ?_, ?_, ?_, ?_, ?_, fun H' P' bp pe => kk H' P' bp (PExt.trans (PExt.same s15) pe)⟩
    · have en : namesOf r zs = ((ps.zip (r.zip zs)).filter fun y => decide (y.2.2 = ("S" : Str))).map fun y => y.2.1 := by
        unfold namesOf
        conv => lhs; rw [e3, List.filter_map, List.map_map]
        rfl
      rw [en]
      refine ⟨((ps.zip (r.zip zs)).filter fun y => decide (y.2.2 = ("S" : Str))).map fun y => y.1, by rw [s5 _ _ h4, List.map_map] <;> rfl, by rw [List.length_map, List.length_map], fun i v hv => ?_⟩
      rw [List.getElem?_map] at hv
      cases ey : ((ps.zip (r.zip zs)).filter fun y => decide (y.2.2 = ("S" : Str)))[i]? with
      | none => rw [ey] at hv; cases hv
      | some y =>
        rw [ey] at hv
        cases hv
        have b := hw y (List.mem_filter.mp (List.mem_of_getElem? ey)).1
        exact ⟨y.1, by rw [List.getElem?_map, ey] <;> rfl, fun z => (by rw [← z, s13 _ _ b.1] at hD1; cases hD1), s15 _ _ b.1⟩
    · have en : numsOf r zs = ((ps.zip (r.zip zs)).filter fun y => decide (y.2.2 = ("N" : Str))).map fun y => (Gp27.number y.2.1).getD 0 := by
        unfold numsOf
        conv => lhs; rw [e3, List.filter_map, List.map_map]
        rfl
      rw [en, h5]
      unfold byV
      rw [List.map_map] <;> rfl
    · unfold namesOf
      rw [List.length_map, zip_snd hlen fun z => decide (z = ("S" : Str))]
      exact DD.cs
    · unfold numsOf
      rw [List.length_map, zip_snd hlen fun z => decide (z = ("N" : Str))]
      exact DD.cn
    · intro v hv
      unfold namesOf at hv
      obtain ⟨y, hy, rfl⟩ := List.mem_map.mp hv
      exact (okr.1 _ (List.of_mem_zip (List.mem_filter.mp hy).1).1).1
theorem ok_read_words (T : Txt w K mg) : Has P w K mg base 5 (He.fAd K ("read_words", none)) ["plan", "words"] (sp_read_words K) := by
  have G_directive_of := ok_directive_of (P := P) (base := base) T
  have G_has_form := ok_has_form (P := P) (base := base) T
  have G_number_of := ok_number_of (P := P) (base := base) T
  refine Has.of (T.d_read_words) sc_read_words (fun _ _ _ _ _ _ us hl => match us, hl with | [_, _], _ => rfl) len_read_words (t_read_words K w) (fun cdv A outer s H E hr => ?_) (pure_read_words T)
  have nd := sc_read_words.nd
  exact (pss_cons (ps_set (i := 2) nd rfl (Or.inl rfl) (pe_fn G_directive_of (hr.mono (by decide)) rfl T.g_directive_of (pa_cons (pe_ix ix_list (pw 1) pe_int (fun _ _ => rfl)) pa_nil)))
      (pss_cons (ps_if (pt_cmpR op_eq (pw 2) pe_str (nomark _)) (pss_one (ps_ret (pe_gi rfl T.i_NO_DIRECTIVE))) pss_nil)
      (pss_cons (ps_set (i := 3) nd rfl (Or.inl rfl) (pe_ix ix_kdict (pe_gr rfl T.g_FORMS) (pw 2) (fun _ _ => rfl)))
      (pss_cons (ps_if (pt_not (pt_val (pe_fn G_has_form (hr.mono (by decide)) rfl T.g_has_form (pa_cons (pe_slice sl_list (pw 1) (po_some pe_int) po_none) (pa_cons (pw 3) pa_nil))))) (pss_one (ps_ret (pe_gi rfl T.i_BAD_FORM))) pss_nil)
      (pss_cons (ps_set (i := 4) nd rfl (Or.inl rfl) (pe_listZip rfl (by rfl) T.b_list (by rfl) T.b_zip (pa_cons (pe_slice sl_list (pw 1) (po_some pe_int) po_none) (pa_cons (pw 3) pa_nil))))
      (pss_cons (ps_setLc (i := 5) (own := [("word", 8), ("wanted", 9)]) (by rfl) nd rfl rfl (sw_true rfl rfl rfl (by decide +kernel)) (pi_list (pw 4)) (blkOk_by (own := [("word", 8), ("wanted", 9)]) (N := N_read_words) (sc := defScope s_read_words) (by decide +kernel)) (fun _ _ _ _ _ => (pg_tup rfl (pgs_cons (pg_name (i := 8) nd rfl (Or.inl rfl)) (pgs_cons (pg_name (i := 9) nd rfl (Or.inl rfl)) pgs_nil)))) (fun _ _ _ _ _ => pts_one (pt_cmpR op_eq (pw 9) pe_str (nomark _))) (fun _ _ _ _ _ => (pw 8)))
      (pss_cons (ps_setLc (i := 6) (own := [("word", 8), ("wanted", 9)]) (by rfl) nd rfl rfl (sw_true rfl rfl rfl (by decide +kernel)) (pi_list (pw 4)) (blkOk_by (own := [("word", 8), ("wanted", 9)]) (N := N_read_words) (sc := defScope s_read_words) (by decide +kernel)) (fun _ _ _ _ _ => (pg_tup rfl (pgs_cons (pg_name (i := 8) nd rfl (Or.inl rfl)) (pgs_cons (pg_name (i := 9) nd rfl (Or.inl rfl)) pgs_nil)))) (fun _ _ _ _ _ => pts_one (pt_cmpR op_eq (pw 9) pe_str (nomark _))) (fun _ _ _ _ _ => (pe_fn G_number_of (hr.mono (by decide)) rfl T.g_number_of (pa_cons (pw 8) pa_nil))))
      (pss_cons (ps_set (i := 7) nd rfl (Or.inl rfl) (pe_ix ix_kdict (pe_gr rfl T.g_READERS) (pw 2) (fun _ _ => rfl)))
      (pss_one (ps_ret (pe_callH (H_read_words T) (hr.mono (by decide)) rfl (Or.inl rfl) (pa_cons (pw 0) (pa_cons (pw 5) (pa_cons (pw 6) pa_nil))))))))))))))
end
end Cc
end

/-! ## CcReadP -/
section
set_option maxRecDepth 100000
set_option maxHeartbeats 4000000
/-! A text is read into a plan. -/
namespace Cc
open PySem PySem.Spec PyProof.Rows L2
def badL (l : List Nat) : Bool := l.any fun b => decide (b < 32) || decide (126 < b)
def lineStep (h : Gp27.House) (l : List Nat) : Nat × Gp27.House := match Gp27.words [] l with
  | [] => (0, h)
  | w :: r => if meant (w :: r) = true then rdWords h w r else (0, h)
def scan : Nat → Gp27.House → List (List Nat) → Except Gp27.Fault Gp27.House
  | _, h, [] => .ok h
  | k, h, l :: r => if (lineStep h l).1 = 0 then scan (k + 1) (lineStep h l).2 r else .error (k, (lineStep h l).1)
theorem sayings_cons (k : Nat) (l : List Nat) (r : List (List Nat)) : Gp27.sayings k (l :: r) = if badL l = true then .error (k, 1) else (Gp27.sayings (k + 1) r).map fun m => match Gp27.words [] l with
    | [] => m
    | w :: ws => if w.head? = some 35 then m else (k, w :: ws) :: m := rfl
theorem sayings_bad : ∀ (ls : List (List Nat)) (k i : Nat), ls.findIdx? badL = some i → Gp27.sayings k ls = .error (k + i, 1)
  | [], _, _, h => by cases h
  | l :: r, k, i, h => by
    rw [sayings_cons]
    rw [List.findIdx?_cons] at h
    cases hb : badL l with
    | true =>
      rw [hb, if_pos rfl] at h
      cases h
      rw [if_pos rfl] <;> rfl
    | false =>
      rw [hb, if_neg Bool.false_ne_true] at h
      cases e : r.findIdx? badL with
      | none => rw [e] at h; cases h
      | some j =>
        rw [e] at h
        have h : j + 1 = i := Option.some.inj h
        rw [if_neg Bool.false_ne_true, sayings_bad r (k + 1) j e, ← h]
        show Except.error (k + 1 + j, 1) = Except.error (k + (j + 1), 1)
        rw [show k + 1 + j = k + (j + 1) by omega]
theorem sayings_ok : ∀ (ls : List (List Nat)) (k : Nat), ls.findIdx? badL = none → ∃ m, Gp27.sayings k ls = .ok m
  | [], _, _ => ⟨[], rfl⟩
  | l :: r, k, hn => by
    rw [List.findIdx?_cons] at hn
    cases hb : badL l with
    | true => rw [hb, if_pos rfl] at hn; cases hn
    | false =>
      rw [hb, if_neg Bool.false_ne_true] at hn
      have hr : r.findIdx? badL = none := by
        cases e : r.findIdx? badL with
        | none => rfl
        | some j => rw [e] at hn; cases hn
      obtain ⟨m, e⟩ := sayings_ok r (k + 1) hr
      rw [sayings_cons, hb, if_neg Bool.false_ne_true, e]
      exact ⟨_, rfl⟩
theorem scan_eq : ∀ (ls : List (List Nat)) (k : Nat) (h : Gp27.House), ls.findIdx? badL = none → ((Gp27.sayings k ls).bind fun l => Gp27.linesOf h l) = scan k h ls
  | [], _, _, _ => rfl
  | l :: r, k, h, hn => by
    rw [List.findIdx?_cons] at hn
    cases hb : badL l with
    | true => rw [hb, if_pos rfl] at hn; cases hn
    | false =>
      rw [hb, if_neg Bool.false_ne_true] at hn
      have hr : r.findIdx? badL = none := by
        cases e : r.findIdx? badL with
        | none => rfl
        | some j => rw [e] at hn; cases hn
      rw [sayings_cons, hb, if_neg Bool.false_ne_true]
      have ih := fun h => scan_eq r (k + 1) h hr
      show _ = (if (lineStep h l).1 = 0 then scan (k + 1) (lineStep h l).2 r else .error (k, (lineStep h l).1))
      cases ew : Gp27.words [] l with
      | nil =>
        have e : lineStep h l = (0, h) := by
          unfold lineStep
          rw [ew]
        rw [e, if_pos rfl, ← ih]
        cases Gp27.sayings (k + 1) r <;> rfl
      | cons w ws =>
        dsimp only
        by_cases c : w.head? = some 35
        · have cm : meant (w :: ws) = false := by
            show (!(w.head? == some 35)) = false
            rw [c] <;> rfl
          have e : lineStep h l = (0, h) := by
            unfold lineStep
            rw [ew]
            dsimp only
            rw [cm, if_neg Bool.false_ne_true]
          rw [e, if_pos rfl, ← ih]
          simp only [if_pos c]
          cases Gp27.sayings (k + 1) r <;> rfl
        · have cm : meant (w :: ws) = true := by
            show (!(w.head? == some 35)) = true
            rw [Bool.not_eq_true', beq_eq_false_iff_ne]
            exact c
          have e : lineStep h l = rdWords h w ws := by
            unfold lineStep
            rw [ew]
            dsimp only
            rw [cm, if_pos rfl]
          rw [e]
          simp only [if_neg c]
          obtain ⟨m, em⟩ := sayings_ok r (k + 1) hr
          rw [em]
          show ((Gp27.lineOf h k (w :: ws)).bind fun g => Gp27.linesOf g m) = _
          rw [lineOf_eq]
          unfold outE
          by_cases cz : (rdWords h w ws).1 = 0
          · rw [if_pos cz, if_pos cz]
            have := ih (rdWords h w ws).2
            rw [em] at this
            exact this
          · rw [if_neg cz, if_neg cz] <;> rfl
def PlanOut (K : PySem.W.Frag) (H H' : Hp) (t : Addr) : Except Gp27.Fault Gp27.House → Prop
  | .error f => ∃ v, H' t = some (.tup [v, .int (f.1 : Nat), .int (f.2 : Nat)]) ∧ f.2 ≠ 0
  | .ok h => ∃ pl P, H' t = some (.tup [.ref pl, .int 0, .int 0]) ∧ BP K H' pl P h ∧ ∀ c o, H c = some o → ¬ BX P c
def sp_read_plan (K : PySem.W.Frag) : Sp := fun vs H Q _ => ∃ (p : Addr) (b : List Nat), vs = [.ref p] ∧ SqL K H p (byV b) ∧ b.length ≤ 5000 ∧ ∀ (H' : Hp) (t : Addr), Same H H' → PlanOut K H H' t (Gp27.houseOf b) → Q (.ref t) H'
theorem len_read_plan {K : PySem.W.Frag} : ∀ vs H Q E, sp_read_plan K vs H Q E → vs.length = (["source"] : List Str).length := by rintro _ _ _ _ ⟨_, _, rfl, _⟩; rfl
abbrev N_read_plan : List Str := ["source", "lines", "plan", "at", "line", "words", "code"]
theorem sc_read_plan : FnScope N_read_plan ["source"] (defScope s_read_plan) := ⟨rfl, rfl, rfl, by decide +kernel, rfl, by decide +kernel, by decide +kernel⟩
def t_read_plan (K : PySem.W.Frag) : TS := (tSeq (tAsg (tCall (sp_lines_of K) [] E0 (tCons (tVar 0) tNil)) (gName 1))
  (tSeq (tAsg (tMake (cPlan K) (sp_Plan_init K) [] E0 tNil) (gName 2))
  (tSeq (tFor (iEnum K (tCons (tVar 1) tNil)) (gTup K 2 (gCons (gName 3) (gCons (gName 4) gNil))) (tIfS (tB (tCall (sp_has_bad_byte K) [] E0 (tCons (tVar 4) tNil))) (tRet (tTup (tCons (tVar 2) (tCons (tOp rAddI (tVar 3) (tC (.int 1))) (tCons (tC (.int (1))) tNil))))) tNext))
  (tSeq (tFor (iEnum K (tCons (tVar 1) tNil)) (gTup K 2 (gCons (gName 3) (gCons (gName 4) gNil))) (tSeq (tAsg (tCall (sp_words_of K) [] E0 (tCons (tVar 4) tNil)) (gName 5))
  (tSeq (tAsg (tIf (tB (tCall (sp_is_meant K) [] E0 (tCons (tVar 5) tNil))) (tCall (sp_read_words K) [] E0 (tCons (tVar 2) (tCons (tVar 5) tNil))) (tC (.int (0)))) (gName 6))
  (tIfS (tTest (tOp rNe (tVar 6) (tC (.int (0))))) (tRet (tTup (tCons (tVar 2) (tCons (tOp rAddI (tVar 3) (tC (.int 1))) (tCons (tVar 6) tNil))))) tNext))))
  (tRet (tTup (tCons (tVar 2) (tCons (tC (.int 0)) (tCons (tC (.int (0))) tNil)))))))))
theorem meant_nil : meant [] = false := rfl
section
variable {P : Program} {w : World} {K : PySem.W.Frag} {mg : Str → Option Value} {base : Heap}
theorem if_c2 {σ : L2.St} {H : Hp} {te ta tb : TE} {Q : VK} (h : te σ H fun v H1 => ∃ b, v = .bl b ∧ if b = true then ta σ H1 Q else tb σ H1 Q) : tIf (tB te) ta tb σ H Q := h
theorem scan_drop {k : Nat} {h : Gp27.House} {ls : List (List Nat)} {i : Nat} {l : List Nat} (hl : ls[i]? = some l) : scan k h (ls.drop i) = if (lineStep h l).1 = 0 then scan (k + 1) (lineStep h l).2 (ls.drop (i + 1)) else .error (k, (lineStep h l).1) := by
  have hi := (List.getElem?_eq_some_iff.mp hl).1
  have e := (List.getElem?_eq_some_iff.mp hl).2
  rw [← List.getElem_cons_drop hi, e] <;> rfl
theorem pure_read_plan (T : Txt w K mg) (vs : List V) (H : Hp) (Q : VK) (E : XK) (h : sp_read_plan K vs H Q E) : t_read_plan K { nx := fun _ H' => Q .non H', rt := Q } (start N_read_plan vs) H := by
  obtain ⟨p, b, rfl, hx, hb, kk⟩ := h
  refine e_asg (e_fn (va_cons (val_var rfl) va_nil) ⟨p, b, rfl, hx, hb, fun DL H1 hDL s1 hL => ?_⟩)
  have hlen := lines_len b []
  have hbd : ∀ l ∈ Gp27.lines [] b, l.length ≤ 5000 := fun l hl => by
    have := hlen.2 l hl
    have h0 : ([] : List Nat).length = 0 := rfl
    omega
  have hout : Gp27.houseOf b = (Gp27.sayings 1 (Gp27.lines [] b)).bind fun l => Gp27.linesOf Gp27.empty_ l := rfl
  generalize Gp27.lines [] b = ls at hL hbd hout
  obtain ⟨ps, g1, g2, g3⟩ := id hL
  refine st_mkset va_nil fun pl dx hpl hdx ndx => ⟨pl, dx, rfl, upd_same, fun H2 sv ak gt hP lv lk lg hnd nv nk ng f2 => ⟨rfl, ?_⟩⟩
  have s2 : Same H1 H2 := same_mk hpl hdx f2
  have nv' := none_mk nv
  have nk' := none_mk nk
  have ng' := none_mk ng
  have B0 : BP K H2 pl ⟨sv, ak, gt, [], [], [], []⟩ Gp27.empty_ := by
    refine ⟨⟨hP, lv, lk, lg, rfl, rfl, rfl, rfl, rfl, fun i s h => ?_, fun i s h => ?_, fun i s h => ?_⟩, Cw.TOk.empty, by simpa using hnd, List.nodup_nil⟩
    · cases h
    · cases h
    · cases h
  have k0 : ∀ c o, H1 c = some o → H2 c = some o ∧ ¬ BX ⟨sv, ak, gt, [], [], [], []⟩ c := fun c o hc => ⟨s2 _ _ hc, fun z => by
    rcases z with z | z | z | z | z
    · rw [z] at hc; rw [hc] at nv'; cases nv'
    · rw [z] at hc; rw [hc] at nk'; cases nk'
    · rw [z] at hc; rw [hc] at ng'; cases ng'
    · cases z
    · cases z⟩
  -- the first loop
  refine val_var (v := .ref DL) rfl _ ⟨DL, ps.map V.ref, rfl, SqL.of (s2 _ _ g1), for_it (walk_enum (xs := ps.map V.ref)) (fun i σ' H' => ∃ y z : Option V, σ' = [some (.ref p), some (.ref DL), some (.ref pl), y, z, none, none] ∧ Same H2 H' ∧ (ls.take i).findIdx? badL = none) ⟨none, none, rfl, Same.refl _, rfl⟩ (fun i σ' H' _ ⟨_, _, _, s, _⟩ => SqL.of (s _ _ (s2 _ _ g1))) ?_ ?_⟩
  · rintro i x σ' H3 H4 hi ⟨y, z, rfl, s, hf⟩ ⟨t, u, v, rfl, ht, rfl, e1, e2⟩
    rw [List.length_map] at hi
    cases e1
    have e2 : (ps.map V.ref)[i]? = some v := e2
    have hil : i < ls.length := by rw [← g2]; exact hi
    have el := List.getElem?_eq_getElem hil
    generalize ls[i] = l at el
    obtain ⟨q, u1, _, u3⟩ := g3 i l el
    rw [List.getElem?_map, u1] at e2
    cases e2
    have s4 : Same H2 (upd H3 t (.tup [V.int (i : Nat), V.ref q])) := trS s (same_new ht)
    refine ⟨t, _, rfl, SqT.of upd_same, rfl, _, _, rfl, _, _, rfl, rfl, ?_⟩
    refine e_fn (va_cons (val_var (v := .ref q) rfl) va_nil) ⟨q, l, rfl, SqL.of (s4 _ _ (s2 _ _ u3)), hbd l (List.mem_of_getElem? el), fun H5 s5 => ⟨_, rfl, ?_⟩⟩
    show if badL l = true then _ else _
    cases hbad : badL l with
    | true =>
      refine iteT (e_ret (e_tup (va_cons (val_var (v := .ref pl) rfl) (va_cons (val_add (val_var (v := .int (i : Int)) rfl) val_c) (va_cons val_c va_nil))) rfl fun t2 ht2 => kk _ t2 (trS s1 (trS s2 (trS s4 (trS s5 (same_new ht2))))) ?_))
      rw [hout, sayings_bad ls 1 i (findIdx_at hf el hbad)]
      exact ⟨_, by rw [upd_same]; show _ = some (HO.tup [_, V.int ((1 + i : Nat) : Int), V.int ((1 : Nat) : Int)]); rw [show ((1 + i : Nat) : Int) = (i : Int) + 1 by omega] <;> rfl, by show (1 : Nat) ≠ 0; decide⟩
    | false => exact iteF ⟨_, _, rfl, trS s4 s5, findIdx_no hf el hbad⟩
  rintro σ' H3 ⟨y, z, rfl, s3, hf⟩
  rw [List.length_map, g2, List.take_length] at hf
  rw [hout, scan_eq ls 1 Gp27.empty_ hf] at kk
  -- the second loop
  refine val_var (v := .ref DL) rfl _ ⟨DL, ps.map V.ref, rfl, SqL.of (s3 _ _ (s2 _ _ g1)), for_it (walk_enum (xs := ps.map V.ref)) (fun i σ' H' => ∃ (y z u v : Option V) (P : PAd) (h : Gp27.House), σ' = [some (.ref p), some (.ref DL), some (.ref pl), y, z, u, v] ∧ BP K H' pl P h ∧ (∀ c o, H1 c = some o → H' c = some o ∧ ¬ BX P c) ∧ scan 1 Gp27.empty_ ls = scan (i + 1) h (ls.drop i))
    ⟨y, z, none, none, _, _, rfl, B0.mono s3, fun c o hc => ⟨s3 _ _ (k0 c o hc).1, (k0 c o hc).2⟩, rfl⟩ (fun i σ' H' _ ⟨_, _, _, _, _, _, _, _, kp, _⟩ => SqL.of (kp _ _ g1).1) ?_ ?_⟩
  · rintro i x σ' H4 H5 hi ⟨y, z, u', v', P, h, rfl, B, kp, hs⟩ ⟨t, u, v, rfl, ht, rfl, e1, e2⟩
    rw [List.length_map] at hi
    cases e1
    have e2 : (ps.map V.ref)[i]? = some v := e2
    have hil : i < ls.length := by rw [← g2]; exact hi
    have el := List.getElem?_eq_getElem hil
    generalize ls[i] = l at el
    obtain ⟨q, u1, _, u3⟩ := g3 i l el
    rw [List.getElem?_map, u1] at e2
    cases e2
    have s5 : Same H4 (upd H4 t (.tup [V.int (i : Nat), V.ref q])) := same_new ht
    rw [scan_drop el] at hs
    refine ⟨t, _, rfl, SqT.of upd_same, rfl, _, _, rfl, _, _, rfl, rfl, ?_⟩
    refine e_asg (e_fn (va_cons (val_var (v := .ref q) rfl) va_nil) ⟨q, l, rfl, s5 _ _ (kp _ _ u3).1, hbd l (List.mem_of_getElem? el), fun DW H6 hDW s6 hW => ?_⟩)
    have s46 : Same H4 H6 := trS s5 s6
    have B6 := B.mono s46
    have kp6 : ∀ c o, H1 c = some o → H6 c = some o ∧ ¬ BX P c := fun c o hc => ⟨s46 _ _ (kp c o hc).1, (kp c o hc).2⟩
    have wl := words_len l []
    have hl5 := hbd l (List.mem_of_getElem? el)
    have h0 : ([] : List Nat).length = 0 := rfl
    have fin : ∀ (H7 : Hp) (P7 : PAd) (σ2 : L2.St), σ2 = [some (.ref p), some (.ref DL), some (.ref pl), some (.int (i : Int)), some (.ref q), some (.ref DW), some (.int ((lineStep h l).1 : Nat))] → BP K H7 pl P7 (lineStep h l).2 → (∀ c o, H1 c = some o → H7 c = some o ∧ ¬ BX P7 c) →
        tIfS (tTest (tOp rNe (tVar 6) (tC (.int (0))))) (tRet (tTup (tCons (tVar 2) (tCons (tOp rAddI (tVar 3) (tC (.int 1))) (tCons (tVar 6) tNil))))) tNext { nx := fun σ' H' => ∃ (y z u v : Option V) (P : PAd) (h : Gp27.House), σ' = [some (.ref p), some (.ref DL), some (.ref pl), y, z, u, v] ∧ BP K H' pl P h ∧ (∀ c o, H1 c = some o → H' c = some o ∧ ¬ BX P c) ∧ scan 1 Gp27.empty_ ls = scan (i + 1 + 1) h (ls.drop (i + 1)), rt := Q } σ2 H7 := by
      rintro H7 P7 σ2 rfl B7 kp7
      refine st_ifn (p := V.int ((lineStep h l).1 : Nat) = V.int 0) (ans_t (val_ne (val_var rfl) val_c)) (fun c => ?_) (fun c => ?_)
      · have c' : (lineStep h l).1 ≠ 0 := fun z => c (by rw [z]; rfl)
        rw [if_neg c'] at hs
        refine e_ret (e_tup (va_cons (val_var (v := .ref pl) rfl) (va_cons (val_add (val_var (v := .int (i : Int)) rfl) val_c) (va_cons (val_var (v := .int ((lineStep h l).1 : Nat)) rfl) va_nil))) rfl fun t2 ht2 => kk _ t2 (fun c o hc => same_new ht2 _ _ (kp7 _ _ (s1 _ _ hc)).1) ?_)
        rw [hs]
        exact ⟨_, upd_same, c'⟩
      · have c' : (lineStep h l).1 = 0 := Int.ofNat.inj (vi_eq.mp c)
        rw [if_pos c'] at hs
        exact ⟨_, _, _, _, P7, _, rfl, B7, kp7, hs⟩
    refine e_asg (if_c2 (e_fn (va_cons (val_var (v := .ref DW) rfl) va_nil) ⟨DW, _, rfl, hW, fun v hv => (wl.2 v hv).1, fun H7 s7 => ⟨_, rfl, ?_⟩⟩))
    cases ew : Gp27.words [] l with
    | nil =>
      rw [meant_nil]
      have e : lineStep h l = (0, h) := by
        unfold lineStep
        rw [ew]
      rw [e] at fin
      exact iteF (fin H7 P _ rfl (B6.mono s7) fun c o hc => ⟨s7 _ _ (kp6 c o hc).1, (kp6 c o hc).2⟩)
    | cons w0 r =>
      rw [ew] at hW wl
      cases cm : meant (w0 :: r) with
      | false =>
        have e : lineStep h l = (0, h) := by
          unfold lineStep
          rw [ew]
          dsimp only
          rw [cm, if_neg Bool.false_ne_true]
        rw [e] at fin
        exact iteF (fin H7 P _ rfl (B6.mono s7) fun c o hc => ⟨s7 _ _ (kp6 c o hc).1, (kp6 c o hc).2⟩)
      | true =>
        have e : lineStep h l = rdWords h w0 r := by
          unfold lineStep
          rw [ew]
          dsimp only
          rw [cm, if_pos rfl]
        rw [e] at fin
        refine iteT (e_fn (va_cons (val_var (v := .ref pl) rfl) (va_cons (val_var (v := .ref DW) rfl) va_nil)) ⟨pl, DW, P, h, w0, r, rfl, B6.mono s7, hW.mono s7, ⟨fun v hv => ⟨(wl.2 v hv).1, by have := (wl.2 v hv).2; omega⟩, by have := wl.1; omega⟩, fun H8 P8 B8 pe => ?_⟩)
        exact fin H8 P8 _ rfl B8 fun c o hc => pe.keep c o (s7 _ _ (kp6 c o hc).1) (kp6 c o hc).2
  · rintro σ' H4 ⟨y, z, u, v, P, h, rfl, B, kp, hs⟩
    rw [List.length_map, g2, List.drop_length] at hs
    refine e_tup (σ := [some (.ref p), some (.ref DL), some (.ref pl), y, z, u, v]) (va_cons (val_var (v := .ref pl) rfl) (va_cons val_c (va_cons val_c va_nil))) rfl fun t2 ht2 => kk _ t2 (fun c o hc => same_new ht2 _ _ (kp _ _ (s1 _ _ hc)).1) ?_
    rw [hs]
    exact ⟨pl, P, upd_same, B.mono (same_new ht2), fun c o hc => (kp c o (s1 _ _ hc)).2⟩
theorem ok_read_plan (T : Txt w K mg) : Has P w K mg base 6 (He.fAd K ("read_plan", none)) ["source"] (sp_read_plan K) := by
  have G_lines_of := ok_lines_of (P := P) (base := base) T
  have G_Plan_init := ok_Plan_init (P := P) (base := base) T
  have G_has_bad_byte := ok_has_bad_byte (P := P) (base := base) T
  have G_words_of := ok_words_of (P := P) (base := base) T
  have G_is_meant := ok_is_meant (P := P) (base := base) T
  have G_read_words := ok_read_words (P := P) (base := base) T
  refine Has.of (T.d_read_plan) sc_read_plan (fun _ _ _ _ _ _ us hl => match us, hl with | [_], _ => rfl) len_read_plan (t_read_plan K) (fun cdv A outer s H E hr => ?_) (pure_read_plan T)
  have nd := sc_read_plan.nd
  exact (pss_cons (ps_set (i := 1) nd rfl (Or.inl rfl) (pe_fn G_lines_of (hr.mono (by decide)) rfl T.g_lines_of (pa_cons (pw 0) pa_nil)))
      (pss_cons (ps_set (i := 2) nd rfl (Or.inl rfl) (pe_mk0 T.k_Plan G_Plan_init (hr.mono (by decide)) rfl T.g_Plan))
      (pss_cons (ps_for PassesOwn.never rfl (pi_enum (by rfl) T.b_enumerate (pa_cons (pw 1) pa_nil)) (pg_tup rfl (pgs_cons (pg_name (i := 3) nd rfl (Or.inl rfl)) (pgs_cons (pg_name (i := 4) nd rfl (Or.inl rfl)) pgs_nil))) (pss_one (ps_if (pt_val (pe_fn G_has_bad_byte (hr.mono (by decide)) rfl T.g_has_bad_byte (pa_cons (pw 4) pa_nil))) (pss_one (ps_ret (pe_tup (pa_cons (pw 2) (pa_cons (pe_op op_add (pw 3) pe_int) (pa_cons (pe_gi rfl T.i_BAD_BYTE) pa_nil)))))) pss_nil)))
      (pss_cons (ps_for PassesOwn.never rfl (pi_enum (by rfl) T.b_enumerate (pa_cons (pw 1) pa_nil)) (pg_tup rfl (pgs_cons (pg_name (i := 3) nd rfl (Or.inl rfl)) (pgs_cons (pg_name (i := 4) nd rfl (Or.inl rfl)) pgs_nil))) (pss_cons (ps_set (i := 5) nd rfl (Or.inl rfl) (pe_fn G_words_of (hr.mono (by decide)) rfl T.g_words_of (pa_cons (pw 4) pa_nil)))
      (pss_cons (ps_set (i := 6) nd rfl (Or.inl rfl) (pe_ifExp (pt_val (pe_fn G_is_meant (hr.mono (by decide)) rfl T.g_is_meant (pa_cons (pw 5) pa_nil))) (pe_fn G_read_words (hr.mono (by decide)) rfl T.g_read_words (pa_cons (pw 2) (pa_cons (pw 5) pa_nil))) (pe_gi rfl T.i_FINE)))
      (pss_one (ps_if (pt_cmpR op_ne (pw 6) (pe_gi rfl T.i_FINE) (nomark _)) (pss_one (ps_ret (pe_tup (pa_cons (pw 2) (pa_cons (pe_op op_add (pw 3) pe_int) (pa_cons (pw 6) pa_nil)))))) pss_nil)))))
      (pss_one (ps_ret (pe_tup (pa_cons (pw 2) (pa_cons pe_int (pa_cons (pe_gi rfl T.i_FINE) pa_nil))))))))))
end
end Cc
end

/-! ## CcAnsA -/
section
set_option maxRecDepth 100000
set_option maxHeartbeats 4000000
/-! The answers' dispatch. -/
namespace Cc
open PySem PySem.Spec PyProof.Rows L2
open Cw (GOk opOf)
def deedKs (K : PySem.W.Frag) : List (Int × V) := [(1, .ref (He.ga K "send")), (2, .ref (He.ga K "passes")), (3, .ref (He.ga K "take_down")), (4, .ref (He.ga K "bring_up")), (5, .ref (He.ga K "slow"))]
def questKs (K : PySem.W.Frag) : List (Int × V) := [(6, .ref (He.ga K "tell_service")), (7, .ref (He.ga K "tell_request")), (8, .ref (He.ga K "tell_entry")), (9, .ref (He.ga K "tell_link")), (10, .ref (He.ga K "falls")), (11, .ref (He.ga K "asked")), (12, .ref (He.ga K "cure"))]
def arOf (n : Nat) : Nat := if n = 1 ∨ n = 5 ∨ n = 11 ∨ n = 12 then 2 else 1
def sp_is_deed (_ : PySem.W.Frag) : Sp := fun vs H Q _ => ∃ n : Nat, vs = [.int (n : Int)] ∧ 1 ≤ n ∧ Q (.bl (decide (n ≤ 5))) H
def spAns (K : PySem.W.Frag) (lo hi : Nat) : Sp := fun vs H Q _ => ∃ (a p : Addr) (F : Hp) (A : Ad) (w : Gp27.World) (n : Nat) (ns : List Nat), vs = [.ref a, .int (n : Int), .ref p] ∧ lo ≤ n ∧ n ≤ hi ∧ RunW K F H a A w ∧ GOk w ∧ H p = some (.lst (byV ns)) ∧ ns.length = arOf n ∧ ¬ Own a A p ∧
  After K F a A H (Gp27.step w (opOf n ns)).1 (Gp27.step w (opOf n ns)).2 Q
abbrev sp_answer_of_deed (K : PySem.W.Frag) : Sp := spAns K 1 5
abbrev sp_answer_of_question (K : PySem.W.Frag) : Sp := spAns K 6 12
abbrev sp_answer_of (K : PySem.W.Frag) : Sp := spAns K 1 12
theorem len_is_deed {K : PySem.W.Frag} : ∀ vs H Q E, sp_is_deed K vs H Q E → vs.length = (["number"] : List Str).length := by rintro _ _ _ _ ⟨_, rfl, _⟩; rfl
theorem len_ans {K : PySem.W.Frag} {lo hi : Nat} : ∀ vs H Q E, spAns K lo hi vs H Q E → vs.length = (["run", "number", "parts"] : List Str).length := by rintro _ _ _ _ ⟨_, _, _, _, _, _, _, rfl, _⟩; rfl
theorem len_answer_of_deed {K : PySem.W.Frag} : ∀ vs H Q E, sp_answer_of_deed K vs H Q E → vs.length = (["run", "number", "parts"] : List Str).length := len_ans
theorem len_answer_of_question {K : PySem.W.Frag} : ∀ vs H Q E, sp_answer_of_question K vs H Q E → vs.length = (["run", "number", "parts"] : List Str).length := len_ans
theorem len_answer_of {K : PySem.W.Frag} : ∀ vs H Q E, sp_answer_of K vs H Q E → vs.length = (["run", "number", "parts"] : List Str).length := len_ans
def S_answer_of_deed (K : PySem.W.Frag) (f : Addr) (sp : Sp) : Prop := (f = He.ga K "send" ∧ sp = sp_send K) ∨ (f = He.ga K "passes" ∧ sp = sp_passes K) ∨ (f = He.ga K "take_down" ∧ sp = sp_take_down K) ∨ (f = He.ga K "bring_up" ∧ sp = sp_bring_up K) ∨ (f = He.ga K "slow" ∧ sp = sp_slow K)
def S_answer_of_question (K : PySem.W.Frag) (f : Addr) (sp : Sp) : Prop := (f = He.ga K "tell_service" ∧ sp = sp_tell_service K) ∨ (f = He.ga K "tell_request" ∧ sp = sp_tell_request K) ∨ (f = He.ga K "tell_entry" ∧ sp = sp_tell_entry K) ∨ (f = He.ga K "tell_link" ∧ sp = sp_tell_link K) ∨ (f = He.ga K "falls" ∧ sp = sp_falls K) ∨ (f = He.ga K "asked" ∧ sp = sp_asked K) ∨ (f = He.ga K "cure" ∧ sp = sp_cure K)
abbrev N_is_deed : List Str := ["number"]
theorem sc_is_deed : FnScope N_is_deed ["number"] (defScope s_is_deed) := ⟨rfl, rfl, rfl, by decide +kernel, rfl, by decide +kernel, by decide +kernel⟩
def t_is_deed (K : PySem.W.Frag) : TS := (tRet (tOp (rInI K) (tVar 0) (tC (.ref (He.ga K "DEEDS")))))
abbrev N_answer_of_deed : List Str := ["run", "number", "parts", "deed"]
theorem sc_answer_of_deed : FnScope N_answer_of_deed ["run", "number", "parts"] (defScope s_answer_of_deed) := ⟨rfl, rfl, rfl, by decide +kernel, rfl, by decide +kernel, by decide +kernel⟩
def t_answer_of_deed (K : PySem.W.Frag) : TS := (tSeq (tAsg (tOp (rIxI K) (tC (.ref (He.ga K "DEEDS"))) (tVar 1)) (gName 3))
  (tRet (tCallH 3 (S_answer_of_deed K) (tCons (tVar 0) (tCons (tVar 2) tNil)))))
abbrev N_answer_of_question : List Str := ["run", "number", "parts", "question"]
theorem sc_answer_of_question : FnScope N_answer_of_question ["run", "number", "parts"] (defScope s_answer_of_question) := ⟨rfl, rfl, rfl, by decide +kernel, rfl, by decide +kernel, by decide +kernel⟩
def t_answer_of_question (K : PySem.W.Frag) : TS := (tSeq (tAsg (tOp (rIxI K) (tC (.ref (He.ga K "QUESTIONS"))) (tVar 1)) (gName 3))
  (tRet (tCallH 3 (S_answer_of_question K) (tCons (tVar 0) (tCons (tVar 2) tNil)))))
abbrev N_answer_of : List Str := ["run", "number", "parts"]
theorem sc_answer_of : FnScope N_answer_of ["run", "number", "parts"] (defScope s_answer_of) := ⟨rfl, rfl, rfl, by decide +kernel, rfl, by decide +kernel, by decide +kernel⟩
def t_answer_of (K : PySem.W.Frag) : TS := (tSeq (tIfS (tB (tCall (sp_is_deed K) [] E0 (tCons (tVar 1) tNil))) (tRet (tCall (sp_answer_of_deed K) [] E0 (tCons (tVar 0) (tCons (tVar 1) (tCons (tVar 2) tNil))))) tNext)
  (tRet (tCall (sp_answer_of_question K) [] E0 (tCons (tVar 0) (tCons (tVar 1) (tCons (tVar 2) tNil))))))
section
variable {P : Program} {w : World} {K : PySem.W.Frag} {mg : Str → Option Value} {base : Heap}
theorem H_answer_of_deed (T : Txt w K mg) : ∀ f sp, S_answer_of_deed K f sp → Held P w K mg base 13 f sp := by
  rintro f sp (⟨rfl, rfl⟩ | ⟨rfl, rfl⟩ | ⟨rfl, rfl⟩ | ⟨rfl, rfl⟩ | ⟨rfl, rfl⟩)
  · exact (ok_send T).held (by decide)
  · exact (ok_passes T).held (by decide)
  · exact (ok_take_down T).held (by decide)
  · exact (ok_bring_up T).held (by decide)
  · exact (ok_slow T).held (by decide)
theorem H_answer_of_question (T : Txt w K mg) : ∀ f sp, S_answer_of_question K f sp → Held P w K mg base 13 f sp := by
  rintro f sp (⟨rfl, rfl⟩ | ⟨rfl, rfl⟩ | ⟨rfl, rfl⟩ | ⟨rfl, rfl⟩ | ⟨rfl, rfl⟩ | ⟨rfl, rfl⟩ | ⟨rfl, rfl⟩)
  · exact (ok_tell_service T).held (by decide)
  · exact (ok_tell_request T).held (by decide)
  · exact (ok_tell_entry T).held (by decide)
  · exact (ok_tell_link T).held (by decide)
  · exact (ok_falls T).held (by decide)
  · exact (ok_asked T).held (by decide)
  · exact (ok_cure T).held (by decide)
theorem pure_is_deed (T : Txt w K mg) (vs : List V) (H : Hp) (Q : VK) (E : XK) (h : sp_is_deed K vs H Q E) : t_is_deed K { nx := fun _ H' => Q .non H', rt := Q } (start N_is_deed vs) H := by
  obtain ⟨n, rfl, hn, kk⟩ := h
  refine st_ret (v := .bl (decide (n ≤ 5))) (val_op (val_var (v := .int (n : Int)) rfl) val_c fun _ q => ⟨_, deedKs K, _, rfl, rfl, T.t_DEEDS, ?_⟩) kk
  have e : ((deedKs K).any fun q => q.1 == (n : Int)) = decide (n ≤ 5) := by
    rw [Bool.eq_iff_iff, decide_eq_true_iff]
    simp only [deedKs, List.any_cons, List.any_nil, Bool.or_false, Bool.or_eq_true, beq_iff_eq]
    omega
  rw [e]
  exact q
theorem pure_answer_of_deed (T : Txt w K mg) (vs : List V) (H : Hp) (Q : VK) (E : XK) (h : sp_answer_of_deed K vs H Q E) : t_answer_of_deed K { nx := fun _ H' => Q .non H', rt := Q } (start N_answer_of_deed vs) H := by
  obtain ⟨a, p, F, A, wd, n, ns, rfl, h1, h2, R, G, hp, hl, no, kk⟩ := h
  have go : ∀ (f : Addr) (ar : Nat), (deedKs K).find? (fun q => q.1 == (n : Int)) = some ((n : Int), .ref f) → S_answer_of_deed K f (spOp K n ar) → ns.length = ar → t_answer_of_deed K { nx := fun _ H' => Q .non H', rt := Q } (start N_answer_of_deed [.ref a, .int (n : Int), .ref p]) H := fun f ar hf hS hl => by
    refine st_set (v := .ref f) (val_op val_c (val_var (v := .int (n : Int)) rfl) fun _ q => ⟨_, deedKs K, _, _, rfl, rfl, T.t_DEEDS, hf, q⟩) ?_
    refine ⟨f, _, rfl, hS, ?_⟩
    refine va_go (va_cons (val_var (v := .ref a) rfl) (va_cons (val_var (v := .ref p) rfl) va_nil)) ?_
    exact ⟨a, p, F, A, wd, ns, rfl, R, G, hp, hl, no, kk⟩
  have hc : n = 1 ∨ n = 2 ∨ n = 3 ∨ n = 4 ∨ n = 5 := by omega
  rcases hc with rfl | rfl | rfl | rfl | rfl
  · exact go _ 2 rfl (.inl ⟨rfl, rfl⟩) hl
  · exact go _ 1 rfl (.inr (.inl ⟨rfl, rfl⟩)) hl
  · exact go _ 1 rfl (.inr (.inr (.inl ⟨rfl, rfl⟩))) hl
  · exact go _ 1 rfl (.inr (.inr (.inr (.inl ⟨rfl, rfl⟩)))) hl
  · exact go _ 2 rfl (.inr (.inr (.inr (.inr ⟨rfl, rfl⟩)))) hl
theorem pure_answer_of_question (T : Txt w K mg) (vs : List V) (H : Hp) (Q : VK) (E : XK) (h : sp_answer_of_question K vs H Q E) : t_answer_of_question K { nx := fun _ H' => Q .non H', rt := Q } (start N_answer_of_question vs) H := by
  obtain ⟨a, p, F, A, wd, n, ns, rfl, h1, h2, R, G, hp, hl, no, kk⟩ := h
  have go : ∀ (f : Addr) (ar : Nat), (questKs K).find? (fun q => q.1 == (n : Int)) = some ((n : Int), .ref f) → S_answer_of_question K f (spOp K n ar) → ns.length = ar → t_answer_of_question K { nx := fun _ H' => Q .non H', rt := Q } (start N_answer_of_question [.ref a, .int (n : Int), .ref p]) H := fun f ar hf hS hl => by
    refine st_set (v := .ref f) (val_op val_c (val_var (v := .int (n : Int)) rfl) fun _ q => ⟨_, questKs K, _, _, rfl, rfl, T.t_QUESTIONS, hf, q⟩) ?_
    refine ⟨f, _, rfl, hS, ?_⟩
    refine va_go (va_cons (val_var (v := .ref a) rfl) (va_cons (val_var (v := .ref p) rfl) va_nil)) ?_
    exact ⟨a, p, F, A, wd, ns, rfl, R, G, hp, hl, no, kk⟩
  have hc : n = 6 ∨ n = 7 ∨ n = 8 ∨ n = 9 ∨ n = 10 ∨ n = 11 ∨ n = 12 := by omega
  rcases hc with rfl | rfl | rfl | rfl | rfl | rfl | rfl
  · exact go _ 1 rfl (.inl ⟨rfl, rfl⟩) hl
  · exact go _ 1 rfl (.inr (.inl ⟨rfl, rfl⟩)) hl
  · exact go _ 1 rfl (.inr (.inr (.inl ⟨rfl, rfl⟩))) hl
  · exact go _ 1 rfl (.inr (.inr (.inr (.inl ⟨rfl, rfl⟩)))) hl
  · exact go _ 1 rfl (.inr (.inr (.inr (.inr (.inl ⟨rfl, rfl⟩))))) hl
  · exact go _ 2 rfl (.inr (.inr (.inr (.inr (.inr (.inl ⟨rfl, rfl⟩)))))) hl
  · exact go _ 2 rfl (.inr (.inr (.inr (.inr (.inr (.inr ⟨rfl, rfl⟩)))))) hl
theorem pure_answer_of (T : Txt w K mg) (vs : List V) (H : Hp) (Q : VK) (E : XK) (h : sp_answer_of K vs H Q E) : t_answer_of K { nx := fun _ H' => Q .non H', rt := Q } (start N_answer_of vs) H := by
  obtain ⟨a, p, F, A, wd, n, ns, rfl, h1, h2, R, G, hp, hl, no, kk⟩ := h
  refine st_ifd (p := n ≤ 5) (ans_b (b := decide (n ≤ 5)) (fun _ q => e_fn (va_cons (val_var rfl) va_nil) ⟨n, rfl, h1, q⟩)) (fun c => ?_) (fun c => ?_)
  · exact e_ret (e_fn (va_cons (val_var rfl) (va_cons (val_var rfl) (va_cons (val_var rfl) va_nil))) ⟨a, p, F, A, wd, n, ns, rfl, h1, c, R, G, hp, hl, no, kk⟩)
  · exact e_ret (e_fn (va_cons (val_var rfl) (va_cons (val_var rfl) (va_cons (val_var rfl) va_nil))) ⟨a, p, F, A, wd, n, ns, rfl, by omega, h2, R, G, hp, hl, no, kk⟩)
theorem ok_is_deed (T : Txt w K mg) : Has P w K mg base 1 (He.fAd K ("is_deed", none)) ["number"] (sp_is_deed K) := by
  refine Has.of (T.d_is_deed) sc_is_deed (fun _ _ _ _ _ _ us hl => match us, hl with | [_], _ => rfl) len_is_deed (t_is_deed K) (fun cdv A outer s H E hr => ?_) (pure_is_deed T)
  have nd := sc_is_deed.nd
  exact (pss_one (ps_ret (pe_cmpR op_inI (pw 0) (pe_gr rfl T.g_DEEDS) rfl)))
theorem ok_answer_of_deed (T : Txt w K mg) : Has P w K mg base 14 (He.fAd K ("answer_of_deed", none)) ["run", "number", "parts"] (sp_answer_of_deed K) := by
  refine Has.of (T.d_answer_of_deed) sc_answer_of_deed (fun _ _ _ _ _ _ us hl => match us, hl with | [_, _, _], _ => rfl) len_answer_of_deed (t_answer_of_deed K) (fun cdv A outer s H E hr => ?_) (pure_answer_of_deed T)
  have nd := sc_answer_of_deed.nd
  exact (pss_cons (ps_set (i := 3) nd rfl (Or.inl rfl) (pe_ix ix_int (pe_gr rfl T.g_DEEDS) (pw 1) (fun _ _ => rfl)))
      (pss_one (ps_ret (pe_callH (H_answer_of_deed T) (hr.mono (by decide)) rfl (Or.inl rfl) (pa_cons (pw 0) (pa_cons (pw 2) pa_nil))))))
theorem ok_answer_of_question (T : Txt w K mg) : Has P w K mg base 14 (He.fAd K ("answer_of_question", none)) ["run", "number", "parts"] (sp_answer_of_question K) := by
  refine Has.of (T.d_answer_of_question) sc_answer_of_question (fun _ _ _ _ _ _ us hl => match us, hl with | [_, _, _], _ => rfl) len_answer_of_question (t_answer_of_question K) (fun cdv A outer s H E hr => ?_) (pure_answer_of_question T)
  have nd := sc_answer_of_question.nd
  exact (pss_cons (ps_set (i := 3) nd rfl (Or.inl rfl) (pe_ix ix_int (pe_gr rfl T.g_QUESTIONS) (pw 1) (fun _ _ => rfl)))
      (pss_one (ps_ret (pe_callH (H_answer_of_question T) (hr.mono (by decide)) rfl (Or.inl rfl) (pa_cons (pw 0) (pa_cons (pw 2) pa_nil))))))
theorem ok_answer_of (T : Txt w K mg) : Has P w K mg base 15 (He.fAd K ("answer_of", none)) ["run", "number", "parts"] (sp_answer_of K) := by
  have G_is_deed := ok_is_deed (P := P) (base := base) T
  have G_answer_of_deed := ok_answer_of_deed (P := P) (base := base) T
  have G_answer_of_question := ok_answer_of_question (P := P) (base := base) T
  refine Has.of (T.d_answer_of) sc_answer_of (fun _ _ _ _ _ _ us hl => match us, hl with | [_, _, _], _ => rfl) len_answer_of (t_answer_of K) (fun cdv A outer s H E hr => ?_) (pure_answer_of T)
  have nd := sc_answer_of.nd
  exact (pss_cons (ps_if (pt_val (pe_fn G_is_deed (hr.mono (by decide)) rfl T.g_is_deed (pa_cons (pw 1) pa_nil))) (pss_one (ps_ret (pe_fn G_answer_of_deed (hr.mono (by decide)) rfl T.g_answer_of_deed (pa_cons (pw 0) (pa_cons (pw 1) (pa_cons (pw 2) pa_nil)))))) pss_nil)
      (pss_one (ps_ret (pe_fn G_answer_of_question (hr.mono (by decide)) rfl T.g_answer_of_question (pa_cons (pw 0) (pa_cons (pw 1) (pa_cons (pw 2) pa_nil)))))))
end
end Cc
end

/-! ## W9 -/
section
set_option maxRecDepth 100000
/-! The calls of the handed-in list. Plain Lean. -/
namespace Cw
open Gp27
/-- how many numbers stand behind the number of a call but text -/
def cntOf (n : Nat) : Nat := if n = 1 ∨ n = 5 ∨ n = 11 ∨ n = 12 then 2 else 1
def zs (l : List Nat) : List Int := l.map fun (n : Nat) => (n : Int)
def rawC (c : Nat × List Nat) : List (List Int) := if c.1 = 0 then [[0], zs c.2] else [(c.1 : Int) :: zs c.2]
theorem shape_eq (n : Nat) : PyGp27.shape (n : Int) = if n = 0 then some (0, 1) else if n ≤ 12 then some (cntOf n, 0) else none := by
  unfold PyGp27.shape cntOf
  by_cases h : n ≤ 12
  · have hc : n = 0 ∨ n = 1 ∨ n = 2 ∨ n = 3 ∨ n = 4 ∨ n = 5 ∨ n = 6 ∨ n = 7 ∨ n = 8 ∨ n = 9 ∨ n = 10 ∨ n = 11 ∨ n = 12 := by omega
    rcases hc with rfl | rfl | rfl | rfl | rfl | rfl | rfl | rfl | rfl | rfl | rfl | rfl | rfl <;> rfl
  · rw [if_neg (by omega), if_neg (by omega), if_neg (by omega), if_neg (by omega), if_neg (by omega), if_neg (by omega), if_neg (by omega), if_neg (by omega), if_neg (by omega), if_neg (by omega), if_neg (by omega), if_neg (by omega), if_neg (by omega), if_neg (by omega), if_neg h]
/-- the calls that stand one behind another in a list -/
inductive Flat : List Nat → List (Nat × List Nat) → Prop
  | nil : Flat [] []
  | text {k : Nat} {r : List Nat} {cs : List (Nat × List Nat)} : k ≤ r.length → Flat (r.drop k) cs → Flat (0 :: k :: r) ((0, r.take k) :: cs)
  | op {n : Nat} {r : List Nat} {cs : List (Nat × List Nat)} : 1 ≤ n → n ≤ 12 → cntOf n ≤ r.length → Flat (r.drop (cntOf n)) cs → Flat (n :: r) ((n, r.take (cntOf n)) :: cs)
theorem zs_len (l : List Nat) : (zs l).length = l.length := List.length_map _
theorem zs_take (l : List Nat) (k : Nat) : (zs l).take k = zs (l.take k) := List.map_take.symm
theorem zs_drop (l : List Nat) (k : Nat) : (zs l).drop k = zs (l.drop k) := List.map_drop.symm
theorem zs_nat (l : List Nat) : (zs l).map Int.toNat = l := by
  unfold zs
  rw [List.map_map]
  exact List.map_id'' (fun n => rfl) l
theorem row_zs (k : Nat) (r : List Nat) : PyFlat.row (zs (k :: r)) = if k ≤ r.length then some (zs (r.take k), zs (r.drop k)) else none := by
  show (if 0 ≤ (k : Int) ∧ (k : Int).toNat ≤ (zs r).length then some ((zs r).take (k : Int).toNat, (zs r).drop (k : Int).toNat) else none) = _
  rw [Int.toNat_natCast, zs_len, zs_take, zs_drop]
  by_cases c : k ≤ r.length
  · rw [if_pos ⟨Int.natCast_nonneg k, c⟩, if_pos c]
  · rw [if_neg (fun z => c z.2), if_neg c]
theorem call_zs (n : Nat) (r : List Nat) {c : List (List Int)} {t : List Int} (h : PyFlat.call PyGp27.shape (zs (n :: r)) = some (c, t)) :
    (n = 0 ∧ ∃ k s, r = k :: s ∧ k ≤ s.length ∧ c = rawC (0, s.take k) ∧ t = zs (s.drop k)) ∨ (1 ≤ n ∧ n ≤ 12 ∧ cntOf n ≤ r.length ∧ c = rawC (n, r.take (cntOf n)) ∧ t = zs (r.drop (cntOf n))) := by
  have e : PyFlat.call PyGp27.shape (zs (n :: r)) = (match PyGp27.shape (n : Int) with
    | none => none
    | some (m, k) => if (zs r).length < m then none else match PyFlat.rows k ((zs r).drop m) with
      | none => none
      | some (xs, t) => some (((n : Int) :: (zs r).take m) :: xs, t)) := rfl
  rw [e, shape_eq] at h
  by_cases c0 : n = 0
  · rw [if_pos c0] at h
    subst c0
    refine .inl ⟨rfl, ?_⟩
    cases r with
    | nil => cases h
    | cons k s =>
      have e2 : PyFlat.rows 1 (zs (k :: s)) = (match PyFlat.row (zs (k :: s)) with
        | none => none
        | some (x, s) => some ([x], s)) := by
        show (match PyFlat.row (zs (k :: s)) with
          | none => none
          | some (x, s) => match PyFlat.rows 0 s with
            | none => none
            | some (xs, t) => some (x :: xs, t)) = _
        cases PyFlat.row (zs (k :: s)) <;> rfl
      dsimp only at h
      rw [if_neg (Nat.not_lt_zero _), List.drop_zero, e2, row_zs] at h
      by_cases ck : k ≤ s.length
      · rw [if_pos ck] at h
        have h := Option.some.inj h
        obtain ⟨h1, h2⟩ := Prod.mk.inj h
        exact ⟨k, s, rfl, ck, h1.symm, h2.symm⟩
      · rw [if_neg ck] at h
        cases h
  · rw [if_neg c0] at h
    by_cases c12 : n ≤ 12
    · rw [if_pos c12] at h
      dsimp only at h
      rw [zs_len] at h
      by_cases cl : r.length < cntOf n
      · rw [if_pos cl] at h
        cases h
      · rw [if_neg cl] at h
        have h := Option.some.inj h
        obtain ⟨h1, h2⟩ := Prod.mk.inj h
        refine .inr ⟨by omega, c12, by omega, ?_, ?_⟩
        · rw [← h1, zs_take]
          show _ = if n = 0 then _ else _
          rw [if_neg c0]
        · rw [← h2, zs_drop]
    · rw [if_neg c12] at h
      cases h
theorem calls_flat : ∀ (f : Nat) (ns : List Nat) (raw : List (List (List Int))), PyFlat.calls PyGp27.shape f (zs ns) = some raw → ∃ cs, Flat ns cs ∧ raw = cs.map rawC
  | f, [], raw, h => by
    have h : some [] = some raw := by
      cases f <;> exact h
    exact ⟨[], .nil, (Option.some.inj h).symm⟩
  | 0, n :: r, raw, h => by cases h
  | f + 1, n :: r, raw, h => by
    have e : PyFlat.calls PyGp27.shape (f + 1) (zs (n :: r)) = (match PyFlat.call PyGp27.shape (zs (n :: r)) with
      | none => none
      | some (c, t) => match PyFlat.calls PyGp27.shape f t with
        | none => none
        | some cs => some (c :: cs)) := rfl
    rw [e] at h
    cases ec : PyFlat.call PyGp27.shape (zs (n :: r)) with
    | none => rw [ec] at h; cases h
    | some x =>
      obtain ⟨c, t⟩ := x
      rw [ec] at h
      dsimp only at h
      cases et : PyFlat.calls PyGp27.shape f t with
      | none => rw [et] at h; cases h
      | some cs0 =>
        rw [et] at h
        have h := (Option.some.inj h).symm
        rcases call_zs n r ec with ⟨rfl, k, s, rfl, hk, rfl, rfl⟩ | ⟨h1, h2, h3, rfl, rfl⟩
        · obtain ⟨cs, F, rfl⟩ := calls_flat f _ _ et
          exact ⟨_, .text hk F, h⟩
        · obtain ⟨cs, F, rfl⟩ := calls_flat f _ _ et
          exact ⟨_, .op h1 h2 h3 F, h⟩
theorem Flat.good {ns : List Nat} {cs : List (Nat × List Nat)} (F : Flat ns cs) : ∀ c ∈ cs, c.1 ≤ 12 ∧ (c.1 ≠ 0 → c.2.length = cntOf c.1) := by
  induction F with
  | nil => exact fun _ h => nomatch h
  | text h _ ih =>
    intro c hc
    rcases List.mem_cons.mp hc with rfl | hc
    · exact ⟨Nat.zero_le _, fun z => absurd rfl z⟩
    · exact ih c hc
  | op h1 h2 h3 _ ih =>
    intro c hc
    rcases List.mem_cons.mp hc with rfl | hc
    · exact ⟨h2, fun _ => by show (List.take _ _).length = _; rw [List.length_take]; exact Nat.min_eq_left h3⟩
    · exact ih c hc
/-- a call's numbers, one behind another -/
def lineC (c : Nat × List Nat) : List Int := (c.1 : Int) :: zs c.2
theorem whole_raw {c : Nat × List Nat} (h : c.1 ≤ 12) (h2 : c.1 ≠ 0 → c.2.length = cntOf c.1) : (PyGp27.whole (rawC c)).headD [] = lineC c := by
  obtain ⟨n, ps⟩ := c
  dsimp only at h h2
  unfold rawC lineC
  dsimp only
  by_cases c0 : n = 0
  · subst c0
    rw [if_pos rfl]
    rfl
  · rw [if_neg c0]
    have hl := h2 c0
    have hc : n = 1 ∨ n = 2 ∨ n = 3 ∨ n = 4 ∨ n = 5 ∨ n = 6 ∨ n = 7 ∨ n = 8 ∨ n = 9 ∨ n = 10 ∨ n = 11 ∨ n = 12 := by omega
    have two : ps.length = 2 → ∃ x y, ps = [x, y] := fun e => match ps, e with
      | [x, y], _ => ⟨x, y, rfl⟩
    have one : ps.length = 1 → ∃ x, ps = [x] := fun e => match ps, e with
      | [x], _ => ⟨x, rfl⟩
    rcases hc with rfl | rfl | rfl | rfl | rfl | rfl | rfl | rfl | rfl | rfl | rfl | rfl
    · obtain ⟨x, y, rfl⟩ := two hl; rfl
    · obtain ⟨x, rfl⟩ := one hl; rfl
    · obtain ⟨x, rfl⟩ := one hl; rfl
    · obtain ⟨x, rfl⟩ := one hl; rfl
    · obtain ⟨x, y, rfl⟩ := two hl; rfl
    · obtain ⟨x, rfl⟩ := one hl; rfl
    · obtain ⟨x, rfl⟩ := one hl; rfl
    · obtain ⟨x, rfl⟩ := one hl; rfl
    · obtain ⟨x, rfl⟩ := one hl; rfl
    · obtain ⟨x, rfl⟩ := one hl; rfl
    · obtain ⟨x, y, rfl⟩ := two hl; rfl
    · obtain ⟨x, y, rfl⟩ := two hl; rfl
theorem some_if {α : Type} {p : Prop} [Decidable p] {x : α} (h : (if p then some x else none).isSome = true) : (if p then some x else none) = some x := by
  by_cases c : p
  · rw [if_pos c]
  · rw [if_neg c] at h
    cases h
theorem callOf_0 (l : List Int) : Gp27Neutral.callOf (0 :: l) = if Gp27Neutral.nats l = true then some (.text (l.map Int.toNat)) else none := rfl
theorem callOf_1 (x y : Int) : Gp27Neutral.callOf [1, x, y] = if Gp27Neutral.nats [x, y] = true then some (.send x.toNat y.toNat) else none := rfl
theorem callOf_2 (x : Int) : Gp27Neutral.callOf [2, x] = if Gp27Neutral.nats [x] = true then some (.pass x.toNat) else none := rfl
theorem callOf_3 (x : Int) : Gp27Neutral.callOf [3, x] = if Gp27Neutral.nats [x] = true then some (.down x.toNat) else none := rfl
theorem callOf_4 (x : Int) : Gp27Neutral.callOf [4, x] = if Gp27Neutral.nats [x] = true then some (.up x.toNat) else none := rfl
theorem callOf_5 (x y : Int) : Gp27Neutral.callOf [5, x, y] = if Gp27Neutral.nats [x, y] = true then some (.slow x.toNat y.toNat) else none := rfl
theorem callOf_6 (x : Int) : Gp27Neutral.callOf [6, x] = if Gp27Neutral.nats [x] = true then some (.service x.toNat) else none := rfl
theorem callOf_7 (x : Int) : Gp27Neutral.callOf [7, x] = if Gp27Neutral.nats [x] = true then some (.request x.toNat) else none := rfl
theorem callOf_8 (x : Int) : Gp27Neutral.callOf [8, x] = if Gp27Neutral.nats [x] = true then some (.entry x.toNat) else none := rfl
theorem callOf_9 (x : Int) : Gp27Neutral.callOf [9, x] = if Gp27Neutral.nats [x] = true then some (.link x.toNat) else none := rfl
theorem callOf_10 (x : Int) : Gp27Neutral.callOf [10, x] = if Gp27Neutral.nats [x] = true then some (.falls x.toNat) else none := rfl
theorem callOf_11 (x y : Int) : Gp27Neutral.callOf [11, x, y] = if Gp27Neutral.nats [x, y] = true then some (.asked x.toNat y.toNat) else none := rfl
theorem callOf_12 (x y : Int) : Gp27Neutral.callOf [12, x, y] = if Gp27Neutral.nats [x, y] = true then some (.cure x.toNat y.toNat) else none := rfl
theorem callOf_line {c : Nat × List Nat} (h : c.1 ≤ 12) (h2 : c.1 ≠ 0 → c.2.length = cntOf c.1) (ha : Gp27Neutral.asked1 (lineC c) = true) : Gp27Neutral.callOf (lineC c) = some (opOf c.1 c.2) := by
  obtain ⟨n, ps⟩ := c
  dsimp only at h h2
  unfold Gp27Neutral.asked1 at ha
  by_cases c0 : n = 0
  · subst c0
    have e : lineC (0, ps) = 0 :: zs ps := rfl
    rw [e, callOf_0] at ha ⊢
    rw [some_if ha, zs_nat] <;> rfl
  · have hl := h2 c0
    have hc : n = 1 ∨ n = 2 ∨ n = 3 ∨ n = 4 ∨ n = 5 ∨ n = 6 ∨ n = 7 ∨ n = 8 ∨ n = 9 ∨ n = 10 ∨ n = 11 ∨ n = 12 := by omega
    have two : ps.length = 2 → ∃ x y, ps = [x, y] := fun e => match ps, e with
      | [x, y], _ => ⟨x, y, rfl⟩
    have one : ps.length = 1 → ∃ x, ps = [x] := fun e => match ps, e with
      | [x], _ => ⟨x, rfl⟩
    rcases hc with rfl | rfl | rfl | rfl | rfl | rfl | rfl | rfl | rfl | rfl | rfl | rfl
    · obtain ⟨x, y, rfl⟩ := two hl
      have e : lineC (1, [x, y]) = [1, (x : Int), (y : Int)] := rfl
      rw [e, callOf_1] at ha ⊢
      rw [some_if ha] <;> rfl
    · obtain ⟨x, rfl⟩ := one hl
      have e : lineC (2, [x]) = [2, (x : Int)] := rfl
      rw [e, callOf_2] at ha ⊢
      rw [some_if ha] <;> rfl
    · obtain ⟨x, rfl⟩ := one hl
      have e : lineC (3, [x]) = [3, (x : Int)] := rfl
      rw [e, callOf_3] at ha ⊢
      rw [some_if ha] <;> rfl
    · obtain ⟨x, rfl⟩ := one hl
      have e : lineC (4, [x]) = [4, (x : Int)] := rfl
      rw [e, callOf_4] at ha ⊢
      rw [some_if ha] <;> rfl
    · obtain ⟨x, y, rfl⟩ := two hl
      have e : lineC (5, [x, y]) = [5, (x : Int), (y : Int)] := rfl
      rw [e, callOf_5] at ha ⊢
      rw [some_if ha] <;> rfl
    · obtain ⟨x, rfl⟩ := one hl
      have e : lineC (6, [x]) = [6, (x : Int)] := rfl
      rw [e, callOf_6] at ha ⊢
      rw [some_if ha] <;> rfl
    · obtain ⟨x, rfl⟩ := one hl
      have e : lineC (7, [x]) = [7, (x : Int)] := rfl
      rw [e, callOf_7] at ha ⊢
      rw [some_if ha] <;> rfl
    · obtain ⟨x, rfl⟩ := one hl
      have e : lineC (8, [x]) = [8, (x : Int)] := rfl
      rw [e, callOf_8] at ha ⊢
      rw [some_if ha] <;> rfl
    · obtain ⟨x, rfl⟩ := one hl
      have e : lineC (9, [x]) = [9, (x : Int)] := rfl
      rw [e, callOf_9] at ha ⊢
      rw [some_if ha] <;> rfl
    · obtain ⟨x, rfl⟩ := one hl
      have e : lineC (10, [x]) = [10, (x : Int)] := rfl
      rw [e, callOf_10] at ha ⊢
      rw [some_if ha] <;> rfl
    · obtain ⟨x, y, rfl⟩ := two hl
      have e : lineC (11, [x, y]) = [11, (x : Int), (y : Int)] := rfl
      rw [e, callOf_11] at ha ⊢
      rw [some_if ha] <;> rfl
    · obtain ⟨x, y, rfl⟩ := two hl
      have e : lineC (12, [x, y]) = [12, (x : Int), (y : Int)] := rfl
      rw [e, callOf_12] at ha ⊢
      rw [some_if ha] <;> rfl
/-- the answers of calls, from a world on -/
def toldOf : World → List (Nat × List Nat) → List Int
  | _, [] => []
  | w, c :: r => ((step w (opOf c.1 c.2)).2.length : Int) :: (step w (opOf c.1 c.2)).2 ++ toldOf (step w (opOf c.1 c.2)).1 r
theorem told_eq : ∀ (cs : List (Nat × List Nat)) (w : World), (∀ c ∈ cs, c.1 ≤ 12 ∧ (c.1 ≠ 0 → c.2.length = cntOf c.1) ∧ Gp27Neutral.asked1 (lineC c) = true) → PyFlat.told (PyFlat.played (fun s c => Gp27Neutral.step s (c.headD [])) w ((cs.map rawC).map PyGp27.whole)) = toldOf w cs
  | [], _, _ => rfl
  | c :: r, w, h => by
    obtain ⟨h1, h2, h3⟩ := h c List.mem_cons_self
    have e : Gp27Neutral.step w ((PyGp27.whole (rawC c)).headD []) = step w (opOf c.1 c.2) := by
      rw [whole_raw h1 h2]
      unfold Gp27Neutral.step
      rw [callOf_line h1 h2 h3]
    have ih := told_eq r (step w (opOf c.1 c.2)).1 fun c hc => h c (List.mem_cons_of_mem _ hc)
    show PyFlat.told ((Gp27Neutral.step w ((PyGp27.whole (rawC c)).headD [])).2 :: PyFlat.played _ (Gp27Neutral.step w ((PyGp27.whole (rawC c)).headD [])).1 ((r.map rawC).map PyGp27.whole)) = _
    rw [e]
    show ((step w (opOf c.1 c.2)).2.length : Int) :: (step w (opOf c.1 c.2)).2 ++ PyFlat.told (PyFlat.played _ (step w (opOf c.1 c.2)).1 ((r.map rawC).map PyGp27.whole)) = _
    rw [ih] <;> rfl
/-- what is asked of the handed-in list, and what is due -/
theorem asked_calls (ns : List Nat) (h : PyGp27.answers_asked (zs ns) = true) : ∃ cs, Flat ns cs ∧ cs.length ≤ 40 ∧ (∀ c ∈ cs, c.1 = 0 → c.2.length ≤ 4000) ∧ PyGp27.answers (zs ns) = toldOf init cs := by
  unfold PyGp27.answers_asked at h
  cases er : PyFlat.calls PyGp27.shape (zs ns).length (zs ns) with
  | none => rw [er] at h; cases h
  | some raw =>
    rw [er] at h
    dsimp only at h
    rw [Bool.and_eq_true, Bool.and_eq_true, Bool.and_eq_true, Bool.and_eq_true] at h
    obtain ⟨⟨⟨⟨_, h40⟩, hin⟩, hask⟩, _⟩ := h
    obtain ⟨cs, F, rfl⟩ := calls_flat _ _ _ er
    have g := F.good
    have h40' : (cs.map rawC).length ≤ 40 := of_decide_eq_true h40
    rw [List.length_map] at h40'
    have ha : ∀ c ∈ cs, Gp27Neutral.asked1 (lineC c) = true := fun c hc => by
      unfold Gp27Neutral.asked at hask
      rw [Bool.and_eq_true, Bool.and_eq_true] at hask
      have z := List.all_eq_true.mp hask.1.2 _ (List.mem_map.mpr ⟨_, List.mem_map.mpr ⟨_, List.mem_map.mpr ⟨c, hc, rfl⟩, rfl⟩, rfl⟩)
      rw [whole_raw (g c hc).1 (g c hc).2] at z
      exact z
    refine ⟨cs, F, h40', fun c hc h0 => ?_, ?_⟩
    · have z := List.all_eq_true.mp hin _ (List.mem_map.mpr ⟨c, hc, rfl⟩)
      obtain ⟨n, ps⟩ := c
      dsimp only at h0
      subst h0
      have z : (decide (0 ≤ (zs ps).length) && decide ((zs ps).length ≤ 4000) && (zs ps).all (PyInside.within 0 4294967295) && true) = true := z
      rw [Bool.and_eq_true, Bool.and_eq_true, Bool.and_eq_true] at z
      have y := of_decide_eq_true z.1.1.2
      rw [zs_len] at y
      exact y
    · unfold PyGp27.answers PyGp27.calls
      rw [er]
      exact told_eq cs _ fun c hc => ⟨(g c hc).1, (g c hc).2, ha c hc⟩
end Cw
end

/-! ## W10 -/
section
set_option maxRecDepth 100000
/-! Names of a read house; how long an answer is. Plain Lean. -/
namespace Cw
open Gp27
structure Named (h : House) : Prop where
  sv : ∀ s ∈ h.services, isName s.name = true
  en : ∀ e ∈ h.entries, isName e.name = true
theorem Named.empty : Named empty_ := ⟨fun _ h => (nomatch h), fun _ h => (nomatch h)⟩
theorem Named.addStep {h : House} (N : Named h) (i : Nat) (st : Step) (as : List Ask) : Named { addStep h i st with asks := as } := by
  refine ⟨fun s hs => ?_, N.en⟩
  obtain ⟨j, hj⟩ := mem_at (show s ∈ (Gp27.addStep h i st).services from hs)
  rw [addStep_at] at hj
  cases e : h.services[j]? with
  | none => rw [e] at hj; cases hj
  | some s0 =>
    rw [e] at hj
    have hj := Option.some.inj hj
    have m := N.sv s0 (List.mem_of_getElem? e)
    dsimp only at hj
    by_cases ej : j = i
    · rw [if_pos ej] at hj
      rw [← hj]
      exact m
    · rw [if_neg ej] at hj
      rw [← hj]
      exact m
theorem Named.step1 {h : House} (N : Named h) (i : Nat) (st : Step) : Named (Gp27.addStep h i st) := N.addStep i st h.asks
theorem Named.change {h : House} (N : Named h) (j : Nat) (f : Ask → Ask) : Named (changeAsk h j f) := ⟨N.sv, N.en⟩
theorem Named.service {h : House} (N : Named h) {n : Bytes} {x y : Nat} (hn : isName n = true) : Named { h with services := h.services ++ [⟨n, x, y, []⟩] } := ⟨fun s hs => (by
  rcases List.mem_append.mp hs with z | z
  · exact N.sv s z
  · rw [List.mem_singleton.mp z]
    exact hn), N.en⟩
theorem Named.entry {h : House} (N : Named h) {n : Bytes} {x y : Nat} (hn : isName n = true) : Named { h with entries := h.entries ++ [⟨n, x, y⟩] } := ⟨N.sv, fun s hs => by
  rcases List.mem_append.mp hs with z | z
  · exact N.en s z
  · rw [List.mem_singleton.mp z]
    exact hn⟩
theorem name_of {n : Bytes} {p : Prop} (h : ¬ (isName n = false ∨ p)) : isName n = true := by
  cases e : isName n with
  | true => rfl
  | false => exact absurd (.inl e) h
theorem lineOf_named {h h' : House} {k : Nat} {l : List Bytes} (N : Named h) (e : lineOf h k l = .ok h') : Named h' := by
  have no : ∀ {f : Fault} {p : Prop}, (Except.error f : Except Fault House) = .ok h' → p := fun z => nomatch z
  have yes : ∀ {g : House}, Named g → (Except.ok g : Except Fault House) = .ok h' → Named h' := fun n z => by
    injection z with z
    rw [← z]
    exact n
  unfold lineOf at e
  cases l with
  | nil => exact yes N e
  | cons w r =>
    dsimp only at e
    by_cases c1 : w = txt "service"
    · rw [if_pos c1] at e
      repeat' split at e
      all_goals first
        | exact no e
        | exact yes (N.service (name_of (by assumption))) e
    rw [if_neg c1] at e
    by_cases c2 : w = txt "work"
    · rw [if_pos c2] at e
      repeat' split at e
      all_goals first
        | exact no e
        | exact yes (N.step1 _ _) e
    rw [if_neg c2] at e
    by_cases c3 : w = txt "ask"
    · rw [if_pos c3] at e
      repeat' split at e
      all_goals first
        | exact no e
        | exact yes (N.addStep _ _ _) e
    rw [if_neg c3] at e
    by_cases c4 : w = txt "may"
    · rw [if_pos c4] at e
      repeat' split at e
      all_goals first
        | exact no e
        | exact yes (N.change _ _) e
    rw [if_neg c4] at e
    by_cases c5 : w = txt "budget"
    · rw [if_pos c5] at e
      repeat' split at e
      all_goals first
        | exact no e
        | exact yes (N.change _ _) e
    rw [if_neg c5] at e
    by_cases c6 : w = txt "breaker"
    · rw [if_pos c6] at e
      repeat' split at e
      all_goals first
        | exact no e
        | exact yes (N.change _ _) e
    rw [if_neg c6] at e
    by_cases c7 : w = txt "entry"
    · rw [if_pos c7] at e
      repeat' split at e
      all_goals first
        | exact no e
        | exact yes (N.entry (name_of (by assumption))) e
    rw [if_neg c7] at e
    exact no e
theorem linesOf_named : ∀ (l : List (Nat × List Bytes)) (h h' : House), Named h → linesOf h l = .ok h' → Named h'
  | [], h, h', N, e => by
    injection e with e
    rw [← e]
    exact N
  | x :: r, h, h', N, e => by
    have e : ((lineOf h x.1 x.2).bind fun g => linesOf g r) = .ok h' := e
    cases el : lineOf h x.1 x.2 with
    | error f => rw [el] at e; cases e
    | ok g =>
      rw [el] at e
      exact linesOf_named r g h' (lineOf_named N el) e
theorem houseOf_named {b : Bytes} {h : House} (e : houseOf b = .ok h) : Named h := by
  unfold houseOf at e
  cases es : sayings 1 (lines [] b) with
  | error f => rw [es] at e; cases e
  | ok l =>
    rw [es] at e
    exact linesOf_named l _ h Named.empty e
theorem name_head {n : Bytes} (h : isName n = true) : ∃ b r, n = b :: r ∧ 97 ≤ b := by
  cases n with
  | nil => cases h
  | cons b r =>
    have h : (small b && (decide (r.length ≤ 7) && r.all fun c => small c || digit c)) = true := h
    rw [Bool.and_eq_true] at h
    have h1 : (decide (97 ≤ b) && decide (b ≤ 122)) = true := h.1
    rw [Bool.and_eq_true] at h1
    exact ⟨b, r, rfl, of_decide_eq_true h1.1⟩
theorem ints_len (l : List Nat) : (Gp27.ints l).length = l.length := List.length_map _
theorem pairs_le (n : Nat) : ∀ l ∈ pairsOf n, l.length ≤ 2 := fun l hl => by
  unfold pairsOf at hl
  rcases List.mem_append.mp hl with hl | hl
  · rcases List.mem_append.mp hl with hl | hl
    · rw [List.mem_singleton.mp hl]
      exact Nat.zero_le _
    · obtain ⟨i, _, rfl⟩ := List.mem_map.mp hl
      exact Nat.le_of_ble_eq_true rfl
  · obtain ⟨i, _, hl⟩ := List.mem_flatMap.mp hl
    obtain ⟨j, _, rfl⟩ := List.mem_map.mp hl
    exact Nat.le_refl 2
/-- no answer is long -/
theorem step_len {w : World} (H : w.house.entries.length ≤ 4) : ∀ c : Call, (step w c).2.length ≤ 9
  | .text b => by
    show ((match houseOf b with
      | .error f => (w, [-1, (f.1 : Int), (f.2 : Int)])
      | .ok h => if h.entries.isEmpty = true then (w, [-3]) else (worldOf h, Gp27.ints [h.services.length, h.asks.length, h.entries.length]) : St × List Int).2).length ≤ 9
    split
    · exact Nat.le_of_ble_eq_true rfl
    · split <;> exact Nat.le_of_ble_eq_true rfl
  | .send e n => by
    show ((if w.house.entries.length ≤ e then (w, [-2]) else if n = 0 ∨ 20 < n then (w, [-1]) else if MOST < w.requests.length + n then (w, [-5]) else _ : St × List Int).2).length ≤ 9
    split
    · exact Nat.le_of_ble_eq_true rfl
    · split
      · exact Nat.le_of_ble_eq_true rfl
      · split <;> exact Nat.le_of_ble_eq_true rfl
  | .pass n => by
    show ((if n = 0 ∨ 200 < n then (w, [-1]) else if MOST < w.requests.length then (w, [-5]) else _ : St × List Int).2).length ≤ 9
    split
    · exact Nat.le_of_ble_eq_true rfl
    · split <;> exact Nat.le_of_ble_eq_true rfl
  | .down s => by
    show ((if hasService w s = false then (w, [-2]) else if w.down.contains s = true then (w, [-4]) else _ : St × List Int).2).length ≤ 9
    split
    · exact Nat.le_of_ble_eq_true rfl
    · split <;> exact Nat.le_of_ble_eq_true rfl
  | .up s => by
    show ((if hasService w s = false then (w, [-2]) else if w.down.contains s = false then (w, [-4]) else _ : St × List Int).2).length ≤ 9
    split
    · exact Nat.le_of_ble_eq_true rfl
    · split <;> exact Nat.le_of_ble_eq_true rfl
  | .slow s k => by
    show ((if hasService w s = false then (w, [-2]) else if k = 0 ∨ 10 < k then (w, [-1]) else _ : St × List Int).2).length ≤ 9
    split
    · exact Nat.le_of_ble_eq_true rfl
    · split <;> exact Nat.le_of_ble_eq_true rfl
  | .service s => by
    show (if hasService w s = false then [-2] else _ : List Int).length ≤ 9
    split <;> exact Nat.le_of_ble_eq_true rfl
  | .request k => by
    show (match w.requests[k]? with
      | none => [-3]
      | some r => Gp27.ints ([r.service, match r.entry with
        | none => 0
        | some e => e + 1, r.deadline, r.step] ++ toldState r.state) : List Int).length ≤ 9
    split
    · exact Nat.le_of_ble_eq_true rfl
    · rename_i r _
      have e : (toldState r.state).length = 3 := by cases r.state <;> rfl
      rw [ints_len, List.length_append, e]
      exact Nat.le_of_ble_eq_true rfl
  | .entry e => by
    show (if w.house.entries.length ≤ e then [-2] else _ : List Int).length ≤ 9
    split <;> exact Nat.le_of_ble_eq_true rfl
  | .link i => by
    show (if w.house.asks.length ≤ i then [-2] else _ : List Int).length ≤ 9
    split <;> exact Nat.le_of_ble_eq_true rfl
  | .falls s => by
    show (if hasService w s = false then [-2] else Gp27.ints ((List.range w.house.entries.length).map fun e => ends w.house [s] e) : List Int).length ≤ 9
    split
    · exact Nat.le_of_ble_eq_true rfl
    · rw [ints_len, List.length_map, List.length_range]
      omega
  | .asked e s => by
    show (if w.house.entries.length ≤ e ∨ hasService w s = false then [-2] else _ : List Int).length ≤ 9
    split <;> exact Nat.le_of_ble_eq_true rfl
  | .cure e s => by
    show (if w.house.entries.length ≤ e ∨ hasService w s = false then [-2] else match Gp27.cure w.house e s with
      | none => [-6]
      | some l => Gp27.ints (l.length :: l) : List Int).length ≤ 9
    split
    · exact Nat.le_of_ble_eq_true rfl
    · split
      · exact Nat.le_of_ble_eq_true rfl
      · rename_i l hl
        have := pairs_le _ l (List.mem_of_find?_eq_some hl)
        rw [ints_len, List.length_cons]
        omega
theorem step_pos {w : World} (H : w.house.entries.length ≤ 4) (c : Call) : ((step w c).2.length : Int) < 97 := by
  have := step_len H c
  omega
/-- one call more -/
theorem toldOf_append : ∀ (a b : List (Nat × List Nat)) (w : World), toldOf w (a ++ b) = toldOf w a ++ toldOf (a.foldl (fun w c => (step w (opOf c.1 c.2)).1) w) b
  | [], _, _ => rfl
  | c :: r, b, w => by
    show ((step w (opOf c.1 c.2)).2.length : Int) :: (step w (opOf c.1 c.2)).2 ++ toldOf (step w (opOf c.1 c.2)).1 (r ++ b) = (((step w (opOf c.1 c.2)).2.length : Int) :: (step w (opOf c.1 c.2)).2 ++ toldOf (step w (opOf c.1 c.2)).1 r) ++ _
    rw [toldOf_append r b, List.append_assoc] <;> rfl
end Cw
end

/-! ## CcText -/
section
set_option maxRecDepth 100000
set_option maxHeartbeats 4000000
/-! A text makes a new run. -/
namespace Cc
open PySem PySem.Spec PyProof.Rows L2
open Cw (GOk opOf)
/-- told numbers begin with no letter -/
def Tn (xs : List Int) : Prop := ∀ x, xs.head? = some x → x < 97
def AfterT (K : PySem.W.Frag) (F : Hp) (a : Addr) (A : Ad) (H : Hp) (w w' : Gp27.World) (out : List Int) (Q : VK) : Prop :=
  ∀ (H' F' : Hp) (a' : Addr) (A' : Ad) (t D : Addr), RunW K F' H' a' A' w' → (GOk w → GOk w') → (∀ c xs, H c = some (.lst (xs.map V.int)) → Tn xs → F c = none → F' c = none) → (∀ c o, H c = some o → ¬ Own a A c → H' c = some o ∧ ¬ Own a' A' c) →
    H' t = some (.tup [.ref a', .ref D]) → H D = none → ¬ Own a' A' D → H' D = some (.lst (out.map V.int)) → Q (.ref t) H'
def sp_read_text (K : PySem.W.Frag) : Sp := fun vs H Q _ => ∃ (a p : Addr) (F : Hp) (A : Ad) (w : Gp27.World) (b : List Nat), vs = [.ref a, .ref p] ∧ RunW K F H a A w ∧ H p = some (.lst (byV b)) ∧ b.length ≤ 5000 ∧ AfterT K F a A H w (Gp27.step w (.text b)).1 (Gp27.step w (.text b)).2 Q
theorem len_read_text {K : PySem.W.Frag} : ∀ vs H Q E, sp_read_text K vs H Q E → vs.length = (["run", "source"] : List Str).length := by rintro _ _ _ _ ⟨_, _, _, _, _, _, rfl, _⟩; rfl
abbrev N_read_text : List Str := ["run", "source", "plan", "line", "code"]
theorem sc_read_text : FnScope N_read_text ["run", "source"] (defScope s_read_text) := ⟨rfl, rfl, rfl, by decide +kernel, rfl, by decide +kernel, by decide +kernel⟩
def t_read_text (K : PySem.W.Frag) : TS := (tSeq (tAsg (tCall (sp_read_plan K) [] E0 (tCons (tVar 1) tNil)) (gTup K 3 (gCons (gName 2) (gCons (gName 3) (gCons (gName 4) gNil)))))
  (tSeq (tIfS (tTest (tOp rNe (tVar 4) (tC (.int (0))))) (tRet (tTup (tCons (tVar 0) (tCons (tLst (tCons (tC (.int (-1))) (tCons (tVar 3) (tCons (tVar 4) tNil)))) tNil)))) tNext)
  (tSeq (tIfS (tTest (tOp (rEqE K) (tFld K (tVar 2) "gates") (tLst tNil))) (tRet (tTup (tCons (tVar 0) (tCons (tLst (tCons (tC (.int (-3))) tNil)) tNil)))) tNext)
  (tRet (tTup (tCons (tMake (cRun K) (sp_Run_init K) [] E0 (tCons (tVar 2) tNil)) (tCons (tLst (tCons (tCB (rLenQ K) (tCons (tFld K (tVar 2) "services") tNil)) (tCons (tCB (rLenQ K) (tCons (tFld K (tVar 2) "asks") tNil)) (tCons (tCB (rLenQ K) (tCons (tFld K (tVar 2) "gates") tNil)) tNil)))) tNil)))))))
/-! ### a heap without some of its lists -/
open Classical in
noncomputable def hide (p : Addr → Prop) (F : Hp) : Hp := fun b => if p b then none else F b
section
variable {p : Addr → Prop} {F : Hp} {b : Addr} {o : HO}
theorem hide_yes (h : p b) : hide p F b = none := by
  unfold hide
  exact if_pos h
theorem hide_no (h : ¬ p b) : hide p F b = F b := by
  unfold hide
  exact if_neg h
theorem hide_none (h : F b = none) : hide p F b = none := by
  by_cases c : p b
  · exact hide_yes c
  · rw [hide_no c]
    exact h
theorem hide_sub (h : hide p F b = some o) : F b = some o := by
  by_cases c : p b
  · rw [hide_yes c] at h
    cases h
  · rw [hide_no c] at h
    exact h
theorem PlanAt.hide {K : PySem.W.Frag} {pl : Addr} {P : PAd} {h : Gp27.House} {m : List Bool} (x : PlanAt K F pl P h m) (hp : ∀ b, p b → ∃ xs, F b = some (.lst (xs.map V.int)) ∧ Tn xs) (hb : ∀ b, p b → ¬ BX P b) (N : Cw.Named h) : PlanAt K (hide p F) pl P h m := by
  have ins : ∀ {b C dx : Addr} {fs : List (Str × V)}, F b = some (.ins C dx fs) → Cc.hide p F b = some (.ins C dx fs) := fun {b C dx fs} e => by
    rw [hide_no (fun z => by
      obtain ⟨xs, e2, _⟩ := hp _ z
      rw [e] at e2
      cases e2)]
    exact e
  have tup : ∀ {b : Addr} {xs : List V}, F b = some (.tup xs) → Cc.hide p F b = some (.tup xs) := fun {b xs} e => by
    rw [hide_no (fun z => by
      obtain ⟨xs, e2, _⟩ := hp _ z
      rw [e] at e2
      cases e2)]
    exact e
  have own : ∀ {b : Addr} {o : HO}, BX P b → F b = some o → Cc.hide p F b = some o := fun {b o} z e => by
    rw [hide_no (fun y => hb _ y z)]
    exact e
  have nm : ∀ {b : Addr} {n : List Nat}, Gp27.isName n = true → F b = some (.lst (byV n)) → Cc.hide p F b = some (.lst (byV n)) := fun {b n} hn e => by
    rw [hide_no (fun z => by
      obtain ⟨xs, e2, ht⟩ := hp _ z
      rw [e] at e2
      obtain ⟨c, r, rfl, hc⟩ := Cw.name_head hn
      have e2 := Option.some.inj e2
      injection e2 with e2
      cases xs with
      | nil => cases e2
      | cons y ys =>
        injection e2 with e3 _
        injection e3 with e3
        have := ht y rfl
        omega)]
    exact e
  refine ⟨?_, own (.inl rfl) x.sv, own (.inr (.inl rfl)) x.ak, own (.inr (.inr (.inl rfl))) x.gt, x.ls, x.lt, x.la, x.lm, x.lg, fun i s hs => ?_, fun i s hs => ?_, fun i s hs => ?_⟩
  · obtain ⟨dx, e⟩ := x.at_
    exact ⟨dx, ins e⟩
  · obtain ⟨q, n, st, h1, h2, ⟨dx, h3⟩, h4, ts, u1, u2, u3⟩ := x.svs i s hs
    refine ⟨q, n, st, h1, h2, ⟨dx, ins h3⟩, nm (N.sv s (List.mem_of_getElem? hs)) h4, ts, own (.inr (.inr (.inr (.inl (List.mem_of_getElem? h2))))) u1, u2, fun j y hy => ?_⟩
    obtain ⟨t, v1, v2⟩ := u3 j y hy
    exact ⟨t, v1, tup v2⟩
  · obtain ⟨q, b, h1, h2, dx, h3⟩ := x.aks i s hs
    exact ⟨q, b, h1, h2, dx, ins h3⟩
  · obtain ⟨q, n, h1, ⟨dx, h3⟩, h4⟩ := x.gts i s hs
    exact ⟨q, n, h1, ⟨dx, ins h3⟩, nm (N.en s (List.mem_of_getElem? hs)) h4⟩
end
section
variable {P : Program} {w : World} {K : PySem.W.Frag} {mg : Str → Option Value} {base : Heap}
theorem p2_c {σ : L2.St} {H : Hp} {t1 t2 : TE} {x : V} {Q : VK} (h1 : Val t1 σ H x) (h2 : t2 σ H fun u H2 => [x, u].length ≤ sizeLine ∧ ∀ p, H2 p = none → Q (.ref p) (upd H2 p (.tup [x, u]))) : tTup (tCons t1 (tCons t2 tNil)) σ H Q := h1 _ h2
theorem p2_d {σ : L2.St} {H : Hp} {D : Ends} {D0 : Ends} {t1 t2 : TE} (h1 : t1 σ H fun x H1 => t2 σ H1 fun u H2 => [x, u].length ≤ sizeLine ∧ ∀ p, H2 p = none → D.rt (.ref p) (upd H2 p (.tup [x, u]))) : tNext { D0 with nx := tRet (tTup (tCons t1 (tCons t2 tNil))) D } σ H := h1
theorem pure_read_text (T : Txt w K mg) (vs : List V) (H : Hp) (Q : VK) (E : XK) (h : sp_read_text K vs H Q E) : t_read_text K { nx := fun _ H' => Q .non H', rt := Q } (start N_read_text vs) H := by
  obtain ⟨a, p, F, A, wd, b, rfl, R, hp, hb, kk⟩ := h
  have sz2 : ([V.ref a, V.ref a] : List V).length ≤ sizeLine := Nat.le_trans (show 2 ≤ 1000 by decide) (by decide)
  refine e_asg (e_fn (va_cons (val_var rfl) va_nil) ⟨p, b, rfl, SqL.of hp, hb, fun H1 t s1 hout => ?_⟩)
  have kk : AfterT K F a A H wd (match Gp27.houseOf b with
    | .error f => (wd, [-1, (f.1 : Int), (f.2 : Int)])
    | .ok h => if h.entries.isEmpty = true then (wd, [-3]) else (Gp27.worldOf h, Gp27.ints [h.services.length, h.asks.length, h.entries.length]) : Gp27.St × List Int).1 (match Gp27.houseOf b with
    | .error f => (wd, [-1, (f.1 : Int), (f.2 : Int)])
    | .ok h => if h.entries.isEmpty = true then (wd, [-3]) else (Gp27.worldOf h, Gp27.ints [h.services.length, h.asks.length, h.entries.length]) : Gp27.St × List Int).2 Q := kk
  have nn : ∀ {H2 : Hp} {D : Addr}, Same H H2 → H2 D = none → H D = none := fun {H2 D} s hD => by
    cases e : H D with
    | none => rfl
    | some o => rw [s _ _ e] at hD; cases hD
  have old : ∀ {H2 : Hp} {D t2 : Addr} {o1 o2 : HO} {out : List Int}, Same H H2 → H2 D = none → upd H2 D (.lst (out.map V.int)) t2 = none → AfterT K F a A H wd wd out Q →
      Q (.ref t2) (upd (upd H2 D (.lst (out.map V.int))) t2 (.tup [.ref a, .ref D])) := fun {H2 D t2 o1 o2 out} s hD ht k => by
    have nt : D ≠ t2 := fun z => by rw [← z, upd_same] at ht; cases ht
    have s' : Same H (upd (upd H2 D (.lst (out.map V.int))) t2 (.tup [.ref a, .ref D])) := trS s (trS (same_new hD) (same_new ht))
    exact k _ F a A t2 D (RunAt.mono R s') id (fun _ _ _ _ h => h) (fun c o hc nc => ⟨s' _ _ hc, nc⟩) upd_same (nn s hD) (R.not_own (nn s hD)) (by rw [upd_ne nt, upd_same])
  cases eh : Gp27.houseOf b with
  | error f =>
    rw [eh] at hout kk
    obtain ⟨v, h1, h2⟩ := hout
    refine ⟨t, _, rfl, SqT.of h1, rfl, _, _, rfl, _, _, rfl, _, _, rfl, rfl, ?_⟩
    refine st_ifn (p := V.int (f.2 : Nat) = V.int 0) (ans_t (val_ne (val_var rfl) val_c)) (fun _ => ?_) (fun c => absurd (Int.ofNat.inj (vi_eq.mp c)) h2)
    refine e_ret (p2_c (x := .ref a) (val_var rfl) ?_)
    refine e_lst (va_cons val_c (va_cons (val_var (v := .int (f.1 : Nat)) rfl) (va_cons (val_var (v := .int (f.2 : Nat)) rfl) va_nil))) rfl fun D hD => ⟨sz2, fun t2 ht2 => ?_⟩
    exact old (o1 := .lst []) (o2 := .lst []) (out := [-1, (f.1 : Int), (f.2 : Int)]) s1 hD ht2 kk
  | ok h =>
    rw [eh] at hout kk
    obtain ⟨pl, PP, h1, B, kb⟩ := hout
    refine ⟨t, _, rfl, SqT.of h1, rfl, _, _, rfl, _, _, rfl, _, _, rfl, rfl, ?_⟩
    refine st_ifn (p := V.int 0 = V.int 0) (ans_t (val_ne (val_var rfl) val_c)) (fun c => absurd rfl c) (fun _ => ?_)
    refine t_eqE (vpl_gates T (val_var rfl) B.at_.at_) (SqL.of B.at_.gt) fun H2 s2 => ?_
    have s12 := trS s1 s2
    have B2 := B.mono s2
    have ee : (PP.gs.map V.ref).isEmpty = h.entries.isEmpty := by
      have := B.at_.lg
      cases e1 : PP.gs with
      | nil =>
        rw [e1] at this
        rw [List.length_eq_zero_iff.mp this.symm] <;> rfl
      | cons x r =>
        cases e2 : h.entries with
        | nil => rw [e1, e2] at this; cases this
        | cons _ _ => rfl
    rw [ee]
    cases c : h.entries.isEmpty with
    | true =>
      dsimp only at kk
      rw [c, if_pos rfl] at kk
      refine iteT (e_ret (p2_c (x := .ref a) (val_var rfl) ?_))
      refine e_lst (va_cons val_c va_nil) rfl fun D hD => ⟨sz2, fun t2 ht2 => ?_⟩
      exact old (o1 := .lst []) (o2 := .lst []) (out := [-3]) s12 hD ht2 kk
    | false =>
      dsimp only at kk
      rw [c, if_neg Bool.false_ne_true] at kk
      refine iteF ?_
      refine p2_d (D := { nx := fun _ H' => Q .non H', rt := Q }) ?_
      refine e_mk (va_cons (val_var (v := .ref pl) rfl) va_nil) fun x dx hx hdx ndx => ⟨x, dx, pl, hide (fun c => ∃ xs, H c = some (.lst (xs.map V.int)) ∧ Tn xs) H2, PP, h, rfl, upd_same, hide_none hx, fun b o e => ?_, B2.at_.hide (fun c ⟨xs, hc, ht⟩ => ⟨xs, s12 _ _ hc, ht⟩) (fun c ⟨xs, hc, _⟩ => kb c _ hc) (Cw.houseOf_named eh), by have := B.ok.ok.ns; omega, by have := B.ok.ok.na; omega, fun H3 A3 _ R3 f3 out3 => ⟨rfl, ?_⟩⟩
      · have e := hide_sub e
        rw [upd_ne (fun z => by rw [z, hx] at e; cases e), upd_ne (fun z => by rw [z, hdx] at e; cases e)]
        exact e
      have s3 : Same H2 H3 := same_mk hx hdx f3
      have B3 := B2.mono s3
      refine va_go (va_cons (val_len (vpl_services T (val_var (v := .ref pl) rfl) B3.at_.at_) (SqL.of B3.at_.sv)) (va_cons (val_len (vpl_asks T (val_var (v := .ref pl) rfl) B3.at_.at_) (SqL.of B3.at_.ak)) (va_cons (val_len (vpl_gates T (val_var (v := .ref pl) rfl) B3.at_.at_) (SqL.of B3.at_.gt)) va_nil))) ⟨Nat.le_trans (show 3 ≤ 1000 by decide) (by decide), fun D hD => ⟨sz2, fun t2 ht2 => ?_⟩⟩
      have nt : D ≠ t2 := fun z => by rw [← z, upd_same] at ht2; cases ht2
      have s13 : Same H H3 := trS s12 s3
      have eo : ([V.int ((PP.ss.map V.ref).length : Nat), V.int ((PP.as.map V.ref).length : Nat), V.int ((PP.gs.map V.ref).length : Nat)] : List V) = (Gp27.ints [h.services.length, h.asks.length, h.entries.length]).map V.int := by
        rw [List.length_map, List.length_map, List.length_map, B.at_.ls, B.at_.la, B.at_.lg] <;> rfl
      refine kk _ _ x A3 t2 D (RunAt.mono R3 (trS (same_new hD) (same_new ht2))) (fun _ => ⟨Cw.world_ok B.ok.ok (d := []) List.nodup_nil (fun _ z => nomatch z), Nat.zero_le _⟩) (fun c xs hc ht _ => hide_yes ⟨xs, hc, ht⟩) (fun cc o hc _ => ⟨same_new ht2 _ _ (same_new hD _ _ (s13 _ _ hc)), fun z => ?_⟩) upd_same (nn s13 hD) (R3.not_own hD) (by rw [upd_ne nt, upd_same, eo])
      have h2 := s12 _ _ hc
      rcases out3 cc z with rfl | hn
      · rw [hx] at h2
        cases h2
      · rw [none_mk hn] at h2
        cases h2
theorem ok_read_text (T : Txt w K mg) : Has P w K mg base 7 (He.fAd K ("read_text", none)) ["run", "source"] (sp_read_text K) := by
  have G_read_plan := ok_read_plan (P := P) (base := base) T
  have G_Run_init := ok_Run_init (P := P) (base := base) T
  refine Has.of (T.d_read_text) sc_read_text (fun _ _ _ _ _ _ us hl => match us, hl with | [_, _], _ => rfl) len_read_text (t_read_text K) (fun cdv A outer s H E hr => ?_) (pure_read_text T)
  have nd := sc_read_text.nd
  exact (pss_cons (ps_asg (pe_fn G_read_plan (hr.mono (by decide)) rfl T.g_read_plan (pa_cons (pw 1) pa_nil)) (pg_tup rfl (pgs_cons (pg_name (i := 2) nd rfl (Or.inl rfl)) (pgs_cons (pg_name (i := 3) nd rfl (Or.inl rfl)) (pgs_cons (pg_name (i := 4) nd rfl (Or.inl rfl)) pgs_nil)))))
      (pss_cons (ps_if (pt_cmpR op_ne (pw 4) (pe_gi rfl T.i_FINE) (nomark _)) (pss_one (ps_ret (pe_tup (pa_cons (pw 0) (pa_cons (pe_lst (pa_cons (pe_gi rfl T.i_BAD_NUMBER) (pa_cons (pw 3) (pa_cons (pw 4) pa_nil)))) pa_nil))))) pss_nil)
      (pss_cons (ps_if (pt_cmpR (op_eqE hr.units) (pe_fld (pw 2) rfl) (pe_lst pa_nil) (nomark _)) (pss_one (ps_ret (pe_tup (pa_cons (pw 0) (pa_cons (pe_lst (pa_cons (pe_gi rfl T.i_NO_ENTRY_POINT) pa_nil)) pa_nil))))) pss_nil)
      (pss_one (ps_ret (pe_tup (pa_cons (pe_mk T.k_Run G_Run_init (hr.mono (by decide)) rfl T.g_Run (pa_cons (pw 2) pa_nil)) (pa_cons (pe_lst (pa_cons (pe_callB call_len_seq (by rfl) T.b_len PySem.boot_len (pa_cons (pe_fld (pw 2) rfl) pa_nil)) (pa_cons (pe_callB call_len_seq (by rfl) T.b_len PySem.boot_len (pa_cons (pe_fld (pw 2) rfl) pa_nil)) (pa_cons (pe_callB call_len_seq (by rfl) T.b_len PySem.boot_len (pa_cons (pe_fld (pw 2) rfl) pa_nil)) pa_nil)))) pa_nil))))))))
end
end Cc
end

/-! ## CcCalls -/
section
set_option maxRecDepth 100000
set_option maxHeartbeats 4000000
/-! The calls are taken out of the list. -/
namespace Cc
open PySem PySem.Spec PyProof.Rows L2
open Cw (cntOf Flat)
/-- the parts of a call with a number, from a place on; nx: the place behind them -/
def PartsAt (ns : List Nat) (i n : Nat) (ps : List Nat) (nx : Nat) : Prop :=
  (n = 0 ∧ ns[i]? = some ps.length ∧ (ns.drop (i + 1)).take ps.length = ps ∧ nx = i + 1 + ps.length ∧ nx ≤ ns.length) ∨ (1 ≤ n ∧ n ≤ 12 ∧ (ns.drop i).take (cntOf n) = ps ∧ nx = i + cntOf n ∧ nx ≤ ns.length)
theorem flat_at {ns : List Nat} {i : Nat} {cs : List (Nat × List Nat)} (F : Flat (ns.drop i) cs) (hi : i < ns.length) : ∃ n ps cs3 nx, cs = (n, ps) :: cs3 ∧ ns[i]? = some n ∧ PartsAt ns (i + 1) n ps nx ∧ Flat (ns.drop nx) cs3 ∧ i < nx ∧ nx ≤ ns.length := by
  have hd : ns.drop i = ns[i] :: ns.drop (i + 1) := (List.getElem_cons_drop hi).symm
  have hg : ns[i]? = some ns[i] := List.getElem?_eq_getElem hi
  generalize ns[i] = n at hd hg
  rw [hd] at F
  generalize er : ns.drop (i + 1) = r at F
  have hl : r.length = ns.length - (i + 1) := by rw [← er, List.length_drop]
  cases F with
  | text h G =>
    rename_i k r0 cs3
    rw [List.length_cons] at hl
    have hk : (r0.take k).length = k := by rw [List.length_take]; exact Nat.min_eq_left h
    have e2 : ns.drop (i + 1 + 1) = r0 := by rw [← List.drop_drop, er] <;> rfl
    have e3 : ns[i + 1]? = some k := by
      have := congrArg (fun l : List Nat => l[0]?) er
      simpa using this
    refine ⟨0, r0.take k, cs3, i + 1 + 1 + k, rfl, hg, .inl ⟨rfl, by rw [hk]; exact e3, by rw [hk, e2], by rw [hk], by omega⟩, ?_, by omega, by omega⟩
    rw [← List.drop_drop, e2]
    exact G
  | op h1 h2 h3 G =>
    rename_i cs3
    refine ⟨n, r.take (cntOf n), cs3, i + 1 + cntOf n, rfl, hg, .inr ⟨h1, h2, by rw [er], rfl, by omega⟩, ?_, by omega, by omega⟩
    rw [← List.drop_drop, er]
    exact G
def sp_parts_at (K : PySem.W.Frag) : Sp := fun vs H Q _ => ∃ (p : Addr) (ns ps : List Nat) (i n nx : Nat), vs = [.ref p, .int (i : Int), .int (n : Int)] ∧ SqL K H p (byV ns) ∧ PartsAt ns i n ps nx ∧ ∀ d, H d = none → Q (.ref d) (upd H d (.lst (byV ps)))
def sp_place_behind (K : PySem.W.Frag) : Sp := fun vs H Q _ => ∃ (p : Addr) (ns ps : List Nat) (i n nx : Nat), vs = [.ref p, .int (i : Int), .int (n : Int)] ∧ SqL K H p (byV ns) ∧ PartsAt ns i n ps nx ∧ Q (.int (nx : Nat)) H
/-- the calls lie in a new list -/
def CallsAt (H0 H : Hp) (D : Addr) (cs : List (Nat × List Nat)) : Prop := ∃ ts : List Addr, H D = some (.lst (ts.map V.ref)) ∧ ts.length = cs.length ∧
  ∀ (i : Nat) n ps, cs[i]? = some (n, ps) → ∃ t q, ts[i]? = some t ∧ H t = some (.tup [.int (n : Nat), .ref q]) ∧ H q = some (.lst (byV ps)) ∧ H0 t = none ∧ H0 q = none ∧ t ≠ D ∧ q ≠ D
def sp_read_calls (K : PySem.W.Frag) : Sp := fun vs H Q _ => ∃ (p : Addr) (ns : List Nat) (cs : List (Nat × List Nat)), vs = [.ref p] ∧ SqL K H p (byV ns) ∧ Flat ns cs ∧ cs.length ≤ 1000 ∧ ∀ D H', H D = none → Same H H' → CallsAt H H' D cs → Q (.ref D) H'
theorem len_parts_at {K : PySem.W.Frag} : ∀ vs H Q E, sp_parts_at K vs H Q E → vs.length = (["numbers", "at", "number"] : List Str).length := by rintro _ _ _ _ ⟨_, _, _, _, _, _, rfl, _⟩; rfl
theorem len_place_behind {K : PySem.W.Frag} : ∀ vs H Q E, sp_place_behind K vs H Q E → vs.length = (["numbers", "at", "number"] : List Str).length := by rintro _ _ _ _ ⟨_, _, _, _, _, _, rfl, _⟩; rfl
theorem len_read_calls {K : PySem.W.Frag} : ∀ vs H Q E, sp_read_calls K vs H Q E → vs.length = (["numbers"] : List Str).length := by rintro _ _ _ _ ⟨_, _, _, rfl, _⟩; rfl
abbrev N_parts_at : List Str := ["numbers", "at", "number"]
theorem sc_parts_at : FnScope N_parts_at ["numbers", "at", "number"] (defScope s_parts_at) := ⟨rfl, rfl, rfl, by decide +kernel, rfl, by decide +kernel, by decide +kernel⟩
def t_parts_at (K : PySem.W.Frag) : TS := (tSeq (tIfS (tTest (tOp rEq (tVar 2) (tC (.int (0))))) (tRet (tSl (rSlL K) (tVar 0) (tPart (tOp rAddI (tVar 1) (tC (.int 1)))) (tPart (tOp rAddI (tOp rAddI (tVar 1) (tC (.int 1))) (tOp (rIxL K) (tVar 0) (tVar 1)))))) tNext)
  (tRet (tSl (rSlL K) (tVar 0) (tPart (tVar 1)) (tPart (tOp rAddI (tVar 1) (tOp (rIxT K) (tC (.ref (He.ga K "COUNTS"))) (tVar 2)))))))
abbrev N_place_behind : List Str := ["numbers", "at", "number"]
theorem sc_place_behind : FnScope N_place_behind ["numbers", "at", "number"] (defScope s_place_behind) := ⟨rfl, rfl, rfl, by decide +kernel, rfl, by decide +kernel, by decide +kernel⟩
def t_place_behind (K : PySem.W.Frag) : TS := (tSeq (tIfS (tTest (tOp rEq (tVar 2) (tC (.int (0))))) (tRet (tOp rAddI (tOp rAddI (tVar 1) (tC (.int 1))) (tOp (rIxL K) (tVar 0) (tVar 1)))) tNext)
  (tRet (tOp rAddI (tVar 1) (tOp (rIxT K) (tC (.ref (He.ga K "COUNTS"))) (tVar 2)))))
abbrev N_read_calls : List Str := ["numbers", "found", "at", "number"]
theorem sc_read_calls : FnScope N_read_calls ["numbers"] (defScope s_read_calls) := ⟨rfl, rfl, rfl, by decide +kernel, rfl, by decide +kernel, by decide +kernel⟩
def t_read_calls (K : PySem.W.Frag) : TS := (tSeq (tAsg (tLst tNil) (gName 1))
  (tSeq (tAsg (tC (.int 0)) (gName 2))
  (tSeq (tWhile (tTest (tOp rLtI (tVar 2) (tCB (rLenQ K) (tCons (tVar 0) tNil)))) (tSeq (tAsg (tOp (rIxL K) (tVar 0) (tVar 2)) (gName 3))
  (tSeq (tDrop (tBM K "list" rAppend (tVar 1) (tCons (tTup (tCons (tVar 3) (tCons (tCall (sp_parts_at K) [] E0 (tCons (tVar 0) (tCons (tOp rAddI (tVar 2) (tC (.int 1))) (tCons (tVar 3) tNil)))) tNil))) tNil)))
  (tAsg (tCall (sp_place_behind K) [] E0 (tCons (tVar 0) (tCons (tOp rAddI (tVar 2) (tC (.int 1))) (tCons (tVar 3) tNil)))) (gName 2)))))
  (tRet (tVar 1)))))
theorem byV_get {ns : List Nat} {i n : Nat} (h : ns[i]? = some n) : (byV ns)[i]? = some (V.int (n : Nat)) := by
  unfold byV
  rw [List.getElem?_map, h] <;> rfl
theorem counts_at {n : Nat} (h1 : 1 ≤ n) (h2 : n ≤ 12) : ([.int 0, .int 2, .int 1, .int 1, .int 1, .int 2, .int 1, .int 1, .int 1, .int 1, .int 1, .int 2, .int 2] : List V)[n]? = some (.int (cntOf n : Nat)) := by
  have hc : n = 1 ∨ n = 2 ∨ n = 3 ∨ n = 4 ∨ n = 5 ∨ n = 6 ∨ n = 7 ∨ n = 8 ∨ n = 9 ∨ n = 10 ∨ n = 11 ∨ n = 12 := by omega
  rcases hc with rfl | rfl | rfl | rfl | rfl | rfl | rfl | rfl | rfl | rfl | rfl | rfl <;> rfl
section
variable {σ : L2.St} {K : PySem.W.Frag} {H : Hp}
theorem sq_new {D : Ends} {i : Nat} {u : TS} (q : ∀ p, H p = none → u D (σ.set i (some (.ref p))) (upd H p (.lst []))) : tSeq (tAsg (tLst tNil) (gName i)) u D σ H := e_asg (e_lst va_nil rfl fun p hp => q p hp)
theorem sq_set {D : Ends} {i : Nat} {u : TS} {te : TE} {v : V} (h : Val te σ H v) (q : u D (σ.set i (some v)) H) : tSeq (tAsg te (gName i)) u D σ H := st_set h q
/-- xs[n:m] -/
theorem e_cut2 {te tl th : TE} {p : Addr} {xs : List V} {n m : Nat} {Q : VK} (h : Val te σ H (.ref p)) (hl : Val tl σ H (.int (n : Int))) (hh : Val th σ H (.int (m : Int))) (hx : SqL K H p xs) (hn : n ≤ m) (hm : m ≤ xs.length) (q : ∀ d, H d = none → Q (.ref d) (upd H d (.lst ((xs.drop n).take (m - n))))) : tSl (rSlL K) te (tPart tl) (tPart th) σ H Q := by
  refine h _ (hl _ ⟨(n : Int), rfl, hh _ ⟨(m : Int), rfl, p, xs, rfl, hx, fun d hd => ?_⟩⟩)
  have e : cutV xs (some (n : Int)) (some (m : Int)) = (xs.drop n).take (m - n) := by
    unfold cutV
    rw [HT.sIx_nat, HT.sIx_nat, Nat.min_eq_left hm, Nat.min_eq_left (Nat.le_trans hn hm)]
  rw [e]
  exact q d hd
theorem byV_cut {ns : List Nat} {n k : Nat} : ((byV ns).drop n).take k = byV ((ns.drop n).take k) := by
  unfold byV
  rw [List.map_take, List.map_drop]
end
section
variable {P : Program} {w : World} {K : PySem.W.Frag} {mg : Str → Option Value} {base : Heap}
theorem pure_parts_at (T : Txt w K mg) (vs : List V) (H : Hp) (Q : VK) (E : XK) (h : sp_parts_at K vs H Q E) : t_parts_at K { nx := fun _ H' => Q .non H', rt := Q } (start N_parts_at vs) H := by
  obtain ⟨p, ns, ps, i, n, nx, rfl, hp, hP, kk⟩ := h
  have lb : (byV ns).length = ns.length := List.length_map _
  refine st_ifd (p := V.int (n : Nat) = V.int 0) (ans_t (val_eq (val_var rfl) val_c)) (fun c => ?_) (fun c => ?_)
  · have c0 : n = 0 := Int.ofNat.inj (vi_eq.mp c)
    rcases hP with ⟨_, h1, h2, h3, h4⟩ | ⟨h1, _⟩
    · refine e_ret (e_cut2 (n := i + 1) (m := i + 1 + ps.length) (val_var (v := .ref p) rfl) (val_add (val_var (v := .int (i : Int)) rfl) val_c) (val_add (val_add (val_var (v := .int (i : Int)) rfl) val_c) (val_ix (n := i) (val_var (v := .ref p) rfl) (val_var (v := .int (i : Int)) rfl) hp rfl (byV_get h1))) hp (by omega) (by rw [lb]; omega) fun d hd => ?_)
      rw [byV_cut, show i + 1 + ps.length - (i + 1) = ps.length by omega, h2]
      exact kk d hd
    · omega
  · have c0 : n ≠ 0 := fun z => c (by rw [z] <;> rfl)
    rcases hP with ⟨h1, _⟩ | ⟨h1, h2, h3, h4, h5⟩
    · exact absurd h1 c0
    · refine e_ret (e_cut2 (n := i) (m := i + cntOf n) (val_var (v := .ref p) rfl) (val_var (v := .int (i : Int)) rfl) (val_add (val_var (v := .int (i : Int)) rfl) (val_ixT (n := n) val_c (val_var (v := .int (n : Int)) rfl) (T.t_COUNTS H) rfl (counts_at h1 h2))) hp (by omega) (by rw [lb]; omega) fun d hd => ?_)
      rw [byV_cut, show i + cntOf n - i = cntOf n by omega, h3]
      exact kk d hd
theorem pure_place_behind (T : Txt w K mg) (vs : List V) (H : Hp) (Q : VK) (E : XK) (h : sp_place_behind K vs H Q E) : t_place_behind K { nx := fun _ H' => Q .non H', rt := Q } (start N_place_behind vs) H := by
  obtain ⟨p, ns, ps, i, n, nx, rfl, hp, hP, kk⟩ := h
  refine st_ifd (p := V.int (n : Nat) = V.int 0) (ans_t (val_eq (val_var rfl) val_c)) (fun c => ?_) (fun c => ?_)
  · have c0 : n = 0 := Int.ofNat.inj (vi_eq.mp c)
    rcases hP with ⟨_, h1, h2, h3, h4⟩ | ⟨h1, _⟩
    · subst h3
      exact st_ret (val_add (val_add (val_var (v := .int (i : Int)) rfl) val_c) (val_ix (n := i) (val_var (v := .ref p) rfl) (val_var (v := .int (i : Int)) rfl) hp rfl (byV_get h1))) kk
    · omega
  · have c0 : n ≠ 0 := fun z => c (by rw [z] <;> rfl)
    rcases hP with ⟨h1, _⟩ | ⟨h1, h2, h3, h4, h5⟩
    · exact absurd h1 c0
    · subst h4
      exact st_ret (val_add (val_var (v := .int (i : Int)) rfl) (val_ixT (n := n) val_c (val_var (v := .int (n : Int)) rfl) (T.t_COUNTS H) rfl (counts_at h1 h2))) kk
theorem p2_e {σ : L2.St} {H : Hp} {t1 t2 : TE} {x : V} {Q : VK} (h1 : Val t1 σ H x) (h2 : t2 σ H fun u H2 => [x, u].length ≤ sizeLine ∧ ∀ p, H2 p = none → Q (.ref p) (upd H2 p (.tup [x, u]))) : tTup (tCons t1 (tCons t2 tNil)) σ H Q := h1 _ h2
/-- one call more in the list -/
theorem CallsAt.snoc {H0 H : Hp} {D t q : Addr} {cs : List (Nat × List Nat)} {n : Nat} {ps : List Nat} (h : CallsAt H0 H D cs) (hq : H q = some (.lst (byV ps))) (ht : H t = some (.tup [.int (n : Nat), .ref q])) (nq : H0 q = none) (nt : H0 t = none) (hqD : q ≠ D) (htD : t ≠ D) : ∃ xs, H D = some (.lst xs) ∧ xs.length = cs.length ∧ CallsAt H0 (upd H D (.lst (xs ++ [.ref t]))) D (cs ++ [(n, ps)]) := by
  obtain ⟨ts, h1, h2, h3⟩ := h
  refine ⟨_, h1, by rw [List.length_map, h2], ts ++ [t], by rw [upd_same, List.map_append] <;> rfl, by rw [List.length_append, List.length_append, h2] <;> rfl, fun i m zs hi => ?_⟩
  rcases snoc_get hi with ⟨_, hi⟩ | ⟨e, e2⟩
  · obtain ⟨t0, q0, e1, e2, e3, e4, e5, e6, e7⟩ := h3 i m zs hi
    exact ⟨t0, q0, snoc_old e1, by rw [upd_ne e6]; exact e2, by rw [upd_ne e7]; exact e3, e4, e5, e6, e7⟩
  · obtain ⟨rfl, rfl⟩ := Prod.mk.inj e2
    exact ⟨t, q, snoc_at (by rw [h2, e]), by rw [upd_ne htD]; exact ht, by rw [upd_ne hqD]; exact hq, nt, nq, htD, hqD⟩
theorem CallsAt.mono {H0 H H' : Hp} {D : Addr} {cs : List (Nat × List Nat)} (h : CallsAt H0 H D cs) (s : Same H H') : CallsAt H0 H' D cs := by
  obtain ⟨ts, h1, h2, h3⟩ := h
  refine ⟨ts, s _ _ h1, h2, fun i m zs hi => ?_⟩
  obtain ⟨t0, q0, e1, e2, e3, e4, e5, e6, e7⟩ := h3 i m zs hi
  exact ⟨t0, q0, e1, s _ _ e2, s _ _ e3, e4, e5, e6, e7⟩
theorem same_noneD {H H' : Hp} {d : Addr} (s : Same H H') (hd : H' d = none) : H d = none := by
  cases e : H d with
  | none => rfl
  | some o =>
    rw [s _ _ e] at hd
    cases hd
theorem pure_read_calls (T : Txt w K mg) (vs : List V) (H : Hp) (Q : VK) (E : XK) (h : sp_read_calls K vs H Q E) : t_read_calls K { nx := fun _ H' => Q .non H', rt := Q } (start N_read_calls vs) H := by
  obtain ⟨p, ns, cs, rfl, hp, hF, hcs, kk⟩ := h
  have lb : (byV ns).length = ns.length := List.length_map _
  refine sq_new fun D hD => sq_set (v := .int 0) val_c ?_
  have s1 : Same H (upd H D (.lst [])) := same_new hD
  refine ⟨fun m σ' H' => ∃ (y : Option V) (i : Nat) (cs1 cs2 : List (Nat × List Nat)), σ' = [some (.ref p), some (.ref D), some (.int (i : Nat)), y] ∧ m = ns.length - i ∧ i ≤ ns.length ∧ Flat (ns.drop i) cs2 ∧ cs1 ++ cs2 = cs ∧ Same H H' ∧ CallsAt H H' D cs1, ⟨_, none, 0, [], cs, rfl, rfl, Nat.zero_le _, hF, rfl, s1, [], upd_same, rfl, fun i n ps h => by cases h⟩, ?_⟩
  rintro m σ' H1 ⟨y, i, cs1, cs2, rfl, rfl, hi, F, ec, s, C⟩
  have hp1 : SqL K H1 p (byV ns) := Same.seq s hp
  refine ans_t (val_lt (val_var (v := .int (i : Nat)) rfl) (val_len (val_var (v := .ref p) rfl) hp1)) _ ?_
  rw [lb]
  by_cases c : i < ns.length
  · rw [if_pos (decide_eq_true (by omega : (i : Int) < (ns.length : Nat)))]
    obtain ⟨n, ps, cs3, nx, rfl, hn, hP, F3, hlt, hle⟩ := flat_at F c
    refine ⟨fun σ' H' => ∃ (y : Option V) (j : Nat) (cs1 cs2 : List (Nat × List Nat)), i < j ∧ σ' = [some (.ref p), some (.ref D), some (.int (j : Nat)), y] ∧ j ≤ ns.length ∧ Flat (ns.drop j) cs2 ∧ cs1 ++ cs2 = cs ∧ Same H H' ∧ CallsAt H H' D cs1, fun σ' H' ⟨y, j, c1, c2, h0, h1, h2, h3, h4, h5, h6⟩ => ⟨ns.length - j, by omega, y, j, c1, c2, h1, rfl, h2, h3, h4, h5, h6⟩, ?_⟩
    refine st_set (v := .int (n : Nat)) (val_ix (n := i) (val_var (v := .ref p) rfl) (val_var (v := .int (i : Nat)) rfl) hp1 rfl (byV_get hn)) ?_
    obtain ⟨xs, hxs, _⟩ := id C
    refine st_appE (val_var (v := .ref D) rfl) hxs ?_
    refine p2_e (x := .int (n : Nat)) (val_var rfl) (e_fn (va_cons (val_var (v := .ref p) rfl) (va_cons (val_add (val_var (v := .int (i : Nat)) rfl) val_c) (va_cons (val_var (v := .int (n : Nat)) rfl) va_nil))) ⟨p, ns, ps, i + 1, n, nx, rfl, hp1, hP, fun q hq => ⟨Nat.le_trans (show 2 ≤ 1000 by decide) (by decide), fun t ht => ?_⟩⟩)
    have hqn := same_noneD s hq
    have s2 : Same H1 (upd H1 q (.lst (byV ps))) := same_new hq
    have htn := same_noneD (trS s s2) ht
    have s3 : Same H1 (upd (upd H1 q (.lst (byV ps))) t (.tup [.int (n : Nat), .ref q])) := trS s2 (same_new ht)
    have nqt : q ≠ t := fun z => by rw [← z, upd_same] at ht; cases ht
    have nqD : q ≠ D := fun z => by rw [z, hxs] at hq; cases hq
    have ntD : t ≠ D := fun z => by rw [z, s2 _ _ hxs] at ht; cases ht
    obtain ⟨ys, hys, hyl, C4⟩ := (C.mono s3).snoc (n := n) (ps := ps) (by rw [upd_ne nqt, upd_same]) upd_same hqn htn nqD ntD
    have hyl2 : ys.length < sizeLine := by
      rw [hyl]
      have h1 : cs1.length ≤ cs.length := by rw [← ec, List.length_append]; omega
      exact Nat.lt_of_le_of_lt (Nat.le_trans h1 hcs) (by decide)
    refine ⟨D, ys, _, rfl, rfl, hys, hyl2, ?_⟩
    have s4 : Same H (upd (upd (upd H1 q (.lst (byV ps))) t (.tup [.int (n : Nat), .ref q])) D (.lst (ys ++ [.ref t]))) := fun b o hb => by
      have nb : b ≠ D := fun z => by rw [z, hD] at hb; cases hb
      rw [upd_ne nb]
      exact s3 _ _ (s _ _ hb)
    refine e_asg (e_fn (va_cons (val_var (v := .ref p) rfl) (va_cons (val_add (val_var (v := .int (i : Nat)) rfl) val_c) (va_cons (val_var (v := .int (n : Nat)) rfl) va_nil))) ⟨p, ns, ps, i + 1, n, nx, rfl, Same.seq s4 hp, hP, ?_⟩)
    exact ⟨_, nx, cs1 ++ [(n, ps)], cs3, hlt, rfl, hle, F3, by rw [List.append_assoc]; exact ec, s4, C4⟩
  · rw [if_neg (fun z => by have z := of_decide_eq_true z; omega)]
    have e0 : ns.drop i = [] := List.drop_of_length_le (by omega)
    rw [e0] at F
    cases F
    rw [List.append_nil] at ec
    subst ec
    exact st_ret (val_var (v := .ref D) rfl) (kk D H1 hD s C)
theorem ok_parts_at (T : Txt w K mg) : Has P w K mg base 1 (He.fAd K ("parts_at", none)) ["numbers", "at", "number"] (sp_parts_at K) := by
  refine Has.of (T.d_parts_at) sc_parts_at (fun _ _ _ _ _ _ us hl => match us, hl with | [_, _, _], _ => rfl) len_parts_at (t_parts_at K) (fun cdv A outer s H E hr => ?_) (pure_parts_at T)
  have nd := sc_parts_at.nd
  exact (pss_cons (ps_if (pt_cmpR op_eq (pw 2) (pe_gi rfl T.i_TEXT) (nomark _)) (pss_one (ps_ret (pe_slice sl_list (pw 0) (po_some (pe_op op_add (pw 1) pe_int)) (po_some (pe_op op_add (pe_op op_add (pw 1) pe_int) (pe_ix ix_list (pw 0) (pw 1) (fun _ _ => rfl))))))) pss_nil)
      (pss_one (ps_ret (pe_slice sl_list (pw 0) (po_some (pw 1)) (po_some (pe_op op_add (pw 1) (pe_ix ix_tup (pe_gr rfl T.g_COUNTS) (pw 2) (fun _ _ => rfl))))))))
theorem ok_place_behind (T : Txt w K mg) : Has P w K mg base 1 (He.fAd K ("place_behind", none)) ["numbers", "at", "number"] (sp_place_behind K) := by
  refine Has.of (T.d_place_behind) sc_place_behind (fun _ _ _ _ _ _ us hl => match us, hl with | [_, _, _], _ => rfl) len_place_behind (t_place_behind K) (fun cdv A outer s H E hr => ?_) (pure_place_behind T)
  have nd := sc_place_behind.nd
  exact (pss_cons (ps_if (pt_cmpR op_eq (pw 2) (pe_gi rfl T.i_TEXT) (nomark _)) (pss_one (ps_ret (pe_op op_add (pe_op op_add (pw 1) pe_int) (pe_ix ix_list (pw 0) (pw 1) (fun _ _ => rfl))))) pss_nil)
      (pss_one (ps_ret (pe_op op_add (pw 1) (pe_ix ix_tup (pe_gr rfl T.g_COUNTS) (pw 2) (fun _ _ => rfl))))))
theorem ok_read_calls (T : Txt w K mg) : Has P w K mg base 2 (He.fAd K ("read_calls", none)) ["numbers"] (sp_read_calls K) := by
  have G_parts_at := ok_parts_at (P := P) (base := base) T
  have G_place_behind := ok_place_behind (P := P) (base := base) T
  refine Has.of (T.d_read_calls) sc_read_calls (fun _ _ _ _ _ _ us hl => match us, hl with | [_], _ => rfl) len_read_calls (t_read_calls K) (fun cdv A outer s H E hr => ?_) (pure_read_calls T)
  have nd := sc_read_calls.nd
  exact (pss_cons (ps_set (i := 1) nd rfl (Or.inl rfl) (pe_lst pa_nil))
      (pss_cons (ps_set (i := 2) nd rfl (Or.inl rfl) pe_int)
      (pss_cons (ps_while PassesOwn.never (pt_cmpR op_lt (pw 2) (pe_callB call_len_seq (by rfl) T.b_len PySem.boot_len (pa_cons (pw 0) pa_nil)) (nomark _)) (pss_cons (ps_set (i := 3) nd rfl (Or.inl rfl) (pe_ix ix_list (pw 0) (pw 2) (fun _ _ => rfl)))
      (pss_cons (ps_expr (pe_bm PySem.F.plainAttrs_list PySem.F.slot_list_append PySem.F.type_list_append mt_append (pw 1) (pa_cons (pe_tup (pa_cons (pw 3) (pa_cons (pe_fn G_parts_at (hr.mono (by decide)) rfl T.g_parts_at (pa_cons (pw 0) (pa_cons (pe_op op_add (pw 2) pe_int) (pa_cons (pw 3) pa_nil)))) pa_nil))) pa_nil)))
      (pss_one (ps_set (i := 2) nd rfl (Or.inl rfl) (pe_fn G_place_behind (hr.mono (by decide)) rfl T.g_place_behind (pa_cons (pw 0) (pa_cons (pe_op op_add (pw 2) pe_int) (pa_cons (pw 3) pa_nil)))))))))
      (pss_one (ps_ret (pw 1))))))
end
end Cc
end

/-! ## CcMain -/
section
set_option maxRecDepth 100000
set_option maxHeartbeats 4000000
/-! The answers. -/
namespace Cc
open PySem PySem.Spec PyProof.Rows L2
open Cw (rawOf rawsOf waitsOf occsOf GOk opOf cntOf Flat toldOf)
def sp_answers (K : PySem.W.Frag) : Sp := fun vs H Q _ => ∃ (p : Addr) (ns : List Nat) (cs : List (Nat × List Nat)), vs = [.ref p] ∧ SqL K H p (byV ns) ∧ Flat ns cs ∧ cs.length ≤ 40 ∧ (∀ c ∈ cs, c.1 = 0 → c.2.length ≤ 4000) ∧
  ∀ H' D, H' D = some (.lst ((toldOf Gp27.init cs).map V.int)) → Q (.ref D) H'
theorem len_answers {K : PySem.W.Frag} : ∀ vs H Q E, sp_answers K vs H Q E → vs.length = (["calls"] : List Str).length := by rintro _ _ _ _ ⟨_, _, _, rfl, _⟩; rfl
abbrev N_answers : List Str := ["calls", "found", "run", "number", "parts", "told"]
theorem sc_answers : FnScope N_answers ["calls"] (defScope s_answers) := ⟨rfl, rfl, rfl, by decide +kernel, rfl, by decide +kernel, by decide +kernel⟩
def t_answers (K : PySem.W.Frag) : TS := (tSeq (tAsg (tLst tNil) (gName 1))
  (tSeq (tAsg (tMake (cRun K) (sp_Run_init K) [] E0 (tCons (tMake (cPlan K) (sp_Plan_init K) [] E0 tNil) tNil)) (gName 2))
  (tSeq (tFor (iList K (tCall (sp_read_calls K) [] E0 (tCons (tVar 0) tNil))) (gTup K 2 (gCons (gName 3) (gCons (gName 4) gNil))) (tSeq (tIfS (tTest (tOp rEq (tVar 3) (tC (.int (0))))) (tAsg (tCall (sp_read_text K) [] E0 (tCons (tVar 2) (tCons (tVar 4) tNil))) (gTup K 2 (gCons (gName 2) (gCons (gName 5) gNil)))) (tAsg (tCall (sp_answer_of K) [] E0 (tCons (tVar 2) (tCons (tVar 3) (tCons (tVar 4) tNil)))) (gName 5)))
  (tSeq (tDrop (tBM K "list" rAppend (tVar 1) (tCons (tCB (rLenQ K) (tCons (tVar 5) tNil)) tNil)))
  (tDrop (tBM K "list" rExtend (tVar 1) (tCons (tVar 5) tNil))))))
  (tRet (tVar 1)))))
section
variable {K : PySem.W.Frag} {F H : Hp} {a L : Addr} {A : Ad} {w : Gp27.World} {raws : List Raw} {wt oc : List Int} {o : HO}
/-- a store at what is neither the run's own nor kept -/
theorem RunAt.off (R : RunAt K F H a A w raws wt oc) (hF : F L = none) (hO : ¬ Own a A L) : RunAt K F (upd H L o) a A w raws wt oc := by
  have ne : ∀ {b : Addr}, Own a A b → b ≠ L := fun h z => hO (by rw [← z]; exact h)
  have m7 : ∀ {b : Addr}, b ∈ [A.rq, A.lk, A.op, A.dn, A.fa, A.wa, A.oc] → b ≠ L := fun h => ne (.inr (.inl h))
  refine ⟨R.pl, fun b u e => ?_, R.out, ?_, ?_, ?_, ?_, ?_, ?_, ?_, ?_, R.lrs, R.lls, R.lwt, R.loc, fun i p r h1 h2 => ?_, fun i p l h1 h2 => ?_, R.nd, R.ndr, R.ndl⟩
  · rw [upd_ne (fun z => by rw [z, hF] at e; cases e)]
    exact R.fz b u e
  · obtain ⟨d, e⟩ := R.run
    exact ⟨d, by rw [upd_ne (ne (.inl rfl))]; exact e⟩
  · rw [upd_ne (m7 (by simp))]; exact R.rq
  · rw [upd_ne (m7 (by simp))]; exact R.lk
  · rw [upd_ne (m7 (by simp))]; exact R.op
  · rw [upd_ne (m7 (by simp))]; exact R.dn
  · rw [upd_ne (m7 (by simp))]; exact R.fa
  · rw [upd_ne (m7 (by simp))]; exact R.wa
  · rw [upd_ne (m7 (by simp))]; exact R.oc_
  · obtain ⟨d, e⟩ := R.rqs i p r h1 h2
    exact ⟨d, by rw [upd_ne (ne (.inr (.inr (.inl (List.mem_of_getElem? h1)))))]; exact e⟩
  · obtain ⟨d, e⟩ := R.lks i p l h1 h2
    exact ⟨d, by rw [upd_ne (ne (.inr (.inr (.inr (List.mem_of_getElem? h1)))))]; exact e⟩
end
theorem op_nt {n : Nat} {ps b : List Nat} (h1 : n ≠ 0) (h2 : n ≤ 12) : opOf n ps ≠ .text b := by
  have hc : n = 1 ∨ n = 2 ∨ n = 3 ∨ n = 4 ∨ n = 5 ∨ n = 6 ∨ n = 7 ∨ n = 8 ∨ n = 9 ∨ n = 10 ∨ n = 11 ∨ n = 12 := by omega
  rcases hc with rfl | rfl | rfl | rfl | rfl | rfl | rfl | rfl | rfl | rfl | rfl | rfl <;> exact fun z => nomatch z
theorem Tn.more {xs : List Int} {k : Int} {l : List Int} (h : Tn xs) (hk : k < 97) : Tn (xs ++ [k] ++ l) := fun x hx => by
  cases xs with
  | nil =>
    have : k = x := Option.some.inj hx
    omega
  | cons y ys => exact h x hx
/-- the world behind some calls -/
def worldBy (cs : List (Nat × List Nat)) : Gp27.World := cs.foldl (fun w c => (Gp27.step w (opOf c.1 c.2)).1) Gp27.init
theorem told_more {cs : List (Nat × List Nat)} {i n : Nat} {ps : List Nat} (h : cs[i]? = some (n, ps)) : toldOf Gp27.init (cs.take (i + 1)) = toldOf Gp27.init (cs.take i) ++ [((Gp27.step (worldBy (cs.take i)) (opOf n ps)).2.length : Int)] ++ (Gp27.step (worldBy (cs.take i)) (opOf n ps)).2 := by
  rw [take_more h, Cw.toldOf_append, List.append_assoc]
  show _ ++ (((Gp27.step (worldBy (cs.take i)) (opOf n ps)).2.length : Int) :: (Gp27.step (worldBy (cs.take i)) (opOf n ps)).2 ++ []) = _
  rw [List.append_nil] <;> rfl
theorem world_more {cs : List (Nat × List Nat)} {i n : Nat} {ps : List Nat} (h : cs[i]? = some (n, ps)) : worldBy (cs.take (i + 1)) = (Gp27.step (worldBy (cs.take i)) (opOf n ps)).1 := by
  unfold worldBy
  rw [take_more h, List.foldl_append] <;> rfl
theorem init_ok : GOk Gp27.init := ⟨Cw.world_ok Cw.TOk.empty.ok (d := []) List.nodup_nil (fun _ z => nomatch z), Nat.zero_le _⟩
theorem mk_b {C : Addr} {sp : Sp} {te : TE} {E : XK} {σ : L2.St} {H : Hp} {Q : VK} (h : te σ H fun v H1 => ∀ x dx, H1 x = none → H1 dx = none → dx ≠ x → sp [.ref x, v] (upd (upd H1 dx (.own x)) x (.ins C dx [])) (fun u H2 => u = .non ∧ Q (.ref x) H2) E) : tMake C sp [] E (tCons te tNil) σ H Q := h
theorem st_ext {σ : L2.St} {K : PySem.W.Frag} {H : Hp} {D : Ends} {to te : TE} {L T : Addr} {xs zs : List V} (h1 : Val to σ H (.ref L)) (h2 : Val te σ H (.ref T)) (hL : H L = some (.lst xs)) (hT : H T = some (.lst zs)) (hl : xs.length + zs.length ≤ sizeLine) (q : D.nx σ (upd H L (.lst (xs ++ zs)))) : tDrop (tBM K "list" rExtend to (tCons te tNil)) D σ H :=
  h1 _ ⟨.inl ⟨rfl, _, SqL.of hL⟩, h2 _ ⟨L, T, xs, zs, rfl, rfl, hL, hT, hl, q⟩⟩
theorem sq_asg {σ : L2.St} {H : Hp} {D : Ends} {i : Nat} {u : TS} {te : TE} (h : te σ H fun v H1 => u D (σ.set i (some v)) H1) : tSeq (tAsg te (gName i)) u D σ H := h
section
variable {P : Program} {w : World} {K : PySem.W.Frag} {mg : Str → Option Value} {base : Heap}
/-- what holds ahead of a turn -/
def AnsI (K : PySem.W.Frag) (p L : Addr) (cs : List (Nat × List Nat)) (a0 : Addr) (A0 : Ad) (H0 : Hp) (i : Nat) (σ' : L2.St) (H' : Hp) : Prop :=
  ∃ (a : Addr) (A : Ad) (F : Hp) (y3 y4 y5 : Option V), σ' = [some (.ref p), some (.ref L), some (.ref a), y3, y4, y5] ∧ RunW K F H' a A (worldBy (cs.take i)) ∧ GOk (worldBy (cs.take i)) ∧ F L = none ∧ ¬ Own a A L ∧ H' L = some (.lst ((toldOf Gp27.init (cs.take i)).map V.int)) ∧
    Tn (toldOf Gp27.init (cs.take i)) ∧ (toldOf Gp27.init (cs.take i)).length ≤ 10 * i ∧ ∀ c o, H0 c = some o → ¬ Own a0 A0 c → c ≠ L → H' c = some o ∧ ¬ Own a A c
theorem turn_end {p L a0 : Addr} {A0 : Ad} {H0 : Hp} {cs : List (Nat × List Nat)} {i n : Nat} {ps : List Nat} {F5 H5 : Hp} {a5 : Addr} {A5 : Ad} {T q : Addr} {D : Ends} (hcs : cs.length ≤ 40) (hc : cs[i]? = some (n, ps)) (G : GOk (worldBy (cs.take i))) (tn : Tn (toldOf Gp27.init (cs.take i))) (tl : (toldOf Gp27.init (cs.take i)).length ≤ 10 * i)
    (R5 : RunW K F5 H5 a5 A5 (Gp27.step (worldBy (cs.take i)) (opOf n ps)).1) (G5 : GOk (Gp27.step (worldBy (cs.take i)) (opOf n ps)).1) (f5 : F5 L = none) (o5 : ¬ Own a5 A5 L) (hL : H5 L = some (.lst ((toldOf Gp27.init (cs.take i)).map V.int))) (hT : H5 T = some (.lst ((Gp27.step (worldBy (cs.take i)) (opOf n ps)).2.map V.int))) (nT : T ≠ L)
    (keep : ∀ c o, H0 c = some o → ¬ Own a0 A0 c → c ≠ L → H5 c = some o ∧ ¬ Own a5 A5 c) (nx : ∀ σ' H', AnsI K p L cs a0 A0 H0 (i + 1) σ' H' → D.nx σ' H') :
    tSeq (tDrop (tBM K "list" rAppend (tVar 1) (tCons (tCB (rLenQ K) (tCons (tVar 5) tNil)) tNil))) (tDrop (tBM K "list" rExtend (tVar 1) (tCons (tVar 5) tNil))) D [some (.ref p), some (.ref L), some (.ref a5), some (.int (n : Nat)), some (.ref q), some (.ref T)] H5 := by
  have hi : i < cs.length := (List.getElem?_eq_some_iff.mp hc).1
  have sl := Cw.step_len (G.ok.hs.ne) (opOf n ps)
  have sp := Cw.step_pos (G.ok.hs.ne) (opOf n ps)
  have tm := told_more hc
  rw [← world_more hc] at R5 G5
  generalize (Gp27.step (worldBy (cs.take i)) (opOf n ps)).2 = out at hT sl sp tm
  generalize toldOf Gp27.init (cs.take i) = old at tn tl hL tm
  have z4 : 4000 ≤ sizeLine := by decide
  refine st_app (v := .int (out.length : Nat)) (val_var (v := .ref L) rfl) (val_to (val_len (val_var (v := .ref T) rfl) (SqL.of hT)) (by rw [List.length_map])) hL (by rw [List.length_map]; omega) ?_
  refine st_ext (L := L) (T := T) (val_var rfl) (val_var rfl) upd_same (by rw [upd_ne nT]; exact hT) (by rw [List.length_append, List.length_map, List.length_map]; show old.length + 1 + out.length ≤ sizeLine; omega) ?_
  refine nx _ _ ⟨a5, A5, F5, _, _, _, rfl, RunAt.off (RunAt.off R5 f5 o5) f5 o5, G5, f5, o5, ?_, ?_, ?_, fun c o h1 h2 h3 => ?_⟩
  · rw [upd_same, tm, List.map_append, List.map_append] <;> rfl
  · rw [tm]
    exact tn.more sp
  · rw [tm, List.length_append, List.length_append]
    show old.length + 1 + out.length ≤ 10 * (i + 1)
    omega
  · rw [upd_ne h3, upd_ne h3]
    exact keep c o h1 h2 h3
theorem pure_answers (T : Txt w K mg) (vs : List V) (H : Hp) (Q : VK) (E : XK) (h : sp_answers K vs H Q E) : t_answers K { nx := fun _ H' => Q .non H', rt := Q } (start N_answers vs) H := by
  obtain ⟨p, ns, cs, rfl, hp, hF, hcs, hb, kk⟩ := h
  have good := hF.good
  refine sq_new fun L hL => sq_asg (mk_b (e_mk va_nil fun pl dx hpl hdx ndx => ⟨pl, dx, rfl, upd_same, fun H2 sv ak gt hP lv lk lg hnd nv nk ng f2 => ⟨rfl, fun x dx2 hx hdx2 ndx2 => ?_⟩⟩))
  have hL1 : upd H L (.lst []) L = some (.lst (([] : List Int).map V.int)) := upd_same
  have sH : Same H (upd H L (.lst [])) := same_new hL
  generalize upd H L (.lst []) = H1 at hpl hdx nv nk ng f2 hL1 sH
  have s2 : Same H1 H2 := same_mk hpl hdx f2
  have nv' := none_mk nv
  have nk' := none_mk nk
  have ng' := none_mk ng
  have P0 : PlanAt K H2 pl ⟨sv, ak, gt, [], [], [], []⟩ Gp27.empty_ [] := ⟨hP, lv, lk, lg, rfl, rfl, rfl, rfl, rfl, fun i s h => (by cases h), fun i s h => (by cases h), fun i s h => (by cases h)⟩
  refine ⟨x, dx2, pl, hide (fun c => ∃ xs, H1 c = some (.lst (xs.map V.int)) ∧ Tn xs) H2, _, Gp27.empty_, rfl, upd_same, hide_none hx, fun b o e => ?_, P0.hide (fun c ⟨xs, hc, ht⟩ => ⟨xs, s2 _ _ hc, ht⟩) (fun c ⟨xs, hc, _⟩ z => ?_) Cw.Named.empty, Nat.zero_le _, Nat.zero_le _, fun H3 A3 _ R3 f3 out3 => ⟨rfl, ?_⟩⟩
  · have e := hide_sub e
    rw [upd_ne (fun z => by rw [z, hx] at e; cases e), upd_ne (fun z => by rw [z, hdx2] at e; cases e)]
    exact e
  · rcases z with z | z | z | z | z
    · rw [z] at hc; rw [hc] at nv'; cases nv'
    · rw [z] at hc; rw [hc] at nk'; cases nk'
    · rw [z] at hc; rw [hc] at ng'; cases ng'
    · cases z
    · cases z
  have s3 : Same H2 H3 := same_mk hx hdx2 f3
  have s13 : Same H1 H3 := trS s2 s3
  have nO : ∀ c o, H1 c = some o → ¬ Own x A3 c := fun c o hc z => by
    have h2 := s2 _ _ hc
    rcases out3 c z with rfl | hn
    · rw [hx] at h2
      cases h2
    · rw [none_mk hn] at h2
      cases h2
  have tn0 : Tn [] := fun _ z => nomatch z
  have fL : hide (fun c => ∃ xs, H1 c = some (.lst (xs.map V.int)) ∧ Tn xs) H2 L = none := hide_yes ⟨[], hL1, tn0⟩
  generalize hide (fun c => ∃ xs, H1 c = some (.lst (xs.map V.int)) ∧ Tn xs) H2 = F3 at R3 fL
  refine e_fn (va_cons (val_var (v := .ref p) rfl) va_nil) ⟨p, ns, cs, rfl, Same.seq (trS sH s13) hp, hF, by omega, fun D H4 hD s4 C => ?_⟩
  obtain ⟨ts, c1, c2, c3⟩ := C
  refine ⟨D, rfl, ⟨_, SqL.of c1⟩, ?_⟩
  have hL3 := s13 _ _ hL1
  have R4 := RunAt.mono R3 s4
  have nDL : D ≠ L := fun z => by rw [z, hL3] at hD; cases hD
  have nDO : ¬ Own x A3 D := R3.not_own hD
  refine for_list (K := K) (a := D) (xs := ts.map V.ref) (AnsI K p L cs x A3 H4) ⟨x, A3, F3, none, none, none, rfl, R4, init_ok, fL, nO L _ hL1, s4 _ _ hL3, tn0, Nat.le_refl _, fun c o h1 h2 _ => ⟨h1, h2⟩⟩ ?_ ?_ ?_
  · rintro i σ' H' _ ⟨a, A, F, y3, y4, y5, _, _, _, _, _, _, _, _, keep⟩
    exact SqL.of (keep D _ c1 nDO nDL).1
  · rintro i y σ' H' hi ⟨a, A, F, y3, y4, y5, rfl, R, G, f, oL, hLL, tn, tl, keep⟩
    have hil : i < cs.length := by
      have := (List.getElem?_eq_some_iff.mp hi).1
      rw [List.length_map] at this
      omega
    have ec := List.getElem?_eq_getElem hil
    generalize cs[i] = c at ec
    obtain ⟨n, ps⟩ := c
    obtain ⟨t, q, e1, e2, e3, e4, e5, e6, e7⟩ := c3 i n ps ec
    rw [List.getElem?_map, e1] at hi
    cases hi
    obtain ⟨g1, g2⟩ := good _ (List.mem_of_getElem? ec)
    dsimp only at g1 g2
    have ntL : t ≠ L := fun z => by rw [z, hL3] at e4; cases e4
    have nqL : q ≠ L := fun z => by rw [z, hL3] at e5; cases e5
    obtain ⟨ht, _⟩ := keep t _ e2 (R3.not_own e4) ntL
    obtain ⟨hq, oq⟩ := keep q _ e3 (R3.not_own e5) nqL
    refine ⟨t, _, rfl, SqT.of ht, rfl, _, _, rfl, _, _, rfl, rfl, ?_⟩
    refine st_ifd (p := V.int (n : Nat) = V.int 0) (ans_t (val_eq (val_var rfl) val_c)) (fun c => ?_) (fun c => ?_)
    · have c0 : n = 0 := Int.ofNat.inj (vi_eq.mp c)
      subst c0
      have hl := hb _ (List.mem_of_getElem? ec) rfl
      dsimp only at hl
      refine e_asg (e_fn (va_cons (val_var (v := .ref a) rfl) (va_cons (val_var (v := .ref q) rfl) va_nil)) ⟨a, q, F, A, _, ps, rfl, R, hq, by omega, fun H5 F5 a5 A5 u T5 R5 g5 h5 k5 hu hT0 hT1 hT2 => ?_⟩)
      refine ⟨u, _, rfl, SqT.of hu, rfl, _, _, rfl, _, _, rfl, rfl, ?_⟩
      obtain ⟨l5, o5⟩ := k5 L _ hLL oL
      exact turn_end hcs ec G tn tl R5 (g5 G) (h5 L _ hLL tn f) o5 l5 hT2 (fun z => by rw [z, hLL] at hT0; cases hT0) (fun c o h1 h2 h3 => k5 c o (keep c o h1 h2 h3).1 (keep c o h1 h2 h3).2) fun _ _ z => z
    · have c0 : n ≠ 0 := fun z => c (by rw [z] <;> rfl)
      refine e_asg (e_fn (va_cons (val_var (v := .ref a) rfl) (va_cons (val_var (v := .int (n : Nat)) rfl) (va_cons (val_var (v := .ref q) rfl) va_nil))) ⟨a, q, F, A, _, n, ps, rfl, by omega, g1, R, G, hq, g2 c0, oq, fun H5 A5 T5 R5 x5 hT0 hT1 hT2 => ?_⟩)
      obtain ⟨l5, o5⟩ := x5.keep L _ hLL oL
      refine turn_end hcs ec G tn tl R5 (Cw.step_ok G _ fun b => op_nt c0 g1) f o5 l5 hT2 (fun z => ?_) (fun c o h1 h2 h3 => x5.keep c o (keep c o h1 h2 h3).1 (keep c o h1 h2 h3).2) fun _ _ z => z
      have hz := hT0 (fun y => by rw [z] at y; exact oL y)
      rw [z, hLL] at hz
      cases hz
  · rintro σ' H' ⟨a, A, F, y3, y4, y5, rfl, R, G, f, oL, hLL, tn, tl, keep⟩
    rw [List.length_map, c2, List.take_length] at hLL
    exact st_ret (val_var (v := .ref L) rfl) (kk H' L hLL)
theorem ok_answers (T : Txt w K mg) : Has P w K mg base 16 (He.fAd K ("answers", none)) ["calls"] (sp_answers K) := by
  have G_Run_init := ok_Run_init (P := P) (base := base) T
  have G_Plan_init := ok_Plan_init (P := P) (base := base) T
  have G_read_calls := ok_read_calls (P := P) (base := base) T
  have G_read_text := ok_read_text (P := P) (base := base) T
  have G_answer_of := ok_answer_of (P := P) (base := base) T
  refine Has.of (T.d_answers) sc_answers (fun _ _ _ _ _ _ us hl => match us, hl with | [_], _ => rfl) len_answers (t_answers K) (fun cdv A outer s H E hr => ?_) (pure_answers T)
  have nd := sc_answers.nd
  exact (pss_cons (ps_set (i := 1) nd rfl (Or.inl rfl) (pe_lst pa_nil))
      (pss_cons (ps_set (i := 2) nd rfl (Or.inl rfl) (pe_mk T.k_Run G_Run_init (hr.mono (by decide)) rfl T.g_Run (pa_cons (pe_mk0 T.k_Plan G_Plan_init (hr.mono (by decide)) rfl T.g_Plan) pa_nil)))
      (pss_cons (ps_for PassesOwn.never rfl (pi_list (pe_fn G_read_calls (hr.mono (by decide)) rfl T.g_read_calls (pa_cons (pw 0) pa_nil))) (pg_tup rfl (pgs_cons (pg_name (i := 3) nd rfl (Or.inl rfl)) (pgs_cons (pg_name (i := 4) nd rfl (Or.inl rfl)) pgs_nil))) (pss_cons (ps_if (pt_cmpR op_eq (pw 3) (pe_gi rfl T.i_TEXT) (nomark _)) (pss_one (ps_asg (pe_fn G_read_text (hr.mono (by decide)) rfl T.g_read_text (pa_cons (pw 2) (pa_cons (pw 4) pa_nil))) (pg_tup rfl (pgs_cons (pg_name (i := 2) nd rfl (Or.inl rfl)) (pgs_cons (pg_name (i := 5) nd rfl (Or.inl rfl)) pgs_nil))))) (pss_one (ps_set (i := 5) nd rfl (Or.inl rfl) (pe_fn G_answer_of (hr.mono (by decide)) rfl T.g_answer_of (pa_cons (pw 2) (pa_cons (pw 3) (pa_cons (pw 4) pa_nil)))))))
      (pss_cons (ps_expr (pe_bm PySem.F.plainAttrs_list PySem.F.slot_list_append PySem.F.type_list_append mt_append (pw 1) (pa_cons (pe_callB call_len_seq (by rfl) T.b_len PySem.boot_len (pa_cons (pw 5) pa_nil)) pa_nil)))
      (pss_one (ps_expr (pe_bm PySem.F.plainAttrs_list PySem.F.slot_list_extend PySem.F.type_list_extend mt_extend (pw 1) (pa_cons (pw 5) pa_nil)))))))
      (pss_one (ps_ret (pw 1))))))
end
end Cc
end

/-! ## CcEnd -/
section
set_option maxRecDepth 100000
set_option maxHeartbeats 4000000
/-! The asked def, over every base; the request. -/
namespace Cc
open PySem PySem.Spec PyProof.Rows L2
section
variable {P : Program} {w : World} {K : PySem.W.Frag} {mg : Str → Option Value}
theorem All.of {x qual : Str} {st : Stmt} {f : Addr} {N ps : List Str} {k : Nat} {sp : Sp} (F : ∃ fd, FunD K x qual (defArgs st) (defBody st) (defScope st) [] [] f fd) (S : FnScope N ps (defScope st))
    (bind : ∀ (kV doc pm : Value) (an : Option Addr) (cdv ct : Value) (us : List Value), us.length = ps.length → bindArgs (PySem.W.fnOf x qual (defArgs st) (defBody st) (defScope st) .none kV doc pm an cdv ct) ⟨us, []⟩ = pure (ps.zip us))
    (len : ∀ vs H Q E, sp vs H Q E → vs.length = ps.length) (t : TS)
    (body : ∀ (base : Heap) (cdv : Value) (A : Around) (outer : List Env) (s : Shared) (H : Hp) (E : XK), Room k (A.deeper (envOfC qual (defScope st) s.heap.objs.size f cdv)) → PSs (cxOf CX0 P w K mg base N qual (defScope st) f cdv A outer s H E).nox (defBody st) t)
    (pure_ : ∀ vs H Q E, sp vs H Q E → t { nx := fun _ H' => Q .non H', rt := Q } (start N vs) H) :
    ∃ fd : FuncData, (∀ (s : Shared) (us : List Value), us.length = ps.length → BindsTo s fd ⟨us, []⟩ (ps.zip us)) ∧ ∀ base : Heap, FnOk P w K mg base CX0 (k + 1) f fd ps sp := by
  obtain ⟨fd, F⟩ := F
  exact ⟨fd, fun s us hl => F.bindsA bind s us hl, fun base => F.ok S len fun cdv A outer s H vs Q E hr h => ⟨t, PSs.nox (body base cdv A outer s H E hr), pure_ vs H Q E h⟩⟩
theorem all_answers (T : Txt w K mg) : ∃ fd : FuncData, (∀ (s : Shared) (us : List Value), us.length = (["calls"] : List Str).length → BindsTo s fd ⟨us, []⟩ ((["calls"] : List Str).zip us)) ∧ ∀ base : Heap, FnOk P w K mg base CX0 16 (He.fAd K ("answers", none)) fd ["calls"] (sp_answers K) := by
  refine All.of (T.d_answers) sc_answers (fun _ _ _ _ _ _ us hl => match us, hl with | [_], _ => rfl) len_answers (t_answers K) (fun base cdv A outer s H E hr => ?_) (pure_answers T)
  have G_Run_init := ok_Run_init (P := P) (base := base) T
  have G_Plan_init := ok_Plan_init (P := P) (base := base) T
  have G_read_calls := ok_read_calls (P := P) (base := base) T
  have G_read_text := ok_read_text (P := P) (base := base) T
  have G_answer_of := ok_answer_of (P := P) (base := base) T
  have nd := sc_answers.nd
  exact (pss_cons (ps_set (i := 1) nd rfl (Or.inl rfl) (pe_lst pa_nil))
      (pss_cons (ps_set (i := 2) nd rfl (Or.inl rfl) (pe_mk T.k_Run G_Run_init (hr.mono (by decide)) rfl T.g_Run (pa_cons (pe_mk0 T.k_Plan G_Plan_init (hr.mono (by decide)) rfl T.g_Plan) pa_nil)))
      (pss_cons (ps_for PassesOwn.never rfl (pi_list (pe_fn G_read_calls (hr.mono (by decide)) rfl T.g_read_calls (pa_cons (pw 0) pa_nil))) (pg_tup rfl (pgs_cons (pg_name (i := 3) nd rfl (Or.inl rfl)) (pgs_cons (pg_name (i := 4) nd rfl (Or.inl rfl)) pgs_nil))) (pss_cons (ps_if (pt_cmpR op_eq (pw 3) (pe_gi rfl T.i_TEXT) (nomark _)) (pss_one (ps_asg (pe_fn G_read_text (hr.mono (by decide)) rfl T.g_read_text (pa_cons (pw 2) (pa_cons (pw 4) pa_nil))) (pg_tup rfl (pgs_cons (pg_name (i := 2) nd rfl (Or.inl rfl)) (pgs_cons (pg_name (i := 5) nd rfl (Or.inl rfl)) pgs_nil))))) (pss_one (ps_set (i := 5) nd rfl (Or.inl rfl) (pe_fn G_answer_of (hr.mono (by decide)) rfl T.g_answer_of (pa_cons (pw 2) (pa_cons (pw 3) (pa_cons (pw 4) pa_nil)))))))
      (pss_cons (ps_expr (pe_bm PySem.F.plainAttrs_list PySem.F.slot_list_append PySem.F.type_list_append mt_append (pw 1) (pa_cons (pe_callB call_len_seq (by rfl) T.b_len PySem.boot_len (pa_cons (pw 5) pa_nil)) pa_nil)))
      (pss_one (ps_expr (pe_bm PySem.F.plainAttrs_list PySem.F.slot_list_extend PySem.F.type_list_extend mt_extend (pw 1) (pa_cons (pw 5) pa_nil)))))))
      (pss_one (ps_ret (pw 1))))))
end
/-! ### the request -/
theorem ints_nat {l : List Int} {m : Int} (h : l.all (PySem.W.Codec.inInt (Int.ofNat 0) m) = true) : l = Cw.zs (l.map Int.toNat) := by
  unfold Cw.zs
  rw [List.map_map]
  have e : l.map ((fun (n : Nat) => (n : Int)) ∘ Int.toNat) = l.map id := List.map_congr_left fun z hz => by
    have y := List.all_eq_true.mp h z hz
    unfold PySem.W.Codec.inInt at y
    rw [Bool.and_eq_true, decide_eq_true_iff] at y
    exact Int.toNat_of_nonneg y.1
  rw [e, List.map_id]
theorem asked_sp {K : PySem.W.Frag} {H : Hp} {xs : List V} {l : List Int} {Q : VK} {E : XK} {a : Addr} (e : xs = [.ref a]) (hs : SqL K H a (l.map V.int)) (hw : l.all (PySem.W.Codec.inInt (Int.ofNat 0) (Int.ofNat 4294967295)) = true) (ha : PyGp27.answers_asked l = true) (q : ∀ H' D, H' D = some (.lst ((PyGp27.answers l).map V.int)) → Q (.ref D) H') : sp_answers K xs H Q E := by
  have z := ints_nat hw
  generalize l.map Int.toNat = ns at z
  subst z
  obtain ⟨cs, F, h40, hb, ea⟩ := Cw.asked_calls ns ha
  rw [ea] at q
  refine ⟨a, ns, cs, e, ?_, F, h40, hb, q⟩
  have eb : (Cw.zs ns).map V.int = byV ns := by
    unfold Cw.zs byV
    rw [List.map_map] <;> rfl
  rw [← eb]
  exact hs
end Cc
end

/-! ## CcHold -/
section
set_option maxRecDepth 100000
set_option maxHeartbeats 8000000
/-! The end. -/
namespace Cc
open PySem PySem.W PySem.Calls PyProof.Rows HandSHeadRun L2
theorem call_end (d : DefRec) (hd : d = topDef R.prog 131) : WalkOS qv nms (XL qv []) hk.says R d [] fun f vs => PySem.call f vs := by
  subst hd
  intro w s₀ s₁ mg mb G Y
  obtain ⟨K0, hK, hS, hE⟩ := Y
  have W : WalkOS qv nms (XL qv []) (fun w' h' => K0.In h' ∧ He.SaysT fa fn ts w' K0 ∧ ex K0 = true) R (topDef R.prog 131) [] fun f vs => PySem.call f vs := by
    refine L2.walk_specK (r := R) (k := 16) (CX := L2.CX0) (ps := ["calls"]) (K := fun _ => K0) (sp := sp_answers) (by decide +kernel) (by kernel_rfl) rfl ⟨rfl, by decide, by decide⟩ (fun w h Y => Y.1) ?F ?S (fun _ _ _ _ z => z)
    case F =>
      intro w mg f h Y KX G hmg
      have T : Txt w K0 mg := ⟨⟨h, KX, G⟩, Y.2.1, Y.2.2⟩
      have e := hmg.symm.trans T.g_answers
      cases e
      obtain ⟨fd, h1, h2⟩ := all_answers (P := R.prog) T
      exact ⟨fd, h1, fun base _ _ => h2 base⟩
    case S =>
      intro K H xs a hO hwi hask hx
      cases hx with
      | cons h1 h2 =>
        cases h2
        cases h1 with
        | lst hs ha =>
          have e := L2.ints_dw a.1 _ ha
          subst e
          have q : ((Codec.inLen 0 30000 a.1 && a.1.all (Codec.inInt (Int.ofNat 0) (Int.ofNat 4294967295))) && true) = true := hwi
          rw [Bool.and_eq_true, Bool.and_eq_true] at q
          exact asked_sp rfl hs q.1.2 hask fun H' D hD => .lst (L2.SqL.of hD) (L2.dw_ints _)
  exact W w s₀ s₁ mg mb G ⟨hK, hS, hE⟩
end Cc
open PySem PySem.W PySem.Calls PyProof.Rows
theorem PySem.Challenge.cw_callchains_s01_answers_holds : PySem.Challenge.rw_callchains_s01_answers.Holds := by
  refine HandSHeadRun.head_spec (r := PySem.Challenge.rw_callchains_s01_answers) (q := Cc.qv) (H := Cc.hk) (ob := Cc.ob) (M := 5300) (loose := Cc.nms) (d := HandSHeadRun.topDef Cc.R.prog 131) (kwd := []) Cc.ob_eq
    (by kernel_rfl) (fun s => by kernel_rfl) Cc.run_at_world (by kernel_rfl) (by kernel_rfl) (by kernel_rfl) os_shapes (by decide +kernel) (by decide +kernel) ⟨rfl, rfl, rfl, rfl, rfl, by decide +kernel⟩ ?hw (Cc.call_end _ rfl)
  case hw => exact ⟨[.list [.int 3, .int 0]], by decide +kernel, by decide +kernel⟩
end
#print axioms PySem.Challenge.cw_callchains_s01_answers_holds
