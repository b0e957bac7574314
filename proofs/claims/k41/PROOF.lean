import PyProof.Rows.All
import Wide.All
import OpenK.AllK
import Wide.FinOn
import HandS.ForMost
import HandS.Exc
import HandS.WordsExc
import HandS.ExcInit
import HandS.ExcIs
import KE.KExcIs
import HandS.IsInst
import HandS.Deep
import HandS.ExcOwn
import HandS.TupAny
import HandS.Wide
import HandS.Defaults
import HandS.Iter
import HandS.Ends
import HandS.Zip
import HandS.Walk
import HandS.RaiseMore
import HandS.ExcField
import HandS.ExcValue
import HandS.Head2
import HandS.HeadEnd
import HandS.HeadHook2
import HandS.HeadHook4
import HandS.EndBits
import HandS.Dict
import HandS.DictComp
import HandS.Conv
import HandS.ListItems
import HandS.SortInts
import HandS.TupSets
import PyProof.ReprReads
import PyProof.ReprRoads
import PySem.Challenge.RW_leastmarks_k41_writes_and_spares_refused
set_option Elab.async false
set_option linter.all false
set_option maxRecDepth 100000
set_option maxHeartbeats 4000000
namespace Gh
open PySem PySem.Spec PyProof.Rows L2

/-! ### data (trees that no one changes), values, ghost objects -/
inductive D where
  | non | bl (b : Bool) | int (i : Int) | str (x : Str)
  | tup (ds : List D) | lst (ds : List D) | dic (t : Bool) (kvs : List (D × D)) | ins (c : Str) (fs : List (Str × D))
inductive W where
  | d (x : D) | ref (i : Nat) | tup (ws : List W)
inductive GO where
  | lst (ws : List W) | dic (t : Bool) (kvs : List (D × W)) | lkd (t : Bool) (kvs : List (D × W)) | frd (t : Bool) (kvs : List (D × W)) | ins (c : Str) (fs : List (Str × W)) | dead
structure Exc where
  c : Str
  fs : List (Str × D)
abbrev GEnv := List (Option W)
abbrev Hg := List GO
/-- keys of dicts -/
def keyD : D → Option Key
  | .int i => some (.inl i)
  | .str x => some (.inr x)
  | _ => none
def keysL : List D → Option (List Key)
  | [] => some []
  | x :: r => match keyD x, keysL r with
    | some k, some ks => some (k :: ks)
    | _, _ => none
def keysD : D → Option (List Key)
  | .tup ds => keysL ds
  | _ => none

/-- a dict that stands locked -/
def GO.isL : GO → Bool
  | .lkd _ _ => true
  | _ => false
/-- the module's facts -/
structure Md where
  K : PySem.W.Frag
  mg : Str → Option Value
/-- what stays through a def's body -/
structure GC where
  m : Md
  B : Hp
  F0 : Hp
  wx : WX

/-- a class of instances -/
structure InC (K : PySem.W.Frag) (Ca : Addr) : Prop where
  cl : Cls K Ca
  ha : PySem.W.findIn K (.ref Ca) "__class__" = some (some (.builtin "object.__class__"))
  hn : PySem.W.specialIn K (.builtin "object.__class__") "__get__" = some (some (.builtin "getset_descriptor.__get__"))
  ht : PySem.W.takesIn K (.builtin "object.__class__") = some true
  hm : PySem.W.mroIn K Ca (.type "object") = some true
/-- an exception that was caught: its class, its dict -/
def exh (e C : Addr) (d : Option Addr) : HO := .ext fun h => ∃ (oe : Obj) (vs : Array Value), h.get? e = some oe ∧ oe.cls = .ref C ∧ oe.dict = d ∧ oe.data = .fields vs
/-- at a: an object of the class at Ca with these fields: an instance, or an exception that was made -/
inductive InsAt (K : PySem.W.Frag) (F : Hp) (a Ca : Addr) (es : List (Str × V)) : Prop where
  | ins (dx : Addr) (c : InC K Ca) (h : F a = some (.ins Ca dx es))
  | exc (dx : Addr) (c : ExcC K Ca) (h : F a = some (exo a Ca (some dx))) (hd : F dx = some (exd dx es))
  | exc0 (c : ExcC K Ca) (h : F a = some (exo a Ca none)) (he : es = [])
  | hot (dx : Addr) (c : ExcC K Ca) (h : F a = some (exh a Ca (some dx))) (hd : F dx = some (.xd es))
  | hot0 (c : ExcC K Ca) (h : F a = some (exh a Ca none)) (he : es = [])
theorem InsAt.mono {K : PySem.W.Frag} {F F' : Hp} {a Ca : Addr} {es : List (Str × V)} (e : Same F F') : InsAt K F a Ca es → InsAt K F' a Ca es
  | .ins dx c h => .ins dx c (e _ _ h)
  | .exc dx c h hd => .exc dx c (e _ _ h) (e _ _ hd)
  | .exc0 c h he => .exc0 c (e _ _ h) he
  | .hot dx c h hd => .hot dx c (e _ _ h) (e _ _ hd)
  | .hot0 c h he => .hot0 c (e _ _ h) he

section
variable (C : Md) (F : Hp)
mutual
def Rp : D → V → Prop
  | .non, v => v = .non
  | .bl b, v => v = .bl b
  | .int i, v => v = .int i
  | .str x, v => v = .str x
  | .tup ds, v => ∃ a xs, v = .ref a ∧ SqT C.K F a xs ∧ RpL ds xs
  | .lst ds, v => ∃ a xs, v = .ref a ∧ SqL C.K F a xs ∧ RpL ds xs
  | .dic false kvs, v => ∃ a od es, v = .ref a ∧ F a = some (.frz od (.dK es)) ∧ RpK kvs es
  | .dic true kvs, v => ∃ a od es, v = .ref a ∧ F a = some (.frz od (.dT es)) ∧ RpT kvs es
  | .ins c fs, v => ∃ a Ca es, v = .ref a ∧ C.mg c = some (.ref Ca) ∧ InsAt C.K F a Ca es ∧ RpF fs es
def RpL : List D → List V → Prop
  | [], xs => xs = []
  | d :: ds, xs => ∃ x r, xs = x :: r ∧ Rp d x ∧ RpL ds r
def RpK : List (D × D) → List (Key × V) → Prop
  | [], es => es = []
  | (k, d) :: r, es => ∃ kk x er, es = (kk, x) :: er ∧ keyD k = some kk ∧ Rp d x ∧ RpK r er
def RpT : List (D × D) → List (List Key × V) → Prop
  | [], es => es = []
  | (k, d) :: r, es => ∃ kk x er, es = (kk, x) :: er ∧ keysD k = some kk ∧ Rp d x ∧ RpT r er
def RpF : List (Str × D) → List (Str × V) → Prop
  | [], es => es = []
  | (k, d) :: r, es => ∃ x er, es = (k, x) :: er ∧ Rp d x ∧ RpF r er
end
end

theorem Same.sqL {K : PySem.W.Frag} {H H' : Hp} {a : Addr} {xs : List V} (e : Same H H') (h : SqL K H a xs) : SqL K H' a xs := e.seq h
theorem Same.sqT {K : PySem.W.Frag} {H H' : Hp} {a : Addr} {xs : List V} (e : Same H H') (h : SqT K H a xs) : SqT K H' a xs := by
  rcases h with (h | ⟨o, h⟩) | h
  · exact .inl (.inl (e _ _ h))
  · exact .inl (.inr ⟨o, e _ _ h⟩)
  · exact .inr h
theorem Same.rd {H H' : Hp} {a : Addr} {u : HO} (e : Same H H') (h : Rd H a u) : Rd H' a u := by
  rcases h with h | ⟨o, h⟩
  · exact .inl (e _ _ h)
  · exact .inr ⟨o, e _ _ h⟩

section
variable {C : Md} {F F' : Hp}
mutual
theorem Rp.mono (e : Same F F') : ∀ {d : D} {v : V}, Rp C F d v → Rp C F' d v
  | .non, _, h => by simpa only [Rp] using h
  | .bl _, _, h => by simpa only [Rp] using h
  | .int _, _, h => by simpa only [Rp] using h
  | .str _, _, h => by simpa only [Rp] using h
  | .tup ds, v, h => by
    simp only [Rp] at h ⊢
    obtain ⟨a, xs, h1, h2, h3⟩ := h
    exact ⟨a, xs, h1, Same.sqT e h2, RpL.mono e h3⟩
  | .lst ds, v, h => by
    simp only [Rp] at h ⊢
    obtain ⟨a, xs, h1, h2, h3⟩ := h
    exact ⟨a, xs, h1, Same.sqL e h2, RpL.mono e h3⟩
  | .dic false kvs, v, h => by
    simp only [Rp] at h ⊢
    obtain ⟨a, od, es, h1, h2, h3⟩ := h
    exact ⟨a, od, es, h1, e _ _ h2, RpK.mono e h3⟩
  | .dic true kvs, v, h => by
    simp only [Rp] at h ⊢
    obtain ⟨a, od, es, h1, h2, h3⟩ := h
    exact ⟨a, od, es, h1, e _ _ h2, RpT.mono e h3⟩
  | .ins c fs, v, h => by
    simp only [Rp] at h ⊢
    obtain ⟨a, Ca, es, h1, h2, h3, h4⟩ := h
    exact ⟨a, Ca, es, h1, h2, h3.mono e, RpF.mono e h4⟩
theorem RpL.mono (e : Same F F') : ∀ {ds : List D} {xs : List V}, RpL C F ds xs → RpL C F' ds xs
  | [], _, h => by simpa only [RpL] using h
  | d :: ds, xs, h => by
    simp only [RpL] at h ⊢
    obtain ⟨x, r, h1, h2, h3⟩ := h
    exact ⟨x, r, h1, Rp.mono e h2, RpL.mono e h3⟩
theorem RpK.mono (e : Same F F') : ∀ {ds : List (D × D)} {xs : List (Key × V)}, RpK C F ds xs → RpK C F' ds xs
  | [], _, h => by simpa only [RpK] using h
  | (k, d) :: ds, xs, h => by
    simp only [RpK] at h ⊢
    obtain ⟨kk, x, r, h1, h2, h3, h4⟩ := h
    exact ⟨kk, x, r, h1, h2, Rp.mono e h3, RpK.mono e h4⟩
theorem RpT.mono (e : Same F F') : ∀ {ds : List (D × D)} {xs : List (List Key × V)}, RpT C F ds xs → RpT C F' ds xs
  | [], _, h => by simpa only [RpT] using h
  | (k, d) :: ds, xs, h => by
    simp only [RpT] at h ⊢
    obtain ⟨kk, x, r, h1, h2, h3, h4⟩ := h
    exact ⟨kk, x, r, h1, h2, Rp.mono e h3, RpT.mono e h4⟩
theorem RpF.mono (e : Same F F') : ∀ {ds : List (Str × D)} {xs : List (Str × V)}, RpF C F ds xs → RpF C F' ds xs
  | [], _, h => by simpa only [RpF] using h
  | (k, d) :: ds, xs, h => by
    simp only [RpF] at h ⊢
    obtain ⟨x, r, h1, h2, h3⟩ := h
    exact ⟨x, r, h1, Rp.mono e h2, RpF.mono e h3⟩
end
end

/-! ### values with references -/
section
variable (C : Md) (F : Hp) (ι : Nat → Addr) (n : Nat)
mutual
def RpW : W → V → Prop
  | .d x, v => Rp C F x v
  | .ref i, v => i < n ∧ v = .ref (ι i)
  | .tup ws, v => ∃ a xs, v = .ref a ∧ SqT C.K F a xs ∧ RpWL ws xs
def RpWL : List W → List V → Prop
  | [], xs => xs = []
  | w :: ws, xs => ∃ x r, xs = x :: r ∧ RpW w x ∧ RpWL ws r
end
def RpWK : List (D × W) → List (Key × V) → Prop
  | [], es => es = []
  | (k, d) :: r, es => ∃ kk x er, es = (kk, x) :: er ∧ keyD k = some kk ∧ RpW C F ι n d x ∧ RpWK r er
def RpWT : List (D × W) → List (List Key × V) → Prop
  | [], es => es = []
  | (k, d) :: r, es => ∃ kk x er, es = (kk, x) :: er ∧ keysD k = some kk ∧ RpW C F ι n d x ∧ RpWT r er
def RpWF : List (Str × W) → List (Str × V) → Prop
  | [], es => es = []
  | (k, d) :: r, es => ∃ x er, es = (k, x) :: er ∧ RpW C F ι n d x ∧ RpWF r er
/-- a ghost object as it stands at a -/
def RpO (H : Hp) (a : Addr) : GO → Prop
  | .lst ws => ∃ xs, H a = some (.lst xs) ∧ RpWL C F ι n ws xs
  | .dic false kvs => ∃ es, H a = some (.dK es) ∧ RpWK C F ι n kvs es
  | .dic true kvs => ∃ es, H a = some (.dT es) ∧ RpWT C F ι n kvs es
  | .lkd false kvs => ∃ od es, H a = some (.frz od (.dK es)) ∧ RpWK C F ι n kvs es
  | .lkd true kvs => ∃ od es, H a = some (.frz od (.dT es)) ∧ RpWT C F ι n kvs es
  | .frd false kvs => ∃ od es, H a = some (.frz od (.dK es)) ∧ RpWK C F ι n kvs es
  | .frd true kvs => ∃ od es, H a = some (.frz od (.dT es)) ∧ RpWT C F ι n kvs es
  | .ins c fs => ∃ Ca dx es, C.mg c = some (.ref Ca) ∧ InC C.K Ca ∧ H a = some (.ins Ca dx es) ∧ RpWF C F ι n fs es
  | .dead => True
end
/-- from one point of a run to a later one -/
structure Ext (F : Hp) (ι : Nat → Addr) (n : Nat) (F' : Hp) (ι' : Nat → Addr) (n' : Nat) : Prop where
  fr : Same F F'
  io : ∀ i, i < n → ι' i = ι i
  le : n ≤ n'
theorem Ext.refl {F : Hp} {ι : Nat → Addr} {n : Nat} : Ext F ι n F ι n := ⟨Same.refl _, fun _ _ => rfl, Nat.le_refl _⟩
theorem Ext.trans {F F1 F2 : Hp} {ι ι1 ι2 : Nat → Addr} {n n1 n2 : Nat} (a : Ext F ι n F1 ι1 n1) (b : Ext F1 ι1 n1 F2 ι2 n2) : Ext F ι n F2 ι2 n2 :=
  ⟨a.fr.trans b.fr, fun i h => (b.io i (Nat.lt_of_lt_of_le h a.le)).trans (a.io i h), Nat.le_trans a.le b.le⟩
section
variable {C : Md} {F F' : Hp} {ι ι' : Nat → Addr} {n n' : Nat}
mutual
theorem RpW.mono (e : Ext F ι n F' ι' n') : ∀ {w : W} {v : V}, RpW C F ι n w v → RpW C F' ι' n' w v
  | .d x, v, h => by
    simp only [RpW] at h ⊢
    exact Rp.mono e.fr h
  | .ref i, v, h => by
    simp only [RpW] at h ⊢
    exact ⟨Nat.lt_of_lt_of_le h.1 e.le, by rw [e.io i h.1]; exact h.2⟩
  | .tup ws, v, h => by
    simp only [RpW] at h ⊢
    obtain ⟨a, xs, h1, h2, h3⟩ := h
    exact ⟨a, xs, h1, Same.sqT e.fr h2, RpWL.mono e h3⟩
theorem RpWL.mono (e : Ext F ι n F' ι' n') : ∀ {ws : List W} {xs : List V}, RpWL C F ι n ws xs → RpWL C F' ι' n' ws xs
  | [], _, h => by simpa only [RpWL] using h
  | w :: ws, xs, h => by
    simp only [RpWL] at h ⊢
    obtain ⟨x, r, h1, h2, h3⟩ := h
    exact ⟨x, r, h1, RpW.mono e h2, RpWL.mono e h3⟩
end
theorem RpWK.mono (e : Ext F ι n F' ι' n') : ∀ {ds : List (D × W)} {xs : List (Key × V)}, RpWK C F ι n ds xs → RpWK C F' ι' n' ds xs
  | [], _, h => by simpa only [RpWK] using h
  | (k, d) :: ds, xs, h => by
    simp only [RpWK] at h ⊢
    obtain ⟨kk, x, r, h1, h2, h3, h4⟩ := h
    exact ⟨kk, x, r, h1, h2, h3.mono e, RpWK.mono e h4⟩
theorem RpWT.mono (e : Ext F ι n F' ι' n') : ∀ {ds : List (D × W)} {xs : List (List Key × V)}, RpWT C F ι n ds xs → RpWT C F' ι' n' ds xs
  | [], _, h => by simpa only [RpWT] using h
  | (k, d) :: ds, xs, h => by
    simp only [RpWT] at h ⊢
    obtain ⟨kk, x, r, h1, h2, h3, h4⟩ := h
    exact ⟨kk, x, r, h1, h2, h3.mono e, RpWT.mono e h4⟩
theorem RpWF.mono (e : Ext F ι n F' ι' n') : ∀ {ds : List (Str × W)} {xs : List (Str × V)}, RpWF C F ι n ds xs → RpWF C F' ι' n' ds xs
  | [], _, h => by simpa only [RpWF] using h
  | (k, d) :: ds, xs, h => by
    simp only [RpWF] at h ⊢
    obtain ⟨x, r, h1, h2, h3⟩ := h
    exact ⟨x, r, h1, h2.mono e, RpWF.mono e h3⟩
theorem RpO.mono {H H' : Hp} {a a' : Addr} (e : Ext F ι n F' ι' n') (hh : ∀ o, H a = some o → H' a' = some o) : ∀ {o : GO}, RpO C F ι n H a o → RpO C F' ι' n' H' a' o
  | .lst ws, h => by
    obtain ⟨xs, h1, h2⟩ := h
    exact ⟨xs, hh _ h1, h2.mono e⟩
  | .dic false kvs, h => by
    obtain ⟨xs, h1, h2⟩ := h
    exact ⟨xs, hh _ h1, h2.mono e⟩
  | .dic true kvs, h => by
    obtain ⟨xs, h1, h2⟩ := h
    exact ⟨xs, hh _ h1, h2.mono e⟩
  | .lkd false kvs, h => by
    obtain ⟨od, xs, h1, h2⟩ := h
    exact ⟨od, xs, hh _ h1, h2.mono e⟩
  | .lkd true kvs, h => by
    obtain ⟨od, xs, h1, h2⟩ := h
    exact ⟨od, xs, hh _ h1, h2.mono e⟩
  | .frd false kvs, h => by
    obtain ⟨od, xs, h1, h2⟩ := h
    exact ⟨od, xs, hh _ h1, h2.mono e⟩
  | .frd true kvs, h => by
    obtain ⟨od, xs, h1, h2⟩ := h
    exact ⟨od, xs, hh _ h1, h2.mono e⟩
  | .ins c fs, h => by
    obtain ⟨Ca, dx, es, h1, hc, h2, h3⟩ := h
    exact ⟨Ca, dx, es, h1, hc, hh _ h2, h3.mono e⟩
  | .dead, _ => trivial
/-- a live object stands -/
theorem RpO.some {H : Hp} {a : Addr} : ∀ {o : GO}, o ≠ .dead → RpO C F ι n H a o → ∃ u, H a = Option.some u
  | .lst _, _, ⟨_, h, _⟩ => ⟨_, h⟩
  | .dic false _, _, ⟨_, h, _⟩ => ⟨_, h⟩
  | .dic true _, _, ⟨_, h, _⟩ => ⟨_, h⟩
  | .lkd false _, _, ⟨_, _, h, _⟩ => ⟨_, h⟩
  | .lkd true _, _, ⟨_, _, h, _⟩ => ⟨_, h⟩
  | .frd false _, _, ⟨_, _, h, _⟩ => ⟨_, h⟩
  | .frd true _, _, ⟨_, _, h, _⟩ => ⟨_, h⟩
  | .ins _ _, _, ⟨_, _, _, _, _, h, _⟩ => ⟨_, h⟩
  | .dead, h, _ => absurd rfl h
end

/-! ### the state of a run -/
structure Sim (C : GC) (F H : Hp) (ι : Nat → Addr) (G : Hg) : Prop where
  fh : Same F H
  bh : Same C.B H
  ff : Same C.F0 F
  new : ∀ b o, F b = some o → C.F0 b = some o ∨ C.B b = none
  live : ∀ i o, G[i]? = some o → o ≠ .dead → F (ι i) = none ∧ ((o.isL = false → C.B (ι i) = none) ∧ (o.isL = true → C.B (ι i) ≠ none)) ∧ RpO C.m F ι G.length H (ι i) o
  inj : ∀ i j o u, G[i]? = some o → o ≠ .dead → G[j]? = some u → u ≠ .dead → ι i = ι j → i = j
def REnv (C : Md) (F : Hp) (ι : Nat → Addr) (n : Nat) (ρ : GEnv) (σ : L2.St) : Prop :=
  ρ.length = σ.length ∧ ∀ (i : Nat) (w : W), ρ[i]? = some (some w) → ∃ v, σ[i]? = some (some v) ∧ RpW C F ι n w v
theorem REnv.mono {C : Md} {F F' : Hp} {ι ι' : Nat → Addr} {n n' : Nat} {ρ : GEnv} {σ : L2.St} (e : Ext F ι n F' ι' n') (h : REnv C F ι n ρ σ) : REnv C F' ι' n' ρ σ :=
  ⟨h.1, fun i w hi => let ⟨v, h1, h2⟩ := h.2 i w hi; ⟨v, h1, h2.mono e⟩⟩
theorem REnv.set {C : Md} {F : Hp} {ι : Nat → Addr} {n : Nat} {ρ : GEnv} {σ : L2.St} {w : W} {v : V} (h : REnv C F ι n ρ σ) (i : Nat) (r : RpW C F ι n w v) : REnv C F ι n (ρ.set i (some w)) (σ.set i (some v)) := by
  refine ⟨by simp [h.1], fun j u hj => ?_⟩
  by_cases e : i = j
  · subst e
    have hl : i < ρ.length := by
      rcases Nat.lt_or_ge i ρ.length with q | q
      · exact q
      · rw [List.getElem?_eq_none (by simpa using q)] at hj; cases hj
    rw [List.getElem?_set_self hl] at hj
    cases hj
    exact ⟨v, List.getElem?_set_self (by rw [← h.1]; exact hl), r⟩
  · rw [List.getElem?_set_ne e] at hj
    obtain ⟨x, h1, h2⟩ := h.2 j u hj
    exact ⟨x, by rw [List.getElem?_set_ne e]; exact h1, h2⟩

inductive Res (α : Type) where
  | stuck | exc (e : Exc) (G : Hg) | ok (a : α) (G : Hg)
/-- what is known of an exception -/
def XR (C : GC) (F' H' : Hp) (e : Exc) (cls : Value) (d : Option Addr) : Prop :=
  ∃ Ca, C.m.mg e.c = some (.ref Ca) ∧ ExcC C.m.K Ca ∧ cls = .ref Ca ∧ match d with
    | none => e.fs = []
    | some dx => ∃ es, F' dx = some (.xd es) ∧ RpF C.m F' e.fs es
/-- a value's end -/
def Out (C : GC) (F : Hp) (ι : Nat → Addr) (n : Nat) (w : W) (G' : Hg) : VK := fun v H' => ∃ F' ι', Ext F ι n F' ι' G'.length ∧ Sim C F' H' ι' G' ∧ RpW C.m F' ι' G'.length w v
def XOut (C : GC) (F : Hp) (ι : Nat → Addr) (n : Nat) (e : Exc) (G' : Hg) : XK := fun cls d H' => ∃ F' ι', Ext F ι n F' ι' G'.length ∧ Sim C F' H' ι' G' ∧ XR C F' H' e cls d
/-- an expression's ghost: from slots and ghost objects -/
abbrev GE := GEnv → Hg → Res W
def Post (C : GC) (F : Hp) (ι : Nat → Addr) (n : Nat) (σ : L2.St) (r : Res W) (Q : VK) : Prop :=
  match r with
  | .stuck => False
  | .exc e G' => ∀ cls d H', XOut C F ι n e G' cls d H' → C.wx cls d σ H'
  | .ok w G' => ∀ v H', Out C F ι n w G' v H' → Q v H'
def gTE (C : GC) (g : GE) : TE := fun σ H Q => ∃ F ι ρ G, Sim C F H ι G ∧ REnv C.m F ι G.length ρ σ ∧ Post C F ι G.length σ (g ρ G) Q
abbrev GEs := GEnv → Hg → Res (List W)
def OutL (C : GC) (F : Hp) (ι : Nat → Addr) (n : Nat) (ws : List W) (G' : Hg) : List V → Hp → Prop := fun vs H' => ∃ F' ι', Ext F ι n F' ι' G'.length ∧ Sim C F' H' ι' G' ∧ RpWL C.m F' ι' G'.length ws vs
def PostL (C : GC) (F : Hp) (ι : Nat → Addr) (n : Nat) (σ : L2.St) (r : Res (List W)) (Q : List V → Hp → Prop) : Prop :=
  match r with
  | .stuck => False
  | .exc e G' => ∀ cls d H', XOut C F ι n e G' cls d H' → C.wx cls d σ H'
  | .ok w G' => ∀ v H', OutL C F ι n w G' v H' → Q v H'
def gTA (C : GC) (g : GEs) : TA := fun σ H Q => ∃ F ι ρ G, Sim C F H ι G ∧ REnv C.m F ι G.length ρ σ ∧ PostL C F ι G.length σ (g ρ G) Q
/-- a test -/
abbrev GT := GEnv → Hg → Res Bool
def OutB (C : GC) (F : Hp) (ι : Nat → Addr) (n : Nat) (w : Bool) (G' : Hg) : Bool → Hp → Prop := fun v H' => v = w ∧ ∃ F' ι', Ext F ι n F' ι' G'.length ∧ Sim C F' H' ι' G'
def PostB (C : GC) (F : Hp) (ι : Nat → Addr) (n : Nat) (σ : L2.St) (r : Res Bool) (Q : Bool → Hp → Prop) : Prop :=
  match r with
  | .stuck => False
  | .exc e G' => ∀ cls d H', XOut C F ι n e G' cls d H' → C.wx cls d σ H'
  | .ok w G' => ∀ v H', OutB C F ι n w G' v H' → Q v H'
def gTT (C : GC) (g : GT) : TT := fun σ H Q => ∃ F ι ρ G, Sim C F H ι G ∧ REnv C.m F ι G.length ρ σ ∧ PostB C F ι G.length σ (g ρ G) Q

theorem PE.imp {X : Cx} {e : Expr} {t t' : TE} (h : PE X e t) (k : ∀ σ H Q, t' σ H Q → t σ H Q) : PE X e t' := ⟨fun pins s σ H Q I q => h.run pins s σ H Q I (k _ _ _ q)⟩
theorem PT.imp {X : Cx} {e : Expr} {t t' : TT} (h : PT X e t) (k : ∀ σ H Q, t' σ H Q → t σ H Q) : PT X e t' := ⟨fun pins s σ H Q I q => h.run pins s σ H Q I (k _ _ _ q)⟩
theorem PW.imp {X : Cx} {e : Expr} {t t' : TT} (h : PW X e t) (k : ∀ σ H Q, t' σ H Q → t σ H Q) : PW X e t' := ⟨fun wh pins s σ H Q I q => h.run wh pins s σ H Q I (k _ _ _ q)⟩
theorem PA.imp {X : Cx} {e : List Expr} {t t' : TA} (h : PA X e t) (k : ∀ σ H Q, t' σ H Q → t σ H Q) : PA X e t' := ⟨fun p pins s σ H Q I q => h.run p pins s σ H Q I (k _ _ _ q)⟩
theorem PS.imp {X : Cx} {e : Stmt} {t t' : TS} (h : PS X e t) (k : ∀ D σ H, t' D σ H → t D σ H) : PS X e t' := ⟨fun pins s σ H D I q => h.run pins s σ H D I (k _ _ _ q)⟩
theorem PSs.imp {X : Cx} {e : List Stmt} {t t' : TS} (h : PSs X e t) (k : ∀ D σ H, t' D σ H → t D σ H) : PSs X e t' := ⟨fun pins s σ H D I q => h.run pins s σ H D I (k _ _ _ q)⟩

section
variable {C : GC} {F F1 H : Hp} {ι ι1 : Nat → Addr} {n n1 : Nat} {σ : L2.St} {Q : VK}
theorem Out.base {w : W} {G' : Hg} {v : V} {H' : Hp} (e : Ext F ι n F1 ι1 n1) (h : Out C F1 ι1 n1 w G' v H') : Out C F ι n w G' v H' :=
  let ⟨F', ι', a, b, c⟩ := h; ⟨F', ι', e.trans a, b, c⟩
theorem XOut.base {w : Exc} {G' : Hg} {cls : Value} {d : Option Addr} {H' : Hp} (e : Ext F ι n F1 ι1 n1) (h : XOut C F1 ι1 n1 w G' cls d H') : XOut C F ι n w G' cls d H' :=
  let ⟨F', ι', a, b, c⟩ := h; ⟨F', ι', e.trans a, b, c⟩
theorem Post.base {r : Res W} (e : Ext F ι n F1 ι1 n1) (h : Post C F ι n σ r Q) : Post C F1 ι1 n1 σ r Q := by
  cases r with
  | stuck => exact h
  | exc x G' => exact fun cls d H' q => h cls d H' (q.base e)
  | ok w G' => exact fun v H' q => h v H' (q.base e)
end
end Gh

set_option Elab.async false
set_option linter.all false
set_option maxRecDepth 100000
set_option maxHeartbeats 4000000
namespace Gh
open PySem PySem.Spec PyProof.Rows L2

/-! ### steps of the state -/
section
variable {C : GC} {F H : Hp} {ι : Nat → Addr} {G : Hg}
theorem Sim.free {p : Addr} (s : Sim C F H ι G) (h : H p = none) : F p = none := s.fh.free h
theorem Sim.freeB {p : Addr} (s : Sim C F H ι G) (h : H p = none) : C.B p = none := s.bh.free h
/-- something new that no one will change is laid -/
theorem Sim.lay {p : Addr} {o : HO} (s : Sim C F H ι G) (h : H p = none) : Sim C (upd F p o) (upd H p o) ι G ∧ Ext F ι G.length (upd F p o) ι G.length := by
  have hF := s.free h
  have hB := s.freeB h
  have ext : Ext F ι G.length (upd F p o) ι G.length := ⟨fun b u q => by rw [upd_ne (ne_of_none q hF)]; exact q, fun _ _ => rfl, Nat.le_refl _⟩
  have np : ∀ i g, G[i]? = some g → g ≠ .dead → ι i ≠ p := fun i g hi hg => by
    obtain ⟨_, _, r⟩ := s.live i g hi hg
    obtain ⟨u, hu⟩ := r.some hg
    exact ne_of_none hu h
  refine ⟨⟨fun b u q => ?_, fun b u q => ?_, s.ff.trans ext.fr, fun b u q => ?_, fun i g hi hg => ?_, s.inj⟩, ext⟩
  · by_cases e : b = p
    · subst e; rw [upd_same] at q; cases q; exact upd_same
    · rw [upd_ne e] at q ⊢; exact s.fh _ _ q
  · rw [upd_ne (ne_of_none q hB)]; exact s.bh _ _ q
  · by_cases e : b = p
    · subst e; exact .inr hB
    · rw [upd_ne e] at q; exact s.new _ _ q
  · obtain ⟨a, b, r⟩ := s.live i g hi hg
    have n := np i g hi hg
    exact ⟨by rw [upd_ne n]; exact a, b, r.mono ext fun u q => by rw [upd_ne n]; exact q⟩
/-- something that the run does not follow is laid -/
theorem Sim.drop {p : Addr} {o : HO} (s : Sim C F H ι G) (h : H p = none) : Sim C F (upd H p o) ι G := by
  have hF := s.free h
  have hB := s.freeB h
  refine ⟨fun b u q => by rw [upd_ne (ne_of_none q hF)]; exact s.fh _ _ q, fun b u q => by rw [upd_ne (ne_of_none q hB)]; exact s.bh _ _ q, s.ff, s.new, fun i g hi hg => ?_, s.inj⟩
  obtain ⟨a, b, r⟩ := s.live i g hi hg
  obtain ⟨u, hu⟩ := r.some hg
  exact ⟨a, b, r.mono .refl fun u q => by rw [upd_ne (ne_of_none hu h)]; exact q⟩
/-- a new ghost object -/
def putI (ι : Nat → Addr) (n : Nat) (p : Addr) : Nat → Addr := fun i => if i = n then p else ι i
theorem putI_same {n : Nat} {p : Addr} : putI ι n p n = p := if_pos rfl
theorem putI_lt {n i : Nat} {p : Addr} (h : i < n) : putI ι n p i = ι i := if_neg (Nat.ne_of_lt h)
theorem Sim.make {p : Addr} {o : HO} {g : GO} (s : Sim C F H ι G) (h : H p = none) (r : ∀ ι' n', Ext F ι G.length F ι' n' → RpO C.m F ι' n' (upd H p o) p g) (h1 : g.isL = false := by rfl) :
    Sim C F (upd H p o) (putI ι G.length p) (G ++ [g]) ∧ Ext F ι G.length F (putI ι G.length p) (G ++ [g]).length := by
  have hF := s.free h
  have hB := s.freeB h
  have ext : Ext F ι G.length F (putI ι G.length p) (G ++ [g]).length := ⟨Same.refl _, fun i hi => putI_lt hi, by simp⟩
  have at_ : ∀ i u, (G ++ [g])[i]? = some u → (i < G.length ∧ G[i]? = some u) ∨ (i = G.length ∧ u = g) := fun i u q => by
    rcases Nat.lt_or_ge i G.length with z | z
    · rw [List.getElem?_append_left z] at q
      exact .inl ⟨z, q⟩
    · rw [List.getElem?_append_right z] at q
      rcases Nat.eq_or_lt_of_le z with e | e
      · rw [← e, Nat.sub_self] at q
        exact .inr ⟨e.symm, (Option.some.inj q).symm⟩
      · rw [List.getElem?_eq_none (by simp; omega)] at q; cases q
  refine ⟨⟨fun b u q => by rw [upd_ne (ne_of_none q hF)]; exact s.fh _ _ q, fun b u q => by rw [upd_ne (ne_of_none q hB)]; exact s.bh _ _ q, s.ff, s.new, fun i u hi hu => ?_, fun i j u v hi hu hj hv e => ?_⟩, ext⟩
  · rcases at_ i u hi with ⟨z, q⟩ | ⟨z, q⟩
    · rw [putI_lt z]
      obtain ⟨a, b, t⟩ := s.live i u q hu
      obtain ⟨v, hv⟩ := t.some hu
      exact ⟨a, b, t.mono ext fun w q => by rw [upd_ne (ne_of_none hv h)]; exact q⟩
    · subst z q
      rw [putI_same]
      exact ⟨hF, ⟨fun _ => hB, fun z => by rw [h1] at z; cases z⟩, r _ _ ext⟩
  · rcases at_ i u hi with ⟨zi, qi⟩ | ⟨zi, qi⟩ <;> rcases at_ j v hj with ⟨zj, qj⟩ | ⟨zj, qj⟩
    · rw [putI_lt zi, putI_lt zj] at e
      exact s.inj i j u v qi hu qj hv e
    · rw [putI_lt zi, zj, putI_same] at e
      obtain ⟨_, _, t⟩ := s.live i u qi hu
      obtain ⟨v, hv⟩ := t.some hu
      exact absurd e (ne_of_none hv h)
    · rw [putI_lt zj, zi, putI_same] at e
      obtain ⟨_, _, t⟩ := s.live j v qj hv
      obtain ⟨v, hv⟩ := t.some hv
      exact absurd e.symm (ne_of_none hv h)
    · rw [zi, zj]
/-- a ghost object is changed -/
theorem Sim.write {i : Nat} {o : HO} {g g0 : GO} (s : Sim C F H ι G) (hi : G[i]? = some g0) (h0 : g0 ≠ .dead) (r : RpO C.m F ι G.length (upd H (ι i) o) (ι i) g) (h1 : g0.isL = false := by rfl) (h2 : g.isL = false := by rfl) :
    Sim C F (upd H (ι i) o) ι (G.set i g) := by
  obtain ⟨hF, hB', _⟩ := s.live i g0 hi h0
  have hB := hB'.1 h1
  have hl : i < G.length := by
    rcases Nat.lt_or_ge i G.length with z | z
    · exact z
    · rw [List.getElem?_eq_none z] at hi; cases hi
  have at_ : ∀ j u, (G.set i g)[j]? = some u → (j = i ∧ u = g) ∨ (j ≠ i ∧ G[j]? = some u) := fun j u q => by
    by_cases e : i = j
    · subst e
      rw [List.getElem?_set_self hl] at q
      exact .inl ⟨rfl, (Option.some.inj q).symm⟩
    · rw [List.getElem?_set_ne e] at q
      exact .inr ⟨fun z => e z.symm, q⟩
  refine ⟨fun b u q => by rw [upd_ne (ne_of_none q hF)]; exact s.fh _ _ q, fun b u q => by rw [upd_ne (ne_of_none q hB)]; exact s.bh _ _ q, s.ff, s.new, fun j u hj hu => ?_, fun j k u v hj hu hk hv e => ?_⟩
  · rw [List.length_set]
    rcases at_ j u hj with ⟨z, q⟩ | ⟨z, q⟩
    · subst z q
      exact ⟨hF, ⟨fun _ => hB, fun z => by rw [h2] at z; cases z⟩, r⟩
    · obtain ⟨a, b, t⟩ := s.live j u q hu
      have ne : ι j ≠ ι i := fun e => z (s.inj j i u g0 q hu hi h0 e)
      exact ⟨a, b, t.mono .refl fun w q => by rw [upd_ne ne]; exact q⟩
  · rcases at_ j u hj with ⟨z, q⟩ | ⟨z, q⟩ <;> rcases at_ k v hk with ⟨z2, q2⟩ | ⟨z2, q2⟩
    · rw [z, z2]
    · exact (s.inj k j v g0 q2 hv (by rw [z]; exact hi) h0 e.symm).symm
    · exact s.inj j k u g0 q hu (by rw [z2]; exact hi) h0 e
    · exact s.inj j k u v q hu q2 hv e
/-- a ghost object is frozen: no one changes it any more -/
theorem Sim.freeze {i : Nat} {o : HO} {g0 : GO} (s : Sim C F H ι G) (hi : G[i]? = some g0) (h0 : g0 ≠ .dead) (ho : H (ι i) = some o) (h1 : g0.isL = false := by rfl) :
    Sim C (upd F (ι i) o) H ι (G.set i .dead) ∧ Ext F ι G.length (upd F (ι i) o) ι (G.set i .dead).length := by
  obtain ⟨hF, hB', _⟩ := s.live i g0 hi h0
  have hB := hB'.1 h1
  have ext : Ext F ι G.length (upd F (ι i) o) ι (G.set i .dead).length := ⟨fun b u q => by rw [upd_ne (ne_of_none q hF)]; exact q, fun _ _ => rfl, by simp⟩
  have at_ : ∀ j u, (G.set i .dead)[j]? = some u → u ≠ .dead → j ≠ i ∧ G[j]? = some u := fun j u q hu => by
    by_cases e : i = j
    · subst e
      rw [List.getElem?_set] at q
      split at q
      · split at q
        · exact absurd (Option.some.inj q).symm hu
        · cases q
      · exact absurd rfl ‹_›
    · rw [List.getElem?_set_ne e] at q
      exact ⟨fun z => e z.symm, q⟩
  refine ⟨⟨fun b u q => ?_, s.bh, s.ff.trans ext.fr, fun b u q => ?_, fun j u hj hu => ?_, fun j k u v hj hu hk hv e => ?_⟩, ext⟩
  · by_cases e : b = ι i
    · subst e; rw [upd_same] at q; cases q; exact ho
    · rw [upd_ne e] at q; exact s.fh _ _ q
  · by_cases e : b = ι i
    · subst e; exact .inr hB
    · rw [upd_ne e] at q; exact s.new _ _ q
  · obtain ⟨z, q⟩ := at_ j u hj hu
    obtain ⟨a, b, t⟩ := s.live j u q hu
    have ne : ι j ≠ ι i := fun e => z (s.inj j i u g0 q hu hi h0 e)
    exact ⟨by rw [upd_ne ne]; exact a, b, t.mono ext fun w q => q⟩
  · obtain ⟨z, q⟩ := at_ j u hj hu
    obtain ⟨z2, q2⟩ := at_ k v hk hv
    exact s.inj j k u v q hu q2 hv e
end

/-! ### the monad -/
def Res.bind {α β : Type} : Res α → (α → Hg → Res β) → Res β
  | .stuck, _ => .stuck
  | .exc e G, _ => .exc e G
  | .ok a G, k => k a G
def lift {α : Type} : Option (α × Hg) → Res α
  | none => .stuck
  | some (a, G) => .ok a G
def liftP {α : Type} (o : Option α) (G : Hg) : Res α := match o with
  | none => .stuck
  | some a => .ok a G
section
variable {C : GC} {F : Hp} {ι : Nat → Addr} {n : Nat} {σ : L2.St} {Q Q' : VK}
theorem Post.imp {r : Res W} (h : Post C F ι n σ r Q) (k : ∀ v H', Q v H' → Q' v H') : Post C F ι n σ r Q' := by
  cases r with
  | stuck => exact h
  | exc x G' => exact h
  | ok w G' => exact fun v H' q => k _ _ (h v H' q)
/-- the first part of a run in two parts -/
theorem Post.fst {r : Res W} {k : W → Hg → Res W} (h : Post C F ι n σ (r.bind k) Q) :
    Post C F ι n σ r fun v H1 => ∃ F1 ι1 w G1, Ext F ι n F1 ι1 G1.length ∧ Sim C F1 H1 ι1 G1 ∧ RpW C.m F1 ι1 G1.length w v ∧ Post C F1 ι1 G1.length σ (k w G1) Q := by
  cases r with
  | stuck => exact h
  | exc x G' => exact h
  | ok w G' => exact fun v H' ⟨F1, ι1, e, s, rr⟩ => ⟨F1, ι1, w, G', e, s, rr, Post.base e h⟩
theorem Post.fstL {r : Res W} {k : W → Hg → Res (List W)} {Q : List V → Hp → Prop} (h : PostL C F ι n σ (r.bind k) Q) :
    Post C F ι n σ r fun v H1 => ∃ F1 ι1 w G1, Ext F ι n F1 ι1 G1.length ∧ Sim C F1 H1 ι1 G1 ∧ RpW C.m F1 ι1 G1.length w v ∧ PostL C F1 ι1 G1.length σ (k w G1) Q := by
  cases r with
  | stuck => exact h
  | exc x G' => exact h
  | ok w G' =>
    refine fun v H' ⟨F1, ι1, e, s, rr⟩ => ⟨F1, ι1, w, G', e, s, rr, ?_⟩
    have h : PostL C F ι n σ (k w G') Q := h
    cases hk : k w G' with
    | stuck => rw [hk] at h; exact h
    | exc x G2 => rw [hk] at h; exact fun cls d H2 q => h cls d H2 (q.base e)
    | ok ws G2 => rw [hk] at h; exact fun vs H2 ⟨F2, ι2, a, b, c⟩ => h vs H2 ⟨F2, ι2, e.trans a, b, c⟩
theorem PostL.fst {r : Res (List W)} {k : List W → Hg → Res W} (h : Post C F ι n σ (r.bind k) Q) :
    PostL C F ι n σ r fun v H1 => ∃ F1 ι1 w G1, Ext F ι n F1 ι1 G1.length ∧ Sim C F1 H1 ι1 G1 ∧ RpWL C.m F1 ι1 G1.length w v ∧ Post C F1 ι1 G1.length σ (k w G1) Q := by
  cases r with
  | stuck => exact h
  | exc x G' => exact h
  | ok w G' => exact fun v H' ⟨F1, ι1, e, s, rr⟩ => ⟨F1, ι1, w, G', e, s, rr, Post.base e h⟩
theorem PostL.imp {r : Res (List W)} {Q Q' : List V → Hp → Prop} (h : PostL C F ι n σ r Q) (k : ∀ v H', Q v H' → Q' v H') : PostL C F ι n σ r Q' := by
  cases r with
  | stuck => exact h
  | exc x G' => exact h
  | ok w G' => exact fun v H' q => k _ _ (h v H' q)
theorem PostL.base {F1 : Hp} {ι1 : Nat → Addr} {n1 : Nat} {r : Res (List W)} {Q : List V → Hp → Prop} (e : Ext F ι n F1 ι1 n1) (h : PostL C F ι n σ r Q) : PostL C F1 ι1 n1 σ r Q := by
  cases r with
  | stuck => exact h
  | exc x G' => exact fun cls d H' q => h cls d H' (q.base e)
  | ok w G' => exact fun v H' ⟨F2, ι2, a, b, c⟩ => h v H' ⟨F2, ι2, e.trans a, b, c⟩
theorem PostL.fstL {r : Res (List W)} {k : List W → Hg → Res (List W)} {Q : List V → Hp → Prop} (h : PostL C F ι n σ (r.bind k) Q) :
    PostL C F ι n σ r fun v H1 => ∃ F1 ι1 w G1, Ext F ι n F1 ι1 G1.length ∧ Sim C F1 H1 ι1 G1 ∧ RpWL C.m F1 ι1 G1.length w v ∧ PostL C F1 ι1 G1.length σ (k w G1) Q := by
  cases r with
  | stuck => exact h
  | exc x G' => exact h
  | ok w G' => exact fun v H' ⟨F1, ι1, e, s, rr⟩ => ⟨F1, ι1, w, G', e, s, rr, PostL.base e h⟩
end
section
variable {C : GC} {F : Hp} {ι : Nat → Addr} {n : Nat} {σ : L2.St} {Q : Bool → Hp → Prop}
theorem PostB.imp {r : Res Bool} {Q Q' : Bool → Hp → Prop} (h : PostB C F ι n σ r Q) (k : ∀ v H', Q v H' → Q' v H') : PostB C F ι n σ r Q' := by
  cases r with
  | stuck => exact h
  | exc x G' => exact h
  | ok w G' => exact fun v H' q => k _ _ (h v H' q)
theorem PostB.base {F1 : Hp} {ι1 : Nat → Addr} {n1 : Nat} {r : Res Bool} (e : Ext F ι n F1 ι1 n1) (h : PostB C F ι n σ r Q) : PostB C F1 ι1 n1 σ r Q := by
  cases r with
  | stuck => exact h
  | exc x G' => exact fun cls d H' q => h cls d H' (q.base e)
  | ok w G' => exact fun v H' ⟨z, F2, ι2, a, b⟩ => h v H' ⟨z, F2, ι2, e.trans a, b⟩
theorem PostB.fst {r : Res W} {k : W → Hg → Res Bool} (h : PostB C F ι n σ (r.bind k) Q) :
    Post C F ι n σ r fun v H1 => ∃ F1 ι1 w G1, Ext F ι n F1 ι1 G1.length ∧ Sim C F1 H1 ι1 G1 ∧ RpW C.m F1 ι1 G1.length w v ∧ PostB C F1 ι1 G1.length σ (k w G1) Q := by
  cases r with
  | stuck => exact h
  | exc x G' => exact h
  | ok w G' => exact fun v H' ⟨F1, ι1, e, s, rr⟩ => ⟨F1, ι1, w, G', e, s, rr, PostB.base e h⟩
theorem PostB.fstB {r : Res Bool} {k : Bool → Hg → Res Bool} (h : PostB C F ι n σ (r.bind k) Q) :
    PostB C F ι n σ r fun v H1 => ∃ F1 ι1 G1, Ext F ι n F1 ι1 G1.length ∧ Sim C F1 H1 ι1 G1 ∧ PostB C F1 ι1 G1.length σ (k v G1) Q := by
  cases r with
  | stuck => exact h
  | exc x G' => exact h
  | ok w G' =>
    rintro v H' ⟨rfl, F1, ι1, e, s⟩
    exact ⟨F1, ι1, G', e, s, PostB.base e h⟩
theorem PostB.fstE {Q : VK} {r : Res Bool} {k : Bool → Hg → Res W} (h : Post C F ι n σ (r.bind k) Q) :
    PostB C F ι n σ r fun v H1 => ∃ F1 ι1 G1, Ext F ι n F1 ι1 G1.length ∧ Sim C F1 H1 ι1 G1 ∧ Post C F1 ι1 G1.length σ (k v G1) Q := by
  cases r with
  | stuck => exact h
  | exc x G' => exact h
  | ok w G' =>
    rintro v H' ⟨rfl, F1, ι1, e, s⟩
    exact ⟨F1, ι1, G', e, s, Post.base e h⟩
end

/-! ### judgements -/
abbrev md (X : Cx) : Md := ⟨X.K, X.mg⟩
abbrev gc (X : Cx) (B F0 : Hp) (wx : WX) : GC := ⟨md X, B, F0, wx⟩
structure GJE (X : Cx) (e : Expr) (g : GE) : Prop where
  run : ∀ B F0 wx, Takes X wx → PE X e (gTE (gc X B F0 wx) g)
structure GJA (X : Cx) (e : List Expr) (g : GEs) : Prop where
  run : ∀ B F0 wx, Takes X wx → PA X e (gTA (gc X B F0 wx) g)
structure GJT (X : Cx) (e : Expr) (g : GT) : Prop where
  run : ∀ B F0 wx, Takes X wx → PT X e (gTT (gc X B F0 wx) g)
structure GJW (X : Cx) (e : Expr) (g : GT) : Prop where
  run : ∀ B F0 wx, Takes X wx → PW X e (gTT (gc X B F0 wx) g)
theorem GJW.pt {X : Cx} {e : Expr} {g : GT} (h : GJW X e g) : GJT X e g := ⟨fun B F0 wx tk => (h.run B F0 wx tk).pt⟩

/-! ### names and constants -/
def gVar (i : Nat) : GE := fun ρ G => match ρ[i]? with
  | some (some w) => .ok w G
  | _ => .stuck
def gC (x : D) : GE := fun _ G => .ok (.d x) G
section
variable {X : Cx}
theorem ge_var (i : Nat) {x : Str} {pos : Pos} (hN : X.N[i]? = some x := by rfl) (hv : Vis X.env.scope x := by first | exact Or.inl rfl | exact Or.inr (Or.inl rfl) | exact Or.inr (Or.inr rfl)) (hd : (x == ("__debug__" : Str)) = false := by decide)
    (hcd : (x == ("__classdict__" : Str)) = false := by decide) : GJE X (.Name x pos) (gVar i) := ⟨fun B F0 wx _ => by
  refine PE.imp (pe_var hN hv hd hcd) fun σ H Q ⟨F, ι, ρ, G, hs, he, hp⟩ => ?_
  unfold gVar at hp
  cases hr : ρ[i]? with
  | none => rw [hr] at hp; exact hp.elim
  | some o =>
    cases o with
    | none => rw [hr] at hp; exact hp.elim
    | some w =>
      rw [hr] at hp
      obtain ⟨v, h1, h2⟩ := he.2 i w hr
      exact ⟨v, h1, hp v H ⟨F, ι, .refl, hs, h2⟩⟩⟩
/-- a constant: its reading leaves the heap as it is -/
theorem ge_const {e : Expr} {v : V} {d : D} (h : PE X e (tC v)) (r : ∀ F, Rp (md X) F d v) : GJE X e (gC d) := ⟨fun B F0 wx _ => by
  refine PE.imp h fun σ H Q ⟨F, ι, ρ, G, hs, he, hp⟩ => ?_
  exact hp v H ⟨F, ι, .refl, hs, by simp only [RpW]; exact r F⟩⟩
theorem ge_int {i : Int} {j pos} : GJE X (.Constant (.int i) j pos) (gC (.int i)) := ge_const pe_int fun _ => by simp only [Rp]
theorem ge_str {i : Str} {j pos} : GJE X (.Constant (.str i) j pos) (gC (.str i)) := ge_const pe_str fun _ => by simp only [Rp]
theorem ge_bl {i : Bool} {j pos} : GJE X (.Constant (.bool i) j pos) (gC (.bl i)) := ge_const pe_bl fun _ => by simp only [Rp]
theorem ge_non {j pos} : GJE X (.Constant .none j pos) (gC .non) := ge_const pe_non fun _ => by simp only [Rp]
/-- a module's constant -/
structure GlobD (K : PySem.W.Frag) (mg : Str → Option Value) (x : Str) (d : D) : Prop where
  ex : ∃ u v, mg x = some u ∧ RelV v u ∧ ∀ F, Rp ⟨K, mg⟩ F d v
theorem ge_glob {x : Str} {d : D} {pos : Pos} (h : GlobD X.K X.mg x d) (hg : Gl X x := by rfl) (hd : (x == ("__debug__" : Str)) = false := by decide) : GJE X (.Name x pos) (gC d) := by
  obtain ⟨u, v, h1, h2, h3⟩ := h.ex
  exact ge_const (pe_glob hg h1 h2 hd) h3
end

/-! ### two-place operations by values -/
def gBin (f : W → W → Hg → Option (W × Hg)) (a b : GE) : GE := fun ρ G => (a ρ G).bind fun x G1 => (b ρ G1).bind fun y G2 => lift (f x y G2)
/-- f is what the reading r does -/
def OpG (X : Cx) (r : R2) (f : W → W → Hg → Option (W × Hg)) : Prop := ∀ (C : GC) (F H : Hp) (ι : Nat → Addr) (G : Hg) (w u : W) (x y : V) (z : W) (G' : Hg) (Q : VK), C.m = md X → Sim C F H ι G → RpW C.m F ι G.length w x → RpW C.m F ι G.length u y →
  f w u G = some (z, G') → (∀ v H', Out C F ι G.length z G' v H' → Q v H') → r x y H Q
theorem gTE_bin {X : Cx} {B F0 : Hp} {wx : WX} {r : R2} {f : W → W → Hg → Option (W × Hg)} {ga gb : GE} (hf : OpG X r f) {σ : L2.St} {H : Hp} {Q : VK} (h : gTE (gc X B F0 wx) (gBin f ga gb) σ H Q) :
    tOp r (gTE (gc X B F0 wx) ga) (gTE (gc X B F0 wx) gb) σ H Q := by
  obtain ⟨F, ι, ρ, G, hs, he, hp⟩ := h
  refine ⟨F, ι, ρ, G, hs, he, (Post.fst hp).imp fun x H1 ⟨F1, ι1, w, G1, e1, s1, r1, p1⟩ => ⟨F1, ι1, ρ, G1, s1, he.mono e1, (Post.fst p1).imp fun y H2 ⟨F2, ι2, u, G2, e2, s2, r2, p2⟩ => ?_⟩⟩
  cases q : f w u G2 with
  | none => rw [q] at p2; exact p2.elim
  | some o =>
    obtain ⟨z, G3⟩ := o
    rw [q] at p2
    exact hf _ F2 H2 ι2 G2 w u x y z G3 Q rfl s2 (r1.mono e2) r2 q p2
section
variable {X : Cx} {a b : Expr} {ga gb : GE} {pos : Pos} {r : R2} {f : W → W → Hg → Option (W × Hg)}
theorem ge_op {op : Operator} (ho : OpR X (binaryOp op) r) (hf : OpG X r f) (ha : GJE X a ga) (hb : GJE X b gb) : GJE X (.BinOp a op b pos) (gBin f ga gb) :=
  ⟨fun B F0 wx tk => PE.imp (pe_op ho (ha.run B F0 wx tk) (hb.run B F0 wx tk)) fun _ _ _ h => gTE_bin hf h⟩
theorem ge_cmp {op : CmpOp} (ho : OpR X (compareOp op) r) (hf : OpG X r f) (ha : GJE X a ga) (hb : GJE X b gb) (hm : behindInMarks op b = false := by first | exact nomark _ | rfl) : GJE X (.Compare a [op] [b] pos) (gBin f ga gb) :=
  ⟨fun B F0 wx tk => PE.imp (pe_cmpR ho (ha.run B F0 wx tk) (hb.run B F0 wx tk) hm) fun _ _ _ h => gTE_bin hf h⟩
theorem ge_ix {r : R2} (ho : IxR X r) (hf : OpG X r f) (ha : GJE X a ga) (hb : GJE X b gb) (hs : PlainIx b := by exact fun _ _ => rfl) : GJE X (.Subscript a b pos) (gBin f ga gb) :=
  ⟨fun B F0 wx tk => PE.imp (pe_ix ho (ha.run B F0 wx tk) (hb.run B F0 wx tk) hs) fun _ _ _ h => gTE_bin hf h⟩
end

/-! ### argument lists, displays, calls of built-ins by values -/
def gNilA : GEs := fun _ G => .ok [] G
def gConsA (a : GE) (r : GEs) : GEs := fun ρ G => (a ρ G).bind fun x G1 => (r ρ G1).bind fun xs G2 => .ok (x :: xs) G2
section
variable {X : Cx} {e : Expr} {es : List Expr} {g : GE} {gs : GEs} {pos : Pos}
theorem ga_nil : GJA X [] gNilA := ⟨fun B F0 wx _ => PA.imp pa_nil fun σ H Q ⟨F, ι, ρ, G, hs, he, hp⟩ => hp [] H ⟨F, ι, .refl, hs, by simp only [RpWL]⟩⟩
theorem ga_cons (ha : GJE X e g) (hr : GJA X es gs) (hs : starEach (e :: es) X.env = (false, eval e X.env) :: starEach es X.env := by rfl) : GJA X (e :: es) (gConsA g gs) := ⟨fun B F0 wx tk => by
  refine PA.imp (pa_cons (ha.run B F0 wx tk) (hr.run B F0 wx tk) hs) fun σ H Q ⟨F, ι, ρ, G, s, he, hp⟩ => ?_
  refine ⟨F, ι, ρ, G, s, he, (Post.fstL hp).imp fun x H1 ⟨F1, ι1, w, G1, e1, s1, r1, p1⟩ => ⟨F1, ι1, ρ, G1, s1, he.mono e1, (PostL.fstL p1).imp fun xs H2 ⟨F2, ι2, ws, G2, e2, s2, r2, p2⟩ => ?_⟩⟩
  exact p2 (x :: xs) H2 ⟨F2, ι2, .refl, s2, by simp only [RpWL]; exact ⟨x, xs, rfl, r1.mono e2, r2⟩⟩⟩
end
/-- a call of a known thing with values -/
def CallG (X : Cx) (r : List V → Hp → VK → Prop) (f : List W → Hg → Option (W × Hg)) : Prop := ∀ (C : GC) (F H : Hp) (ι : Nat → Addr) (G : Hg) (ws : List W) (xs : List V) (z : W) (G' : Hg) (Q : VK), C.m = md X → Sim C F H ι G → RpWL C.m F ι G.length ws xs →
  f ws G = some (z, G') → (∀ v H', Out C F ι G.length z G' v H' → Q v H') → r xs H Q
def gCall (f : List W → Hg → Option (W × Hg)) (a : GEs) : GE := fun ρ G => (a ρ G).bind fun xs G1 => lift (f xs G1)
section
variable {X : Cx} {e : Expr} {es : List Expr} {gs : GEs} {p pos : Pos} {x : Str} {r : List V → Hp → VK → Prop} {f : List W → Hg → Option (W × Hg)}
theorem gTE_call {B F0 : Hp} {wx : WX} (hf : CallG X r f) {σ : L2.St} {H : Hp} {Q : VK} (h : gTE (gc X B F0 wx) (gCall f gs) σ H Q) : gTA (gc X B F0 wx) gs σ H fun vs H1 => r vs H1 Q := by
  obtain ⟨F, ι, ρ, G, hs, he, hp⟩ := h
  refine ⟨F, ι, ρ, G, hs, he, (PostL.fst hp).imp fun xs H1 ⟨F1, ι1, ws, G1, e1, s1, r1, p1⟩ => ?_⟩
  cases q : f ws G1 with
  | none => rw [q] at p1; exact p1.elim
  | some o =>
    obtain ⟨z, G3⟩ := o
    rw [q] at p1
    exact hf _ F1 H1 ι1 G1 ws xs z G3 Q rfl s1 r1 q p1
theorem ge_callB {id : String} (hc : CallR X (.builtin id) r) (hf : CallG X r f) (hm : X.mg x = none) (ha : GJA X (e :: es) gs) (hv : bootBuiltins x = some (.builtin id) := by decide +kernel) (hg : Gl X x := by rfl) (hn : x ≠ "__name__" := by decide) (hdb : (x == ("__debug__" : Str)) = false := by decide)
    (he : starEach (e :: es) X.env = (false, eval e X.env) :: starEach es X.env := by rfl) (hpl : (backTo pos (starEach es X.env)).any (·.1) = false := by rfl) : GJE X (.Call (.Name x p) (e :: es) [] pos) (gCall f gs) :=
  ⟨fun B F0 wx tk => PE.imp (pe_callB hc hg hm hv (ha.run B F0 wx tk) hn hdb he hpl) fun _ _ _ h => gTE_call hf h⟩
theorem ge_callTy {T : String} (hc : CallR X (.type T) r) (hf : CallG X r f) (hm : X.mg x = none) (ha : GJA X (e :: es) gs) (hv : bootBuiltins x = some (.type T) := by decide +kernel) (hg : Gl X x := by rfl) (hn : x ≠ "__name__" := by decide) (hdb : (x == ("__debug__" : Str)) = false := by decide)
    (he : starEach (e :: es) X.env = (false, eval e X.env) :: starEach es X.env := by rfl) (hpl : (backTo pos (starEach es X.env)).any (·.1) = false := by rfl) : GJE X (.Call (.Name x p) (e :: es) [] pos) (gCall f gs) :=
  ⟨fun B F0 wx tk => PE.imp (pe_callTy hc hg hm hv (ha.run B F0 wx tk) hn hdb he hpl) fun _ _ _ h => gTE_call hf h⟩
end

/-! ### tests -/
/-- a value that is a bool, as a test -/
def asB : W → Option Bool
  | .d (.bl b) => some b
  | _ => none
def gTst (a : GE) : GT := fun ρ G => (a ρ G).bind fun x G1 => liftP (asB x) G1
section
variable {X : Cx} {a b : Expr} {ga gb : GE} {ta tb : GT} {pos : Pos}
theorem gTT_tst {B F0 : Hp} {wx : WX} {σ : L2.St} {H : Hp} {Q : Bool → Hp → Prop} (h : gTT (gc X B F0 wx) (gTst ga) σ H Q) : gTE (gc X B F0 wx) ga σ H fun x H1 => ∃ k, x = .bl k ∧ Q k H1 := by
  obtain ⟨F, ι, ρ, G, hs, he, hp⟩ := h
  refine ⟨F, ι, ρ, G, hs, he, (PostB.fst hp).imp fun x H1 ⟨F1, ι1, w, G1, e1, s1, r1, p1⟩ => ?_⟩
  cases w with
  | ref i => exact p1.elim
  | tup ws => exact p1.elim
  | d x' =>
    cases x' with
    | bl k =>
      simp only [RpW, Rp] at r1
      exact ⟨k, r1, p1 k H1 ⟨rfl, F1, ι1, .refl, s1⟩⟩
    | _ => exact p1.elim
theorem gt_val (ha : GJE X a ga) (he : ∀ whole, isTrue a X.env whole = (do let v ← whole; standAt a.pos; holding [v] (truthy v)) := by intro _; rfl) : GJT X a (gTst ga) :=
  ⟨fun B F0 wx tk => PT.imp (pt_val (ha.run B F0 wx tk) he) fun _ _ _ h => gTT_tst h⟩
theorem gt_cmp {op : CmpOp} {r : R2} {f : W → W → Hg → Option (W × Hg)} (ho : OpR X (compareOp op) r) (hf : OpG X r f) (ha : GJE X a ga) (hb : GJE X b gb) (hm : behindInMarks op b = false := by first | exact nomark _ | rfl) : GJT X (.Compare a [op] [b] pos) (gTst (gBin f ga gb)) :=
  ⟨fun B F0 wx tk => PT.imp (pt_cmpR ho (ha.run B F0 wx tk) (hb.run B F0 wx tk) hm) fun σ H Q h => gTE_bin hf (gTT_tst h)⟩
def gAnd (a b : GT) : GT := fun ρ G => (a ρ G).bind fun x G1 => if x then b ρ G1 else .ok false G1
def gOr (a b : GT) : GT := fun ρ G => (a ρ G).bind fun x G1 => if x then .ok true G1 else b ρ G1
def gNot (a : GT) : GT := fun ρ G => (a ρ G).bind fun x G1 => .ok (!x) G1
theorem gw_and1 (ha : GJT X a ta) : GJW X (.BoolOp .And [a] pos) ta := ⟨fun B F0 wx tk => pw_and1 (ha.run B F0 wx tk)⟩
theorem gw_or1 (ha : GJT X a ta) : GJW X (.BoolOp .Or [a] pos) ta := ⟨fun B F0 wx tk => pw_or1 (ha.run B F0 wx tk)⟩
theorem gw_and {rest : List Expr} (ha : GJT X a ta) (hb : GJW X (.BoolOp .And (b :: rest) pos) tb) : GJW X (.BoolOp .And (a :: b :: rest) pos) (gAnd ta tb) := ⟨fun B F0 wx tk => by
  refine PW.imp (pw_and (ha.run B F0 wx tk) (hb.run B F0 wx tk)) fun σ H Q ⟨F, ι, ρ, G, hs, he, hp⟩ => ?_
  refine ⟨F, ι, ρ, G, hs, he, (PostB.fstB hp).imp fun x H1 ⟨F1, ι1, G1, e1, s1, p1⟩ => ?_⟩
  cases x with
  | true => exact ⟨F1, ι1, ρ, G1, s1, he.mono e1, p1⟩
  | false => exact p1 false H1 ⟨rfl, F1, ι1, .refl, s1⟩⟩
theorem gw_or {rest : List Expr} (ha : GJT X a ta) (hb : GJW X (.BoolOp .Or (b :: rest) pos) tb) : GJW X (.BoolOp .Or (a :: b :: rest) pos) (gOr ta tb) := ⟨fun B F0 wx tk => by
  refine PW.imp (pw_or (ha.run B F0 wx tk) (hb.run B F0 wx tk)) fun σ H Q ⟨F, ι, ρ, G, hs, he, hp⟩ => ?_
  refine ⟨F, ι, ρ, G, hs, he, (PostB.fstB hp).imp fun x H1 ⟨F1, ι1, G1, e1, s1, p1⟩ => ?_⟩
  cases x with
  | false => exact ⟨F1, ι1, ρ, G1, s1, he.mono e1, p1⟩
  | true => exact p1 true H1 ⟨rfl, F1, ι1, .refl, s1⟩⟩
theorem gt_not (ha : GJT X a ta) : GJT X (.UnaryOp .Not a pos) (gNot ta) := ⟨fun B F0 wx tk => by
  refine PT.imp (pt_not (ha.run B F0 wx tk)) fun σ H Q ⟨F, ι, ρ, G, hs, he, hp⟩ => ?_
  refine ⟨F, ι, ρ, G, hs, he, (PostB.fstB hp).imp fun x H1 ⟨F1, ι1, G1, e1, s1, p1⟩ => ?_⟩
  exact p1 _ H1 ⟨rfl, F1, ι1, .refl, s1⟩⟩
/-! .. as values -/
def gAndV (a b : GE) : GE := fun ρ G => (a ρ G).bind fun x G1 => match asB x with
  | none => .stuck
  | some true => b ρ G1
  | some false => .ok (.d (.bl false)) G1
def gOrV (a b : GE) : GE := fun ρ G => (a ρ G).bind fun x G1 => match asB x with
  | none => .stuck
  | some true => .ok (.d (.bl true)) G1
  | some false => b ρ G1
def gNotV (a : GE) : GE := fun ρ G => (a ρ G).bind fun x G1 => match asB x with
  | none => .stuck
  | some k => .ok (.d (.bl (!k))) G1
theorem asB_is {C : Md} {F : Hp} {ι : Nat → Addr} {n : Nat} {w : W} {v : V} {k : Bool} (h : asB w = some k) (r : RpW C F ι n w v) : v = .bl k := by
  cases w with
  | ref i => cases h
  | tup ws => cases h
  | d x' =>
    cases x' with
    | bl b =>
      simp only [RpW, Rp] at r
      cases h
      exact r
    | _ => cases h
theorem ge_one {op} (ha : GJE X a ga) : GJE X (.BoolOp op [a] pos) ga := ⟨fun B F0 wx tk => pe_one (ha.run B F0 wx tk)⟩
theorem ge_and {rest : List Expr} (ha : GJE X a ga) (hb : GJE X (.BoolOp .And (b :: rest) pos) gb) : GJE X (.BoolOp .And (a :: b :: rest) pos) (gAndV ga gb) := ⟨fun B F0 wx tk => by
  refine PE.imp (pe_and (ha.run B F0 wx tk) (hb.run B F0 wx tk)) fun σ H Q ⟨F, ι, ρ, G, hs, he, hp⟩ => ?_
  refine ⟨F, ι, ρ, G, hs, he, (Post.fst hp).imp fun x H1 ⟨F1, ι1, w, G1, e1, s1, r1, p1⟩ => ?_⟩
  cases k : asB w with
  | none => rw [k] at p1; exact p1.elim
  | some c =>
    rw [k] at p1
    refine ⟨c, asB_is k r1, ?_⟩
    cases c with
    | true => exact ⟨F1, ι1, ρ, G1, s1, he.mono e1, p1⟩
    | false => exact p1 _ H1 ⟨F1, ι1, .refl, s1, by simp only [RpW, Rp]⟩⟩
theorem ge_or {rest : List Expr} (ha : GJE X a ga) (hb : GJE X (.BoolOp .Or (b :: rest) pos) gb) : GJE X (.BoolOp .Or (a :: b :: rest) pos) (gOrV ga gb) := ⟨fun B F0 wx tk => by
  refine PE.imp (pe_or (ha.run B F0 wx tk) (hb.run B F0 wx tk)) fun σ H Q ⟨F, ι, ρ, G, hs, he, hp⟩ => ?_
  refine ⟨F, ι, ρ, G, hs, he, (Post.fst hp).imp fun x H1 ⟨F1, ι1, w, G1, e1, s1, r1, p1⟩ => ?_⟩
  cases k : asB w with
  | none => rw [k] at p1; exact p1.elim
  | some c =>
    rw [k] at p1
    refine ⟨c, asB_is k r1, ?_⟩
    cases c with
    | false => exact ⟨F1, ι1, ρ, G1, s1, he.mono e1, p1⟩
    | true => exact p1 _ H1 ⟨F1, ι1, .refl, s1, by simp only [RpW, Rp]⟩⟩
theorem ge_not (ha : GJE X a ga) : GJE X (.UnaryOp .Not a pos) (gNotV ga) := ⟨fun B F0 wx tk => by
  refine PE.imp (pe_not (ha.run B F0 wx tk)) fun σ H Q ⟨F, ι, ρ, G, hs, he, hp⟩ => ?_
  refine ⟨F, ι, ρ, G, hs, he, (Post.fst hp).imp fun x H1 ⟨F1, ι1, w, G1, e1, s1, r1, p1⟩ => ?_⟩
  cases k : asB w with
  | none => rw [k] at p1; exact p1.elim
  | some c =>
    rw [k] at p1
    exact ⟨c, asB_is k r1, p1 _ H1 ⟨F1, ι1, .refl, s1, by simp only [RpW, Rp]⟩⟩⟩
def gIfE (c : GT) (a b : GE) : GE := fun ρ G => (c ρ G).bind fun x G1 => if x then a ρ G1 else b ρ G1
theorem ge_if {c : Expr} {tc : GT} (hc : GJT X c tc) (ha : GJE X a ga) (hb : GJE X b gb) : GJE X (.IfExp c a b pos) (gIfE tc ga gb) := ⟨fun B F0 wx tk => by
  refine PE.imp (pe_ifExp (hc.run B F0 wx tk) (ha.run B F0 wx tk) (hb.run B F0 wx tk)) fun σ H Q ⟨F, ι, ρ, G, hs, he, hp⟩ => ?_
  refine ⟨F, ι, ρ, G, hs, he, (PostB.fstE hp).imp fun x H1 ⟨F1, ι1, G1, e1, s1, p1⟩ => ?_⟩
  cases x with
  | true => exact ⟨F1, ι1, ρ, G1, s1, he.mono e1, p1⟩
  | false => exact ⟨F1, ι1, ρ, G1, s1, he.mono e1, p1⟩⟩
end
end Gh

set_option Elab.async false
set_option linter.all false
set_option maxRecDepth 100000
set_option maxHeartbeats 4000000
namespace Gh
open PySem PySem.Spec PyProof.Rows L2

/-! ### trees as the library's data -/
mutual
def toPy : D → PyData
  | .non => .none
  | .bl b => .bool b
  | .int i => .int i
  | .str x => .str x
  | .tup ds => .tuple (toPyL ds)
  | .lst ds => .list (toPyL ds)
  | .dic _ _ => .dict []
  | .ins _ _ => .dict []
def toPyL : List D → List PyData
  | [] => []
  | d :: ds => toPy d :: toPyL ds
end
section
variable {C : Md} {F : Hp}
mutual
theorem Rp.dp : ∀ {d : D} {v : V}, (toPy d).canLay0 = true → Rp C F d v → Dp C.K F v (toPy d)
  | .non, v, _, h => by simp only [Rp] at h; subst h; simp only [toPy]; exact .non
  | .bl b, v, _, h => by simp only [Rp] at h; subst h; simp only [toPy]; exact .bl b
  | .int i, v, _, h => by simp only [Rp] at h; subst h; simp only [toPy]; exact .int i
  | .str x, v, _, h => by simp only [Rp] at h; subst h; simp only [toPy]; exact .str x
  | .tup ds, v, c, h => by
    simp only [Rp] at h
    obtain ⟨a, xs, rfl, h2, h3⟩ := h
    simp only [toPy, PyData.canLay0] at c ⊢
    exact .tup h2 (RpL.dp c h3)
  | .lst ds, v, c, h => by
    simp only [Rp] at h
    obtain ⟨a, xs, rfl, h2, h3⟩ := h
    simp only [toPy, PyData.canLay0] at c ⊢
    exact .lst h2 (RpL.dp c h3)
  | .dic _ _, v, c, _ => by simp [toPy, PyData.canLay0] at c
  | .ins _ _, v, c, _ => by simp [toPy, PyData.canLay0] at c
theorem RpL.dp : ∀ {ds : List D} {xs : List V}, PyData.canLayAll0 (toPyL ds) = true → RpL C F ds xs → DpAll C.K F xs (toPyL ds)
  | [], xs, _, h => by simp only [RpL] at h; subst h; simp only [toPyL]; exact .nil
  | d :: ds, xs, c, h => by
    simp only [RpL] at h
    obtain ⟨x, r, rfl, h2, h3⟩ := h
    simp only [toPyL, PyData.canLayAll0, Bool.and_eq_true] at c ⊢
    exact .cons (Rp.dp c.1 h2) (RpL.dp c.2 h3)
end
end

/-! ### what a value reads as here -/
def allD : List W → Option (List D)
  | [] => some []
  | .d x :: r => (allD r).map (x :: ·)
  | _ :: _ => none
theorem allD_rp {C : Md} {F : Hp} {ι : Nat → Addr} {n : Nat} : ∀ {ws : List W} {ds : List D} {xs : List V}, allD ws = some ds → RpWL C F ι n ws xs → RpL C F ds xs
  | [], ds, xs, h, r => by
    cases h
    simp only [RpWL] at r
    simpa only [RpL] using r
  | .d x :: ws, ds, xs, h, r => by
    simp only [allD] at h
    cases q : allD ws with
    | none => rw [q] at h; cases h
    | some es =>
      rw [q] at h
      cases h
      simp only [RpWL, RpW] at r
      obtain ⟨y, r', rfl, h1, h2⟩ := r
      simp only [RpL]
      exact ⟨y, r', rfl, h1, allD_rp q h2⟩
  | .ref _ :: _, _, _, h, _ => by cases h
  | .tup _ :: _, _, _, h, _ => by cases h
theorem RpL.wl {C : Md} {F : Hp} {ι : Nat → Addr} {n : Nat} : ∀ {ds : List D} {xs : List V}, RpL C F ds xs → RpWL C F ι n (ds.map .d) xs
  | [], xs, h => by simpa only [RpL, List.map_nil, RpWL] using h
  | d :: ds, xs, h => by
    simp only [RpL] at h
    obtain ⟨x, r, rfl, h1, h2⟩ := h
    simp only [List.map_cons, RpWL, RpW]
    exact ⟨x, r, rfl, h1, RpL.wl h2⟩
theorem RpWL.length {C : Md} {F : Hp} {ι : Nat → Addr} {n : Nat} : ∀ {ws : List W} {xs : List V}, RpWL C F ι n ws xs → ws.length = xs.length
  | [], xs, h => by simp only [RpWL] at h; subst h; rfl
  | w :: ws, xs, h => by
    simp only [RpWL] at h
    obtain ⟨x, r, rfl, _, h2⟩ := h
    simp [RpWL.length h2]
theorem RpWL.get {C : Md} {F : Hp} {ι : Nat → Addr} {n : Nat} : ∀ {ws : List W} {xs : List V} {i : Nat} {w : W}, RpWL C F ι n ws xs → ws[i]? = some w → ∃ x, xs[i]? = some x ∧ RpW C F ι n w x
  | [], xs, i, w, h, e => by simp at e
  | w' :: ws, xs, i, w, h, e => by
    simp only [RpWL] at h
    obtain ⟨x, r, rfl, h1, h2⟩ := h
    cases i with
    | zero => simp at e; subst e; exact ⟨x, rfl, h1⟩
    | succ i => simpa using RpWL.get (i := i) h2 (by simpa using e)
theorem RpWL.getV {C : Md} {F : Hp} {ι : Nat → Addr} {n : Nat} {ws : List W} {xs : List V} {i : Nat} {x : V} (h : RpWL C F ι n ws xs) (e : xs[i]? = some x) : ∃ w, ws[i]? = some w ∧ RpW C F ι n w x := by
  have hi : i < ws.length := by rw [h.length]; exact (List.getElem?_eq_some_iff.mp e).1
  obtain ⟨y, h1, h2⟩ := h.get (List.getElem?_eq_getElem hi)
  rw [e] at h1
  cases h1
  exact ⟨_, List.getElem?_eq_getElem hi, h2⟩
theorem RpWL.append {C : Md} {F : Hp} {ι : Nat → Addr} {n : Nat} : ∀ {ws us : List W} {xs ys : List V}, RpWL C F ι n ws xs → RpWL C F ι n us ys → RpWL C F ι n (ws ++ us) (xs ++ ys)
  | [], us, xs, ys, h, k => by simp only [RpWL] at h; subst h; simpa using k
  | w :: ws, us, xs, ys, h, k => by
    simp only [RpWL] at h
    obtain ⟨x, r, rfl, h1, h2⟩ := h
    simp only [List.cons_append, RpWL]
    exact ⟨x, r ++ ys, rfl, h1, h2.append k⟩
theorem RpWL.one {C : Md} {F : Hp} {ι : Nat → Addr} {n : Nat} {w : W} {x : V} (h : RpW C F ι n w x) : RpWL C F ι n [w] [x] := by
  simp only [RpWL]
  exact ⟨x, [], rfl, h, rfl⟩
theorem RpWL.take {C : Md} {F : Hp} {ι : Nat → Addr} {n : Nat} : ∀ {ws : List W} {xs : List V} (k : Nat), RpWL C F ι n ws xs → RpWL C F ι n (ws.take k) (xs.take k)
  | [], xs, k, h => by simp only [RpWL] at h; subst h; simp [RpWL]
  | w :: ws, xs, 0, h => by simp [RpWL]
  | w :: ws, xs, k + 1, h => by
    simp only [RpWL] at h
    obtain ⟨x, r, rfl, h1, h2⟩ := h
    simp only [List.take_succ_cons, RpWL]
    exact ⟨x, _, rfl, h1, h2.take k⟩
theorem RpWL.drop {C : Md} {F : Hp} {ι : Nat → Addr} {n : Nat} : ∀ {ws : List W} {xs : List V} (k : Nat), RpWL C F ι n ws xs → RpWL C F ι n (ws.drop k) (xs.drop k)
  | [], xs, k, h => by simp only [RpWL] at h; subst h; simp [RpWL]
  | w :: ws, xs, 0, h => by simpa using h
  | w :: ws, xs, k + 1, h => by
    simp only [RpWL] at h
    obtain ⟨x, r, rfl, h1, h2⟩ := h
    simp only [List.drop_succ_cons]
    exact h2.drop k
/-- a list or tuple: which, its items -/
def seqW : W → Hg → Option (Bool × List W)
  | .d (.lst ds), _ => some (true, ds.map .d)
  | .d (.tup ds), _ => some (false, ds.map .d)
  | .tup ws, _ => some (false, ws)
  | .ref i, G => match G[i]? with
    | some (.lst ws) => some (true, ws)
    | _ => none
  | _, _ => none
section
variable {C : GC} {F H : Hp} {ι : Nat → Addr} {G : Hg}
theorem Sim.seq {w : W} {b : Bool} {ws : List W} {v : V} (s : Sim C F H ι G) (e : seqW w G = some (b, ws)) (r : RpW C.m F ι G.length w v) :
    ∃ a xs, v = .ref a ∧ (if b = true then SqL C.m.K H a xs else SqT C.m.K H a xs) ∧ RpWL C.m F ι G.length ws xs := by
  cases w with
  | d x =>
    simp only [RpW] at r
    cases x with
    | lst ds =>
      cases e
      simp only [Rp] at r
      obtain ⟨a, xs, h1, h2, h3⟩ := r
      exact ⟨a, xs, h1, by rw [if_pos rfl]; exact Same.sqL s.fh h2, h3.wl⟩
    | tup ds =>
      cases e
      simp only [Rp] at r
      obtain ⟨a, xs, h1, h2, h3⟩ := r
      exact ⟨a, xs, h1, by rw [if_neg Bool.false_ne_true]; exact Same.sqT s.fh h2, h3.wl⟩
    | _ => cases e
  | tup us =>
    cases e
    simp only [RpW] at r
    obtain ⟨a, xs, h1, h2, h3⟩ := r
    exact ⟨a, xs, h1, by rw [if_neg Bool.false_ne_true]; exact Same.sqT s.fh h2, h3⟩
  | ref i =>
    simp only [seqW] at e
    simp only [RpW] at r
    obtain ⟨hi, rfl⟩ := r
    cases q : G[i]? with
    | none => rw [q] at e; cases e
    | some o =>
      rw [q] at e
      cases o with
      | lst us =>
        cases e
        obtain ⟨_, _, xs, h1, h2⟩ := s.live i _ q (by intro z; cases z)
        exact ⟨_, xs, rfl, by rw [if_pos rfl]; exact .inl (.inl h1), h2⟩
      | _ => cases e
/-- a tree that is read here (a list's contents as they are now) -/
def snap : W → Hg → Option D
  | .d x, _ => some x
  | .ref i, G => match G[i]? with
    | some (.lst ws) => (allD ws).map .lst
    | _ => none
  | .tup _, _ => none
theorem Sim.snap {w : W} {d : D} {v : V} (s : Sim C F H ι G) (e : snap w G = some d) (r : RpW C.m F ι G.length w v) : Rp C.m H d v := by
  cases w with
  | d x => cases e; simp only [RpW] at r; exact r.mono s.fh
  | tup us => cases e
  | ref i =>
    simp only [Gh.snap] at e
    simp only [RpW] at r
    obtain ⟨hi, rfl⟩ := r
    cases q : G[i]? with
    | none => rw [q] at e; cases e
    | some o =>
      rw [q] at e
      cases o with
      | lst us =>
        simp only at e
        cases z : allD us with
        | none => rw [z] at e; cases e
        | some ds =>
          rw [z] at e
          cases e
          obtain ⟨_, _, xs, h1, h2⟩ := s.live i _ q (by intro z; cases z)
          simp only [Rp]
          exact ⟨_, xs, rfl, .inl (.inl h1), (allD_rp z h2).mono s.fh⟩
      | _ => cases e
end

/-! ### ends of operations -/
section
variable {C : GC} {F H : Hp} {ι : Nat → Addr} {G : Hg}
/-- a plain value, the heap as it is -/
theorem out_flat {d : D} {v : V} (s : Sim C F H ι G) (r : Rp C.m F d v) : Out C F ι G.length (.d d) G v H := ⟨F, ι, .refl, s, by simpa only [RpW] using r⟩
theorem out_w {w : W} {v : V} (s : Sim C F H ι G) (r : RpW C.m F ι G.length w v) : Out C F ι G.length w G v H := ⟨F, ι, .refl, s, r⟩
/-- a new tuple -/
def mkTup (ws : List W) : W := match allD ws with
  | some ds => .d (.tup ds)
  | none => .tup ws
theorem out_tup {ws : List W} {xs : List V} {p : Addr} (s : Sim C F H ι G) (r : RpWL C.m F ι G.length ws xs) (h : H p = none) : Out C F ι G.length (mkTup ws) G (.ref p) (upd H p (.tup xs)) := by
  obtain ⟨s', e⟩ := s.lay (o := .tup xs) h
  refine ⟨_, _, e, s', ?_⟩
  unfold mkTup
  cases q : allD ws with
  | none =>
    simp only [RpW]
    exact ⟨p, xs, rfl, .inl (.inl upd_same), r.mono e⟩
  | some ds =>
    simp only [RpW, Rp]
    exact ⟨p, xs, rfl, .inl (.inl upd_same), (allD_rp q r).mono e.fr⟩
/-- a new list of trees, that no one will change -/
theorem out_lst {ds : List D} {xs : List V} {p : Addr} (s : Sim C F H ι G) (r : RpL C.m F ds xs) (h : H p = none) : Out C F ι G.length (.d (.lst ds)) G (.ref p) (upd H p (.lst xs)) := by
  obtain ⟨s', e⟩ := s.lay (o := .lst xs) h
  refine ⟨_, _, e, s', ?_⟩
  simp only [RpW, Rp]
  exact ⟨p, xs, rfl, .inl (.inl upd_same), r.mono e.fr⟩
/-- a new list that may be changed -/
theorem out_new {ws : List W} {xs : List V} {p : Addr} (s : Sim C F H ι G) (r : RpWL C.m F ι G.length ws xs) (h : H p = none) : Out C F ι G.length (.ref G.length) (G ++ [.lst ws]) (.ref p) (upd H p (.lst xs)) := by
  obtain ⟨s', e⟩ := s.make (o := .lst xs) (g := .lst ws) h fun ι' n' e => ⟨xs, upd_same, r.mono e⟩
  refine ⟨_, _, e, s', ?_⟩
  simp only [RpW]
  exact ⟨by simp, by rw [putI_same]⟩
end

/-! ### displays -/
def small (n : Nat) : Bool := Nat.ble n 16777216
theorem small_le {n : Nat} (h : small n = true) : n ≤ sizeLine := by rw [sizeLine_eq]; exact Nat.le_of_ble_eq_true h
def gTup (a : GEs) : GE := fun ρ G => (a ρ G).bind fun ws G1 => if small ws.length then .ok (mkTup ws) G1 else .stuck
def gLst (a : GEs) : GE := fun ρ G => (a ρ G).bind fun ws G1 => match small ws.length, allD ws with
  | true, some ds => .ok (.d (.lst ds)) G1
  | _, _ => .stuck
def gNew (a : GEs) : GE := fun ρ G => (a ρ G).bind fun ws G1 => if small ws.length then .ok (.ref G1.length) (G1 ++ [.lst ws]) else .stuck
section
variable {X : Cx} {es : List Expr} {gs : GEs} {pos : Pos}
theorem ge_tup {x1} (h : GJA X es gs) : GJE X (.Tuple es x1 pos) (gTup gs) := ⟨fun B F0 wx tk => by
  refine PE.imp (pe_tup (h.run B F0 wx tk)) fun σ H Q ⟨F, ι, ρ, G, hs, he, hp⟩ => ?_
  refine ⟨F, ι, ρ, G, hs, he, (PostL.fst hp).imp fun xs H1 ⟨F1, ι1, ws, G1, e1, s1, r1, p1⟩ => ?_⟩
  cases q : small ws.length with
  | false => rw [q] at p1; exact p1.elim
  | true =>
    rw [q] at p1
    exact ⟨by rw [← r1.length]; exact small_le q, fun p hp => p1 _ _ (out_tup s1 r1 hp)⟩⟩
theorem ge_lst (h : GJA X es gs) : GJE X (.List es pos) (gLst gs) := ⟨fun B F0 wx tk => by
  refine PE.imp (pe_lst (h.run B F0 wx tk)) fun σ H Q ⟨F, ι, ρ, G, hs, he, hp⟩ => ?_
  refine ⟨F, ι, ρ, G, hs, he, (PostL.fst hp).imp fun xs H1 ⟨F1, ι1, ws, G1, e1, s1, r1, p1⟩ => ?_⟩
  cases q : small ws.length with
  | false => rw [q] at p1; exact p1.elim
  | true =>
    cases z : allD ws with
    | none => rw [q, z] at p1; exact p1.elim
    | some ds =>
      rw [q, z] at p1
      exact ⟨by rw [← r1.length]; exact small_le q, fun p hp => p1 _ _ (out_lst s1 (allD_rp z r1) hp)⟩⟩
theorem ge_new (h : GJA X es gs) : GJE X (.List es pos) (gNew gs) := ⟨fun B F0 wx tk => by
  refine PE.imp (pe_lst (h.run B F0 wx tk)) fun σ H Q ⟨F, ι, ρ, G, hs, he, hp⟩ => ?_
  refine ⟨F, ι, ρ, G, hs, he, (PostL.fst hp).imp fun xs H1 ⟨F1, ι1, ws, G1, e1, s1, r1, p1⟩ => ?_⟩
  cases q : small ws.length with
  | false => rw [q] at p1; exact p1.elim
  | true =>
    rw [q] at p1
    exact ⟨by rw [← r1.length]; exact small_le q, fun p hp => p1 _ _ (out_new s1 r1 hp)⟩⟩
end

/-! ### operations on ints -/
def fI (f : Int → Int → Option D) : W → W → Hg → Option (W × Hg)
  | .d (.int i), .d (.int j), G => (f i j).map fun d => (.d d, G)
  | _, _, _ => none
theorem fI_inv {f : Int → Int → Option D} {w u : W} {G G' : Hg} {z : W} (h : fI f w u G = some (z, G')) : ∃ i j d, w = .d (.int i) ∧ u = .d (.int j) ∧ f i j = some d ∧ z = .d d ∧ G' = G := by
  cases w with
  | d x =>
    cases x with
    | int i =>
      cases u with
      | d y =>
        cases y with
        | int j =>
          simp only [fI] at h
          cases q : f i j with
          | none => rw [q] at h; cases h
          | some d => rw [q] at h; cases h; exact ⟨i, j, d, rfl, rfl, q, rfl, rfl⟩
        | _ => cases h
      | _ => cases h
    | _ => cases h
  | _ => cases h
theorem og_int {X : Cx} {r : R2} {f : Int → Int → Option D} (h : ∀ (C : GC) (F H : Hp) (i j : Int) (d : D) (Q : VK), f i j = some d → (∀ v, Rp C.m F d v → Q v H) → r (.int i) (.int j) H Q) : OpG X r (fI f) := by
  intro C F H ι G w u x y z G' Q hK s rw_ ru e hQ
  obtain ⟨i, j, d, rfl, rfl, q, rfl, rfl⟩ := fI_inv e
  simp only [RpW, Rp] at rw_ ru
  subst rw_ ru
  exact h C F H i j d Q q fun v hv => hQ v H (out_flat s hv)
def iAdd (i j : Int) : Option D := some (.int (i + j))
def iSub (i j : Int) : Option D := some (.int (i - j))
def iDiv (i j : Int) : Option D := if 0 < j ∧ j < 1073741824 then some (.int (i / j)) else none
def iMod (i j : Int) : Option D := if 0 < j then some (.int (i % j)) else none
def iMul (i j : Int) : Option D := if -(2 ^ 64) < i ∧ i < 2 ^ 64 ∨ -(2 ^ 64) < j ∧ j < 2 ^ 64 then some (.int (i * j)) else none
def iPow (i j : Int) : Option D := if 0 ≤ j ∧ j ≤ 1000000 ∧ i.natAbs < 2 ^ 64 then some (.int (i ^ j.toNat)) else none
section
variable {X : Cx}
theorem of_some {P : Prop} [Decidable P] {d e : D} (h : (if P then some d else none) = some e) : P ∧ d = e := by
  by_cases p : P
  · rw [if_pos p] at h; exact ⟨p, Option.some.inj h⟩
  · rw [if_neg p] at h; cases h
theorem rpI {C : Md} {F : Hp} {i : Int} : Rp C F (.int i) (.int i) := by simp only [Rp]
theorem rpB {C : Md} {F : Hp} {i : Bool} : Rp C F (.bl i) (.bl i) := by simp only [Rp]
theorem rpS {C : Md} {F : Hp} {i : Str} : Rp C F (.str i) (.str i) := by simp only [Rp]
theorem rpN {C : Md} {F : Hp} : Rp C F .non .non := by simp only [Rp]
theorem og_sub : OpG X (rI0 fun i j => .int (i - j)) (fI iSub) := og_int fun C F H i j d Q q hQ => by
  cases q; exact ⟨i, j, rfl, rfl, hQ _ rpI⟩
theorem og_div : OpG X (rI CDiv fun i j => .int (i / j)) (fI iDiv) := og_int fun C F H i j d Q q hQ => by
  obtain ⟨p, rfl⟩ := of_some q; exact ⟨i, j, rfl, rfl, p, hQ _ rpI⟩
theorem og_mod : OpG X (rI (fun _ j => 0 < j) fun i j => .int (i % j)) (fI iMod) := og_int fun C F H i j d Q q hQ => by
  obtain ⟨p, rfl⟩ := of_some q; exact ⟨i, j, rfl, rfl, p, hQ _ rpI⟩
theorem og_pow : OpG X (rI CPow fun i j => .int (i ^ j.toNat)) (fI iPow) := og_int fun C F H i j d Q q hQ => by
  obtain ⟨p, rfl⟩ := of_some q; exact ⟨i, j, rfl, rfl, p, hQ _ rpI⟩
def iCmp (p : Int → Int → Bool) (i j : Int) : Option D := some (.bl (p i j))
theorem og_lt : OpG X (rI0 fun i j => .bl (decide (i < j))) (fI (iCmp fun i j => decide (i < j))) := og_int fun C F H i j d Q q hQ => by cases q; exact ⟨i, j, rfl, rfl, hQ _ rpB⟩
theorem og_le : OpG X (rI0 fun i j => .bl (decide (i ≤ j))) (fI (iCmp fun i j => decide (i ≤ j))) := og_int fun C F H i j d Q q hQ => by cases q; exact ⟨i, j, rfl, rfl, hQ _ rpB⟩
theorem og_gt : OpG X (rI0 fun i j => .bl (decide (j < i))) (fI (iCmp fun i j => decide (j < i))) := og_int fun C F H i j d Q q hQ => by cases q; exact ⟨i, j, rfl, rfl, hQ _ rpB⟩
theorem og_ge : OpG X (rI0 fun i j => .bl (decide (j ≤ i))) (fI (iCmp fun i j => decide (j ≤ i))) := og_int fun C F H i j d Q q hQ => by cases q; exact ⟨i, j, rfl, rfl, hQ _ rpB⟩
end

/-! ### == and != , in and not in, of trees -/
def okD (d : D) : Bool := SeqAt.shaped (toPy d)
def eqD (x y : D) : Bool := PyData.eqv (toPy x) (toPy y)
def fEq (neg : Bool) : W → W → Hg → Option (W × Hg) := fun w u G => match snap w G, snap u G with
  | some x, some y => if okD x && okD y then some (.d (.bl (neg ^^ eqD x y)), G) else none
  | _, _ => none
theorem fEq_inv {neg : Bool} {w u : W} {G G' : Hg} {z : W} (h : fEq neg w u G = some (z, G')) : ∃ x y, snap w G = some x ∧ snap u G = some y ∧ okD x = true ∧ okD y = true ∧ z = .d (.bl (neg ^^ eqD x y)) ∧ G' = G := by
  unfold fEq at h
  cases q : snap w G with
  | none => rw [q] at h; cases h
  | some x =>
    cases q2 : snap u G with
    | none => rw [q, q2] at h; cases h
    | some y =>
      rw [q, q2] at h
      simp only at h
      by_cases c : (okD x && okD y) = true
      · rw [if_pos c] at h
        cases h
        rw [Bool.and_eq_true] at c
        exact ⟨x, y, rfl, rfl, c.1, c.2, rfl, rfl⟩
      · rw [if_neg c] at h; cases h
theorem og_eq {X : Cx} : OpG X (rEqD X.K) (fEq false) := by
  intro C F H ι G w u x y z G' Q hK s rw_ ru e hQ
  obtain ⟨d, f, h1, h2, o1, o2, rfl, rfl⟩ := fEq_inv e
  have e1 := Rp.dp (SeqAt.canLay_of_shaped o1) (s.snap h1 rw_)
  have e2 := Rp.dp (SeqAt.canLay_of_shaped o2) (s.snap h2 ru)
  rw [hK] at e1 e2
  exact ⟨_, _, e1, e2, o1, o2, hQ _ _ (out_flat s (by rw [Bool.false_xor]; exact rpB))⟩
theorem og_ne {X : Cx} : OpG X (rNeD X.K) (fEq true) := by
  intro C F H ι G w u x y z G' Q hK s rw_ ru e hQ
  obtain ⟨d, f, h1, h2, o1, o2, rfl, rfl⟩ := fEq_inv e
  have e1 := Rp.dp (SeqAt.canLay_of_shaped o1) (s.snap h1 rw_)
  have e2 := Rp.dp (SeqAt.canLay_of_shaped o2) (s.snap h2 ru)
  rw [hK] at e1 e2
  exact ⟨_, _, e1, e2, o1, o2, hQ _ _ (out_flat s (by rw [Bool.true_xor]; exact rpB))⟩
/-- in, not in, over lists and tuples of trees -/
def rInA (K : PySem.W.Frag) (neg : Bool) : R2 := fun x y H Q => ∃ d ds, Dp K H x d ∧ (Dp K H y (.list ds) ∨ Dp K H y (.tuple ds)) ∧ SeqAt.shaped d = true ∧ PyData.canLayAll0 ds = true ∧ Q (.bl (neg ^^ (ds.any fun z => PyData.eqv z d))) H
theorem op_inA {X : Cx} (hu : X.A.units + 65 < cLine) : OpR X (compareOp .In) (rInA X.K false) := by
  intro pins s σ H x y v u Q I rx ry h
  obtain ⟨d, ds, hd, he, sd, se, q⟩ := h
  obtain ⟨as, r1⟩ := Dp.reads I d x v hd rx
  rw [Bool.false_xor] at q
  rcases he with he | he
  · obtain ⟨bs, r2⟩ := Dp.reads I (.list ds) y u he ry
    exact SeqAt.in_list_reads r2 r1 se (SeqAt.canLay_of_shaped sd) (room_in_shaped sd hu) ⟨.bl _, H, I, rfl, q⟩
  · obtain ⟨bs, r2⟩ := Dp.reads I (.tuple ds) y u he ry
    exact SeqAt.in_tuple_reads r2 r1 se (SeqAt.canLay_of_shaped sd) (room_in_shaped sd hu) ⟨.bl _, H, I, rfl, q⟩
theorem op_notInA {X : Cx} (hu : X.A.units + 65 < cLine) : OpR X (compareOp .NotIn) (rInA X.K true) := by
  intro pins s σ H x y v u Q I rx ry h
  obtain ⟨d, ds, hd, he, sd, se, q⟩ := h
  obtain ⟨as, r1⟩ := Dp.reads I d x v hd rx
  rw [Bool.true_xor] at q
  rcases he with he | he
  · obtain ⟨bs, r2⟩ := Dp.reads I (.list ds) y u he ry
    exact SeqAt.notIn_list_reads r2 r1 se (SeqAt.canLay_of_shaped sd) (room_in_shaped sd hu) ⟨.bl _, H, I, rfl, q⟩
  · obtain ⟨bs, r2⟩ := Dp.reads I (.tuple ds) y u he ry
    exact SeqAt.notIn_tuple_reads r2 r1 se (SeqAt.canLay_of_shaped sd) (room_in_shaped sd hu) ⟨.bl _, H, I, rfl, q⟩
def seqD : D → Option (List D)
  | .lst ds => some ds
  | .tup ds => some ds
  | _ => none
def okL (ds : List D) : Bool := PyData.canLayAll0 (toPyL ds)
def inD (x : D) (ds : List D) : Bool := ds.any fun z => eqD z x
def fIn (neg : Bool) : W → W → Hg → Option (W × Hg) := fun w u G => match snap w G, (snap u G).bind seqD with
  | some x, some ds => if okD x && okL ds then some (.d (.bl (neg ^^ inD x ds)), G) else none
  | _, _ => none
theorem any_py (x : PyData) : ∀ ds : List D, (toPyL ds).any (fun z => PyData.eqv z x) = ds.any fun z => PyData.eqv (toPy z) x
  | [] => rfl
  | d :: ds => by simp only [toPyL, List.any_cons, any_py x ds]
theorem og_in {X : Cx} {neg : Bool} : OpG X (rInA X.K neg) (fIn neg) := by
  intro C F H ι G w u x y z G' Q hK s rw_ ru e hQ
  unfold fIn at e
  cases q : snap w G with
  | none => rw [q] at e; cases e
  | some d =>
    cases q2 : snap u G with
    | none => rw [q, q2] at e; cases e
    | some t =>
      cases q3 : seqD t with
      | none => rw [q, q2] at e; simp only [Option.bind_some, q3] at e; cases e
      | some ds =>
        rw [q, q2] at e
        simp only [Option.bind_some, q3] at e
        by_cases c : (okD d && okL ds) = true
        · rw [if_pos c] at e
          cases e
          rw [Bool.and_eq_true] at c
          have e1 := Rp.dp (SeqAt.canLay_of_shaped c.1) (s.snap q rw_)
          have r2 := s.snap q2 ru
          rw [hK] at e1
          refine ⟨_, toPyL ds, e1, ?_, c.1, c.2, hQ _ _ (out_flat s (by rw [any_py]; exact rpB))⟩
          cases t with
          | lst es =>
            cases q3
            have z := Rp.dp (d := .lst ds) (by simp only [toPy, PyData.canLay0]; exact c.2) r2
            rw [hK] at z
            simp only [toPy] at z
            exact .inl z
          | tup es =>
            cases q3
            have z := Rp.dp (d := .tup ds) (by simp only [toPy, PyData.canLay0]; exact c.2) r2
            rw [hK] at z
            simp only [toPy] at z
            exact .inr z
          | _ => cases q3
        · rw [if_neg c] at e; cases e

/-! ### is None -/
def isN : W → Bool
  | .d .non => true
  | _ => false
theorem isN_v {C : Md} {F : Hp} {ι : Nat → Addr} {n : Nat} {w : W} {v : V} (r : RpW C F ι n w v) : decide (v = .non) = isN w := by
  cases w with
  | ref i => simp only [RpW] at r; obtain ⟨_, rfl⟩ := r; rfl
  | tup ws => simp only [RpW] at r; obtain ⟨a, xs, rfl, _⟩ := r; rfl
  | d x =>
    simp only [RpW] at r
    cases x with
    | non => simp only [Rp] at r; subst r; rfl
    | bl b => simp only [Rp] at r; subst r; rfl
    | int b => simp only [Rp] at r; subst r; rfl
    | str b => simp only [Rp] at r; subst r; rfl
    | tup b => simp only [Rp] at r; obtain ⟨a, xs, rfl, _⟩ := r; rfl
    | lst b => simp only [Rp] at r; obtain ⟨a, xs, rfl, _⟩ := r; rfl
    | dic t b => cases t <;> simp only [Rp] at r <;> obtain ⟨a, _, _, rfl, _⟩ := r <;> rfl
    | ins c b => simp only [Rp] at r; obtain ⟨a, _, _, rfl, _⟩ := r; rfl
def gIsN (neg : Bool) (a : GE) : GE := fun ρ G => (a ρ G).bind fun w G1 => .ok (.d (.bl (neg ^^ isN w))) G1
section
variable {X : Cx} {a : Expr} {ga : GE} {pos : Pos}
theorem ge_isN {j pos'} (ha : GJE X a ga) : GJE X (.Compare a [.Is] [.Constant .none j pos'] pos) (gIsN false ga) := ⟨fun B F0 wx tk => by
  refine PE.imp (pe_cmp (pc_isN (ha.run B F0 wx tk)) rfl) fun σ H Q ⟨F, ι, ρ, G, hs, he, hp⟩ => ?_
  refine ⟨F, ι, ρ, G, hs, he, (Post.fst hp).imp fun x H1 ⟨F1, ι1, w, G1, e1, s1, r1, p1⟩ => ?_⟩
  refine p1 _ _ (out_flat s1 ?_)
  rw [isN_v r1, Bool.false_xor]
  exact rpB⟩
theorem ge_notN {j pos'} (ha : GJE X a ga) : GJE X (.Compare a [.IsNot] [.Constant .none j pos'] pos) (gIsN true ga) := ⟨fun B F0 wx tk => by
  refine PE.imp (pe_cmp (pc_notN (ha.run B F0 wx tk)) rfl) fun σ H Q ⟨F, ι, ρ, G, hs, he, hp⟩ => ?_
  refine ⟨F, ι, ρ, G, hs, he, (Post.fst hp).imp fun x H1 ⟨F1, ι1, w, G1, e1, s1, r1, p1⟩ => ?_⟩
  refine p1 _ _ (out_flat s1 ?_)
  rw [isN_v r1, Bool.true_xor]
  exact rpB⟩
end
end Gh

set_option Elab.async false
set_option linter.all false
set_option maxRecDepth 100000
set_option maxHeartbeats 4000000
namespace Gh
open PySem PySem.Spec PyProof.Rows L2

/-! ### statements -/
inductive SRes where
  | stuck | exc (e : Exc) (ρ : GEnv) (G : Hg) | nx (ρ : GEnv) (G : Hg) | bk (ρ : GEnv) (G : Hg) | ct (ρ : GEnv) (G : Hg) | ret (w : W) (G : Hg)
abbrev GS := GEnv → Hg → SRes
def SOut (C : GC) (F : Hp) (ι : Nat → Addr) (n : Nat) (ρ' : GEnv) (G' : Hg) : L2.St → Hp → Prop := fun σ' H' => ∃ F' ι', Ext F ι n F' ι' G'.length ∧ Sim C F' H' ι' G' ∧ REnv C.m F' ι' G'.length ρ' σ'
def PostS (C : GC) (F : Hp) (ι : Nat → Addr) (n : Nat) (r : SRes) (D : Ends) : Prop :=
  match r with
  | .stuck => False
  | .exc e ρ' G' => ∀ cls d σ' H' F' ι', Ext F ι n F' ι' G'.length → Sim C F' H' ι' G' → REnv C.m F' ι' G'.length ρ' σ' → XR C F' H' e cls d → C.wx cls d σ' H'
  | .nx ρ' G' => ∀ σ' H', SOut C F ι n ρ' G' σ' H' → D.nx σ' H'
  | .bk ρ' G' => ∀ σ' H', SOut C F ι n ρ' G' σ' H' → D.bk σ' H'
  | .ct ρ' G' => ∀ σ' H', SOut C F ι n ρ' G' σ' H' → D.ct σ' H'
  | .ret w G' => ∀ v H', Out C F ι n w G' v H' → D.rt v H'
def gTS (C : GC) (g : GS) : TS := fun D σ H => ∃ F ι ρ G, Sim C F H ι G ∧ REnv C.m F ι G.length ρ σ ∧ PostS C F ι G.length (g ρ G) D
structure GJS (X : Cx) (st : Stmt) (g : GS) : Prop where
  run : ∀ B F0 wx, Takes X wx → PS X st (gTS (gc X B F0 wx) g)
structure GJSs (X : Cx) (st : List Stmt) (g : GS) : Prop where
  run : ∀ B F0 wx, Takes X wx → PSs X st (gTS (gc X B F0 wx) g)
section
variable {C : GC} {F F1 : Hp} {ι ι1 : Nat → Addr} {n n1 : Nat} {D D' : Ends}
theorem SOut.base {ρ' : GEnv} {G' : Hg} {σ' : L2.St} {H' : Hp} (e : Ext F ι n F1 ι1 n1) (h : SOut C F1 ι1 n1 ρ' G' σ' H') : SOut C F ι n ρ' G' σ' H' :=
  let ⟨F', ι', a, b, c⟩ := h; ⟨F', ι', e.trans a, b, c⟩
theorem PostS.base {r : SRes} (e : Ext F ι n F1 ι1 n1) (h : PostS C F ι n r D) : PostS C F1 ι1 n1 r D := by
  cases r with
  | stuck => exact h
  | exc x ρ' G' => exact fun cls d σ' H' F' ι' a b c q => h cls d σ' H' F' ι' (e.trans a) b c q
  | nx ρ' G' => exact fun σ' H' q => h σ' H' (q.base e)
  | bk ρ' G' => exact fun σ' H' q => h σ' H' (q.base e)
  | ct ρ' G' => exact fun σ' H' q => h σ' H' (q.base e)
  | ret w G' => exact fun v H' q => h v H' (q.base e)
end
/-- an expression's result goes into a statement -/
def Res.toS {α : Type} (ρ : GEnv) : Res α → (α → Hg → SRes) → SRes
  | .stuck, _ => .stuck
  | .exc e G, _ => .exc e ρ G
  | .ok a G, k => k a G
section
variable {C : GC} {F H : Hp} {ι : Nat → Addr} {n : Nat} {σ : L2.St} {ρ : GEnv} {D : Ends}
theorem PostS.fst {r : Res W} {k : W → Hg → SRes} (he : REnv C.m F ι n ρ σ) (h : PostS C F ι n (r.toS ρ k) D) :
    Post C F ι n σ r fun v H1 => ∃ F1 ι1 w G1, Ext F ι n F1 ι1 G1.length ∧ Sim C F1 H1 ι1 G1 ∧ RpW C.m F1 ι1 G1.length w v ∧ REnv C.m F1 ι1 G1.length ρ σ ∧ PostS C F1 ι1 G1.length (k w G1) D := by
  cases r with
  | stuck => exact h
  | exc x G' => exact fun cls d H' ⟨F', ι', a, b, c⟩ => h cls d σ H' F' ι' a b (he.mono a) c
  | ok w G' => exact fun v H' ⟨F1, ι1, e, s, rr⟩ => ⟨F1, ι1, w, G', e, s, rr, he.mono e, PostS.base e h⟩
theorem PostS.fstB {r : Res Bool} {k : Bool → Hg → SRes} (he : REnv C.m F ι n ρ σ) (h : PostS C F ι n (r.toS ρ k) D) :
    PostB C F ι n σ r fun v H1 => ∃ F1 ι1 G1, Ext F ι n F1 ι1 G1.length ∧ Sim C F1 H1 ι1 G1 ∧ REnv C.m F1 ι1 G1.length ρ σ ∧ PostS C F1 ι1 G1.length (k v G1) D := by
  cases r with
  | stuck => exact h
  | exc x G' => exact fun cls d H' ⟨F', ι', a, b, c⟩ => h cls d σ H' F' ι' a b (he.mono a) c
  | ok w G' =>
    rintro v H' ⟨rfl, F1, ι1, e, s⟩
    exact ⟨F1, ι1, G', e, s, he.mono e, PostS.base e h⟩
end

def gNil : GS := fun ρ G => .nx ρ G
def gSeq (a b : GS) : GS := fun ρ G => match a ρ G with
  | .nx ρ' G' => b ρ' G'
  | r => r
section
variable {X : Cx} {st : Stmt} {rest : List Stmt} {g u : GS} {e : Expr} {ge : GE} {pos : Pos}
theorem gss_nil : GJSs X [] gNil := ⟨fun B F0 wx _ => PSs.imp pss_nil fun D σ H ⟨F, ι, ρ, G, s, he, hp⟩ => hp σ H ⟨F, ι, .refl, s, he⟩⟩
theorem gss_cons (h1 : GJS X st g) (h2 : GJSs X rest u) : GJSs X (st :: rest) (gSeq g u) := ⟨fun B F0 wx tk => by
  refine PSs.imp (pss_cons (h1.run B F0 wx tk) (h2.run B F0 wx tk)) fun D σ H ⟨F, ι, ρ, G, s, he, hp⟩ => ⟨F, ι, ρ, G, s, he, ?_⟩
  unfold gSeq at hp
  cases q : g ρ G with
  | nx ρ' G' =>
    rw [q] at hp
    exact fun σ' H' ⟨F', ι', a, b, c⟩ => ⟨F', ι', ρ', G', b, c, PostS.base a hp⟩
  | stuck => rw [q] at hp; exact hp
  | exc x ρ' G' => rw [q] at hp; exact hp
  | bk ρ' G' => rw [q] at hp; exact hp
  | ct ρ' G' => rw [q] at hp; exact hp
  | ret w G' => rw [q] at hp; exact hp⟩
theorem gss_one (h1 : GJS X st g) : GJSs X [st] g := ⟨fun B F0 wx tk => pss_one (h1.run B F0 wx tk)⟩
def gBrk : GS := fun ρ G => .bk ρ G
def gCnt : GS := fun ρ G => .ct ρ G
theorem gs_pass : GJS X (.Pass pos) gNil := ⟨fun B F0 wx _ => PS.imp ps_pass fun D σ H ⟨F, ι, ρ, G, s, he, hp⟩ => hp σ H ⟨F, ι, .refl, s, he⟩⟩
theorem gs_break : GJS X (.Break pos) gBrk := ⟨fun B F0 wx _ => PS.imp ps_break fun D σ H ⟨F, ι, ρ, G, s, he, hp⟩ => hp σ H ⟨F, ι, .refl, s, he⟩⟩
theorem gs_cont : GJS X (.Continue pos) gCnt := ⟨fun B F0 wx _ => PS.imp ps_continue fun D σ H ⟨F, ι, ρ, G, s, he, hp⟩ => hp σ H ⟨F, ι, .refl, s, he⟩⟩
def gExpr (e : GE) : GS := fun ρ G => (e ρ G).toS ρ fun _ G' => .nx ρ G'
theorem gs_expr (he : GJE X e ge) (hs : swapsWith e none pos.line X.env = pure false := by rfl) : GJS X (.Expr e pos) (gExpr ge) := ⟨fun B F0 wx tk => by
  refine PS.imp (ps_expr (he.run B F0 wx tk) hs) fun D σ H ⟨F, ι, ρ, G, s, he, hp⟩ => ?_
  exact ⟨F, ι, ρ, G, s, he, (PostS.fst he hp).imp fun v H1 ⟨F1, ι1, w, G1, e1, s1, r1, he1, p1⟩ => p1 σ H1 ⟨F1, ι1, .refl, s1, he1⟩⟩⟩
def gRet (e : GE) : GS := fun ρ G => (e ρ G).toS ρ fun w G' => .ret w G'
theorem gs_ret (he : GJE X e ge) : GJS X (.Return (some e) pos) (gRet ge) := ⟨fun B F0 wx tk => by
  refine PS.imp (ps_ret (he.run B F0 wx tk)) fun D σ H ⟨F, ι, ρ, G, s, he, hp⟩ => ?_
  exact ⟨F, ι, ρ, G, s, he, (PostS.fst he hp).imp fun v H1 ⟨F1, ι1, w, G1, e1, s1, r1, he1, p1⟩ => p1 v H1 ⟨F1, ι1, .refl, s1, r1⟩⟩⟩
def gRetN : GS := fun _ G => .ret (.d .non) G
theorem gs_retN : GJS X (.Return none pos) gRetN := ⟨fun B F0 wx tk => by
  refine PS.imp ps_retN fun D σ H ⟨F, ι, ρ, G, s, he, hp⟩ => ?_
  exact hp _ _ (out_flat s rpN)⟩
def gIf (c : GT) (a b : GS) : GS := fun ρ G => (c ρ G).toS ρ fun k G' => if k then a ρ G' else b ρ G'
theorem gs_if {c : Expr} {a b : List Stmt} {tc : GT} {ga gb : GS} (hc : GJT X c tc) (ha : GJSs X a ga) (hb : GJSs X b gb) : GJS X (.If c a b pos) (gIf tc ga gb) := ⟨fun B F0 wx tk => by
  refine PS.imp (ps_if (hc.run B F0 wx tk) (ha.run B F0 wx tk) (hb.run B F0 wx tk)) fun D σ H ⟨F, ι, ρ, G, s, he, hp⟩ => ?_
  refine ⟨F, ι, ρ, G, s, he, (PostS.fstB he hp).imp fun k H1 ⟨F1, ι1, G1, e1, s1, he1, p1⟩ => ?_⟩
  cases k with
  | true => exact ⟨F1, ι1, ρ, G1, s1, he1, p1⟩
  | false => exact ⟨F1, ι1, ρ, G1, s1, he1, p1⟩⟩
end

/-! ### targets -/
abbrev GTg := W → GEnv → Hg → Option (GEnv × Hg)
/-- own: the only slots that are stored to -/
def gTG (C : GC) (own : List Nat) (t : GTg) : TG := fun v σ H Q => ∃ F ι ρ G w, Sim C F H ι G ∧ REnv C.m F ι G.length ρ σ ∧ RpW C.m F ι G.length w v ∧ match t w ρ G with
  | none => False
  | some (ρ', G') => ∀ σ' H', SOut C F ι G.length ρ' G' σ' H' → wipe σ' own = wipe σ own → Q σ' H'
structure GJG (X : Cx) (tg : Expr) (own : List Nat) (t : GTg) : Prop where
  run : ∀ B F0 wx, Takes X wx → PG X tg (gTG (gc X B F0 wx) own t)
theorem PG.imp {X : Cx} {e : Expr} {t t' : TG} (h : PG X e t) (k : ∀ v σ H Q, t' v σ H Q → t v σ H Q) : PG X e t' := ⟨fun pins s σ H v u Q I r q => h.run pins s σ H v u Q I r (k _ _ _ _ q)⟩
theorem PGs.imp {X : Cx} {e : List Expr} {t t' : TGs} (h : PGs X e t) (k : ∀ v σ H Q, t' v σ H Q → t v σ H Q) : PGs X e t' := ⟨fun pins s σ H v u Q I r q => h.run pins s σ H v u Q I r (k _ _ _ _ q)⟩
def gNm (i : Nat) : GTg := fun w ρ G => some (ρ.set i (some w), G)
theorem wipe_set {own : List Nat} {i : Nat} (h : i ∈ own) (x : Option V) : ∀ σ : L2.St, wipe (σ.set i x) own = wipe σ own := by
  induction own with
  | nil => cases h
  | cons j r ih =>
    intro σ
    unfold wipe
    by_cases hm : i ∈ r
    · rw [ih hm]
    · have e : i = j := by
        rcases List.mem_cons.mp h with z | z
        · exact z
        · exact absurd z hm
      subst e
      have comm : ∀ (r : List Nat), i ∉ r → ∀ (σ : L2.St), wipe (σ.set i x) r = (wipe σ r).set i x := by
        intro r
        induction r with
        | nil => intro _ σ; rfl
        | cons k r' ih' =>
          intro hk σ
          unfold wipe
          rw [ih' (fun z => hk (List.mem_cons_of_mem _ z)) σ, List.set_comm _ _ (fun z => hk (by rw [z]; exact List.mem_cons_self))]
      rw [comm r hm, List.set_set]
section
variable {X : Cx} {pos : Pos}
theorem gg_name (i : Nat) {own : List Nat} {x : Str} (hN : X.N.Nodup) (hi : X.N[i]? = some x := by rfl) (hx : Loc X.env.scope x := by first | exact Or.inl rfl | exact Or.inr rfl) (ho : i ∈ own := by decide) (hf : X.fn x = true ∨ X.env.scope.names.lookup x = some .local := by first | exact .inl rfl | exact .inr rfl) :
    GJG X (.Name x pos) own (gNm i) := ⟨fun B F0 wx _ => PG.imp (pg_name hN hi hx hf) fun v σ H Q ⟨F, ι, ρ, G, w, s, he, r, h⟩ => h _ H ⟨F, ι, .refl, s, he.set i r⟩ (wipe_set ho _ σ)⟩
def gTgs : List GTg → List W → GEnv → Hg → Option (GEnv × Hg)
  | [], [], ρ, G => some (ρ, G)
  | t :: ts, w :: ws, ρ, G => match t w ρ G with
    | some (ρ', G') => gTgs ts ws ρ' G'
    | none => none
  | _, _, _, _ => none
def gTGs (C : GC) (own : List Nat) (ts : List GTg) : TGs := fun vs σ H Q => ∃ F ι ρ G ws, Sim C F H ι G ∧ REnv C.m F ι G.length ρ σ ∧ RpWL C.m F ι G.length ws vs ∧ match gTgs ts ws ρ G with
  | none => False
  | some (ρ', G') => ∀ σ' H', SOut C F ι G.length ρ' G' σ' H' → wipe σ' own = wipe σ own → Q σ' H'
structure GJGs (X : Cx) (tg : List Expr) (own : List Nat) (t : List GTg) : Prop where
  run : ∀ B F0 wx, Takes X wx → PGs X tg (gTGs (gc X B F0 wx) own t)
theorem ggs_nil {own : List Nat} : GJGs X [] own [] := ⟨fun B F0 wx _ => PGs.imp pgs_nil fun vs σ H Q ⟨F, ι, ρ, G, ws, s, he, r, h⟩ => by
  cases ws with
  | nil =>
    simp only [RpWL] at r
    exact ⟨r, h σ H ⟨F, ι, .refl, s, he⟩ rfl⟩
  | cons w ws => exact h.elim⟩
theorem ggs_cons {own : List Nat} {t : Expr} {ts : List Expr} {g : GTg} {gs : List GTg} (h1 : GJG X t own g) (h2 : GJGs X ts own gs) (hs : (assignEach (t :: ts) X.env).map (·.2) = assign t X.env :: (assignEach ts X.env).map (·.2) := by rfl) : GJGs X (t :: ts) own (g :: gs) := ⟨fun B F0 wx tk => by
  refine PGs.imp (pgs_cons (h1.run B F0 wx tk) (h2.run B F0 wx tk) hs) fun vs σ H Q ⟨F, ι, ρ, G, ws, s, he, r, h⟩ => ?_
  cases ws with
  | nil => exact h.elim
  | cons w ws =>
    simp only [RpWL] at r
    obtain ⟨x, xs, rfl, r1, r2⟩ := r
    refine ⟨x, xs, rfl, F, ι, ρ, G, w, s, he, r1, ?_⟩
    simp only [gTgs] at h
    cases q : g w ρ G with
    | none => rw [q] at h; exact h.elim
    | some o =>
      obtain ⟨ρ1, G1⟩ := o
      rw [q] at h
      rintro σ1 H1 ⟨F1, ι1, e1, s1, he1⟩ k1
      refine ⟨F1, ι1, ρ1, G1, ws, s1, he1, r2.mono e1, ?_⟩
      simp only at h
      cases q2 : gTgs gs ws ρ1 G1 with
      | none => rw [q2] at h; exact h.elim
      | some o2 =>
        rw [q2] at h
        rintro σ2 H2 ⟨F2, ι2, e2, s2, he2⟩ k2
        exact h σ2 H2 ⟨F2, ι2, e1.trans e2, s2, he2⟩ (k2.trans k1)⟩
def gTp (ts : List GTg) : GTg := fun w ρ G => match seqW w G with
  | some (false, ws) => gTgs ts ws ρ G
  | _ => none
theorem gTgs_len : ∀ {ts : List GTg} {ws : List W} {ρ ρ' : GEnv} {G G' : Hg}, gTgs ts ws ρ G = some (ρ', G') → ws.length = ts.length
  | [], [], _, _, _, _, _ => rfl
  | [], _ :: _, _, _, _, _, h => by cases h
  | _ :: _, [], _, _, _, _, h => by cases h
  | t :: ts, w :: ws, ρ, ρ', G, G', h => by
    simp only [gTgs] at h
    cases q : t w ρ G with
    | none => rw [q] at h; cases h
    | some o => rw [q] at h; simp [gTgs_len h]
theorem gg_tup {own : List Nat} {es : List Expr} {k : Nat} {gs : List GTg} (hc : X.calm = true) (h : GJGs X es own gs)
    (hn : (assignEach es X.env).length = gs.length := by rfl) (hst : (assignEach es X.env).findIdx? (·.1) = none := by rfl) : GJG X (.Tuple es k pos) own (gTp gs) := ⟨fun B F0 wx tk => by
  refine PG.imp (pg_tup hc (h.run B F0 wx tk) hn hst) fun v σ H Q ⟨F, ι, ρ, G, w, s, he, r, hh⟩ => ?_
  unfold gTp at hh
  cases q : seqW w G with
  | none => rw [q] at hh; exact hh.elim
  | some o =>
    obtain ⟨b, ws⟩ := o
    cases b with
    | true => rw [q] at hh; exact hh.elim
    | false =>
      rw [q] at hh
      simp only at hh
      obtain ⟨a, xs, rfl, h1, h2⟩ := s.seq q r
      rw [if_neg Bool.false_ne_true] at h1
      refine ⟨a, xs, rfl, h1, ?_, F, ι, ρ, G, ws, s, he, h2, hh⟩
      rw [← h2.length]
      cases q2 : gTgs gs ws ρ G with
      | none => rw [q2] at hh; exact hh.elim
      | some o => obtain ⟨_, _⟩ := o; exact gTgs_len q2⟩
def gAsg (e : GE) (t : GTg) : GS := fun ρ G => (e ρ G).toS ρ fun w G' => match t w ρ G' with
  | none => .stuck
  | some (ρ', G2) => .nx ρ' G2
theorem gs_asg {tg e : Expr} {ge : GE} {own : List Nat} {t : GTg} (he : GJE X e ge) (hg : GJG X tg own t) (hs : swapsWithSole [tg] e pos.line X.env = pure false := by rfl) (hw : swappedStores [tg] e X.env = pure none := by rfl)
    (h1 : (assignEach [tg] X.env).map (·.2) = [assign tg X.env] := by rfl) : GJS X (.Assign [tg] e pos) (gAsg ge t) := ⟨fun B F0 wx tk => by
  refine PS.imp (ps_asg (he.run B F0 wx tk) (hg.run B F0 wx tk) hs hw h1) fun D σ H ⟨F, ι, ρ, G, s, he, hp⟩ => ?_
  refine ⟨F, ι, ρ, G, s, he, (PostS.fst he hp).imp fun v H1 ⟨F1, ι1, w, G1, e1, s1, r1, he1, p1⟩ => ⟨F1, ι1, ρ, G1, w, s1, he1, r1, ?_⟩⟩
  cases q : t w ρ G1 with
  | none => rw [q] at p1; exact p1.elim
  | some o =>
    obtain ⟨ρ', G2⟩ := o
    rw [q] at p1
    exact fun σ' H' h _ => p1 σ' H' h⟩
/-- a name's plain store -/
theorem gs_set {i : Nat} {x : Str} {e : Expr} {ge : GE} {pos' : Pos} (hN : X.N.Nodup) (he : GJE X e ge) (hi : X.N[i]? = some x := by rfl) (hx : Loc X.env.scope x := by first | exact Or.inl rfl | exact Or.inr rfl) (hs : swapsWith e (some (.Name x pos')) pos.line X.env = pure false := by rfl)
    (hf : X.fn x = true ∨ X.env.scope.names.lookup x = some .local := by first | exact .inl rfl | exact .inr rfl) : GJS X (.Assign [.Name x pos'] e pos) (gAsg ge (gNm i)) := ⟨fun B F0 wx tk => by
  refine PS.imp (ps_set hN hi hx (he.run B F0 wx tk) hs hf) fun D σ H ⟨F, ι, ρ, G, s, he, hp⟩ => ?_
  refine ⟨F, ι, ρ, G, s, he, (PostS.fst he hp).imp fun v H1 ⟨F1, ι1, w, G1, e1, s1, r1, he1, p1⟩ => ?_⟩
  exact p1 _ H1 ⟨F1, ι1, .refl, s1, he1.set i r1⟩⟩
/-- o[i] = v -/
def gSb (o i : GE) (f : W → W → W → Hg → Option Hg) : GTg := fun v ρ G => match o ρ G with
  | .ok wo G1 => match i ρ G1 with
    | .ok wi G2 => (f wo wi v G2).map fun G3 => (ρ, G3)
    | _ => none
  | _ => none
def SetG (X : Cx) (t : TSet) (f : W → W → W → Hg → Option Hg) : Prop := ∀ (C : GC) (F H : Hp) (ι : Nat → Addr) (G : Hg) (wo wi wv : W) (o i v : V) (G' : Hg) (Q : Hp → Prop), C.m = md X → Sim C F H ι G → RpW C.m F ι G.length wo o → RpW C.m F ι G.length wi i → RpW C.m F ι G.length wv v →
  f wo wi wv G = some G' → (∀ H', (∃ F' ι', Ext F ι G.length F' ι' G'.length ∧ Sim C F' H' ι' G') → Q H') → t o i v H Q
theorem gg_sub {o i : Expr} {own : List Nat} {go gi : GE} {t : TSet} {f : W → W → W → Hg → Option Hg} (hs : PSet X t) (hf : SetG X t f) (ho : GJE X o go) (hi : GJE X i gi)
    (ha : ∀ v, assign (.Subscript o i pos) X.env v = (do
      let ov ← holding [v] (eval o X.env)
      let iv ← holding [v, ov] (eval i X.env)
      standAt pos
      holding [v, ov, iv] (setItem ov iv v)
      release [v, ov, iv] []) := by intro _; rfl) : GJG X (.Subscript o i pos) own (gSb go gi f) := ⟨fun B F0 wx tk => by
  refine PG.imp (pg_sub (ho.run B F0 wx tk) (hi.run B F0 wx tk) hs ha) fun v σ H Q ⟨F, ι, ρ, G, w, s, he, r, hh⟩ => ?_
  unfold gSb at hh
  refine ⟨F, ι, ρ, G, s, he, ?_⟩
  cases q : go ρ G with
  | stuck => rw [q] at hh; exact hh.elim
  | exc e G' => rw [q] at hh; exact hh.elim
  | ok wo G1 =>
    rw [q] at hh
    rintro vo H1 ⟨F1, ι1, e1, s1, r1⟩
    refine ⟨F1, ι1, ρ, G1, s1, he.mono e1, ?_⟩
    simp only at hh
    cases q2 : gi ρ G1 with
    | stuck => rw [q2] at hh; exact hh.elim
    | exc e G' => rw [q2] at hh; exact hh.elim
    | ok wi G2 =>
      rw [q2] at hh
      rintro vi H2 ⟨F2, ι2, e2, s2, r2⟩
      simp only at hh
      cases q3 : f wo wi w G2 with
      | none => rw [q3] at hh; exact hh.elim
      | some G3 =>
        rw [q3] at hh
        refine hf _ F2 H2 ι2 G2 wo wi w vo vi v G3 _ rfl s2 (r1.mono e2) r2 (r.mono (e1.trans e2)) q3 fun H3 ⟨F3, ι3, e3, s3⟩ => ?_
        have ee := (e1.trans e2).trans e3
        exact hh σ H3 ⟨F3, ι3, ee, s3, he.mono ee⟩ rfl⟩
end

/-! ### loops -/
/-- an iterable: its items, and what must stay of the ghost objects while it is walked -/
abbrev GI := GEnv → Hg → Res (List W × (Hg → Bool))
/-- J walks ws while ck holds -/
def ItG (M : Md) (J : It) (F : Hp) (ι : Nat → Addr) (n : Nat) (ws : List W) (ck : Hg → Bool) (BB : Hp) : Prop :=
  ∀ (C : GC) (F2 H2 : Hp) (ι2 : Nat → Addr) (G2 : Hg), C.m = M → Same BB C.B → Ext F ι n F2 ι2 G2.length → Sim C F2 H2 ι2 G2 → ck G2 = true →
    (∀ (i : Nat) (w : W), ws[i]? = some w → J.go i H2 ∧ ∀ x H3, J.yld i H2 x H3 → ∃ F3, Ext F2 ι2 G2.length F3 ι2 G2.length ∧ Sim C F3 H3 ι2 G2 ∧ RpW M F3 ι2 G2.length w x) ∧ J.stop ws.length H2
def PostI (C : GC) (F : Hp) (ι : Nat → Addr) (n : Nat) (σ : L2.St) (r : Res (List W × (Hg → Bool))) (R : It → Hp → Prop) : Prop :=
  match r with
  | .stuck => False
  | .exc e G' => ∀ cls d H', XOut C F ι n e G' cls d H' → C.wx cls d σ H'
  | .ok (ws, ck) G' => ∀ J H' F' ι', Ext F ι n F' ι' G'.length → Sim C F' H' ι' G' → ItG C.m J F' ι' G'.length ws ck C.B → R J H'
def gTI (C : GC) (g : GI) : TI := fun σ H R => ∃ F ι ρ G, Sim C F H ι G ∧ REnv C.m F ι G.length ρ σ ∧ PostI C F ι G.length σ (g ρ G) R
structure GJI (X : Cx) (tg iter : Expr) (g : GI) : Prop where
  run : ∀ B F0 wx, Takes X wx → PI X tg iter (gTI (gc X B F0 wx) g)
def forL (t : GTg) (body : GS) (ck : Hg → Bool) : List W → GS
  | [], ρ, G => if ck G then .nx ρ G else .stuck
  | w :: ws, ρ, G => if ck G then (match t w ρ G with
    | none => .stuck
    | some (ρ', G') => match body ρ' G' with
      | .nx ρ2 G2 => forL t body ck ws ρ2 G2
      | .ct ρ2 G2 => forL t body ck ws ρ2 G2
      | .bk ρ2 G2 => .nx ρ2 G2
      | r => r) else .stuck
def gFor (it : GI) (t : GTg) (body : GS) : GS := fun ρ G => (it ρ G).toS ρ fun p G' => forL t body p.2 p.1 ρ G'
section
variable {X : Cx} {pos : Pos}
theorem gs_for {tg iter : Expr} {body : List Stmt} {own : List Nat} {gi : GI} {t : GTg} {gb : GS} (hp : PassesOwn (model X.prog X.w) X.A X.env X.xe) (hc : X.calm = true) (hi : GJI X tg iter gi) (hg : GJG X tg own t) (hb : GJSs X body gb)
    (hs : ∀ x, foldedSetIterable iter X.env x = pure x := by intro _; rfl) : GJS X (.For tg iter body [] pos) (gFor gi t gb) := ⟨fun B F0 wx tk => by
  refine PS.imp (ps_for hp hc (hi.run B F0 wx tk) (hg.run B F0 wx tk) (hb.run B F0 wx tk) hs) fun D σ H ⟨F, ι, ρ, G, s, he, hh⟩ => ?_
  refine ⟨F, ι, ρ, G, s, he, ?_⟩
  unfold gFor at hh
  cases q : gi ρ G with
  | stuck => rw [q] at hh; exact hh
  | exc e G' => rw [q] at hh; exact fun cls d H' ⟨F', ι', a, b, c⟩ => hh cls d σ H' F' ι' a b (he.mono a) c
  | ok p G1 =>
    obtain ⟨ws, ck⟩ := p
    rw [q] at hh
    intro J H1 F1 ι1 e1 s1 it
    refine ⟨fun i m σ H => m = ws.length - i ∧ i ≤ ws.length ∧ ∃ F2 ι2 ρ2 G2, Ext F1 ι1 G1.length F2 ι2 G2.length ∧ Sim (gc X B F0 wx) F2 H ι2 G2 ∧ REnv (md X) F2 ι2 G2.length ρ2 σ ∧ PostS (gc X B F0 wx) F2 ι2 G2.length (forL t gb ck (ws.drop i) ρ2 G2) D,
      ⟨ws.length, by simp, Nat.zero_le _, F1, ι1, ρ, G1, .refl, s1, he.mono e1, PostS.base e1 hh⟩, ?_⟩
    rintro i m σ2 H2 ⟨rfl, hi, F2, ι2, ρ2, G2, e2, s2, he2, p2⟩
    rcases Nat.lt_or_ge i ws.length with hlt | hge
    · have hd : ws.drop i = ws[i] :: ws.drop (i + 1) := by rw [List.drop_eq_getElem_cons hlt]
      rw [hd] at p2
      simp only [forL] at p2
      cases c : ck G2 with
      | false => rw [c] at p2; exact p2.elim
      | true =>
        rw [c, if_pos rfl] at p2
        obtain ⟨it1, it2⟩ := it _ F2 H2 ι2 G2 rfl (Same.refl _) e2 s2 c
        obtain ⟨go, yl⟩ := it1 i ws[i] (List.getElem?_eq_getElem hlt)
        refine .inr ⟨go, fun σ' H' => ∃ F3 ι3 ρ3 G3, Ext F1 ι1 G1.length F3 ι3 G3.length ∧ Sim (gc X B F0 wx) F3 H' ι3 G3 ∧ REnv (md X) F3 ι3 G3.length ρ3 σ' ∧ PostS (gc X B F0 wx) F3 ι3 G3.length (forL t gb ck (ws.drop (i + 1)) ρ3 G3) D,
          fun σ' H' h => ⟨_, by omega, rfl, hlt, h⟩, fun x H3 y => ?_⟩
        obtain ⟨F3, e3, s3, r3⟩ := yl x H3 y
        have p3 := PostS.base e3 p2
        refine ⟨F3, ι2, ρ2, G2, ws[i], s3, he2.mono e3, r3, ?_⟩
        cases qt : t ws[i] ρ2 G2 with
        | none => rw [qt] at p3; exact p3.elim
        | some o =>
          obtain ⟨ρ4, G4⟩ := o
          rw [qt] at p3
          rintro σ4 H4 ⟨F4, ι4, e4, s4, he4⟩ _
          have p4 := PostS.base e4 p3
          refine ⟨F4, ι4, ρ4, G4, s4, he4, ?_⟩
          simp only at p4
          have e14 : Ext F1 ι1 G1.length F4 ι4 G4.length := (e2.trans e3).trans e4
          cases qb : gb ρ4 G4 with
          | stuck => rw [qb] at p4; exact p4
          | exc x ρ' G' => rw [qb] at p4; exact p4
          | nx ρ' G' =>
            rw [qb] at p4
            exact fun σ5 H5 ⟨F5, ι5, e5, s5, he5⟩ => ⟨F5, ι5, ρ', G', e14.trans e5, s5, he5, PostS.base e5 p4⟩
          | ct ρ' G' =>
            rw [qb] at p4
            exact fun σ5 H5 ⟨F5, ι5, e5, s5, he5⟩ => ⟨F5, ι5, ρ', G', e14.trans e5, s5, he5, PostS.base e5 p4⟩
          | bk ρ' G' =>
            rw [qb] at p4
            exact p4
          | ret w G' => rw [qb] at p4; exact p4
    · have e : i = ws.length := by omega
      subst e
      rw [List.drop_length] at p2
      simp only [forL] at p2
      cases c : ck G2 with
      | false => rw [c] at p2; exact p2.elim
      | true =>
        rw [c, if_pos rfl] at p2
        obtain ⟨_, it2⟩ := it _ F2 H2 ι2 G2 rfl (Same.refl _) e2 s2 c
        exact .inl ⟨it2, p2 σ2 H2 ⟨F2, ι2, .refl, s2, he2⟩⟩⟩
def whileN (c : GT) (body : GS) : Nat → GS
  | 0, _, _ => .stuck
  | k + 1, ρ, G => (c ρ G).toS ρ fun b G' => if b then (match body ρ G' with
    | .nx ρ2 G2 => whileN c body k ρ2 G2
    | .ct ρ2 G2 => whileN c body k ρ2 G2
    | .bk ρ2 G2 => .nx ρ2 G2
    | r => r) else .nx ρ G'
theorem gs_while (k : Nat) {c : Expr} {body : List Stmt} {tc : GT} {gb : GS} (hp : PassesOwn (model X.prog X.w) X.A X.env X.xe) (hc : GJT X c tc) (hb : GJSs X body gb) : GJS X (.While c body [] pos) (whileN tc gb k) := ⟨fun B F0 wx tk => by
  refine PS.imp (ps_while hp (hc.run B F0 wx tk) (hb.run B F0 wx tk)) fun D σ H ⟨F, ι, ρ, G, s, he, hh⟩ => ?_
  refine ⟨fun m σ H => ∃ F ι ρ G, Sim (gc X B F0 wx) F H ι G ∧ REnv (md X) F ι G.length ρ σ ∧ PostS (gc X B F0 wx) F ι G.length (whileN tc gb m ρ G) D, ⟨k, F, ι, ρ, G, s, he, hh⟩, ?_⟩
  rintro m σ H ⟨F, ι, ρ, G, s, he, hh⟩
  cases m with
  | zero => exact hh.elim
  | succ m =>
    simp only [whileN] at hh
    refine ⟨F, ι, ρ, G, s, he, (PostS.fstB he hh).imp fun b H1 ⟨F1, ι1, G1, e1, s1, he1, p1⟩ => ?_⟩
    cases b with
    | false => exact p1 σ H1 ⟨F1, ι1, .refl, s1, he1⟩
    | true =>
      refine ⟨fun σ' H' => ∃ F ι ρ G, Sim (gc X B F0 wx) F H' ι G ∧ REnv (md X) F ι G.length ρ σ' ∧ PostS (gc X B F0 wx) F ι G.length (whileN tc gb m ρ G) D, fun σ' H' h => ⟨m, Nat.lt_succ_self m, h⟩, F1, ι1, ρ, G1, s1, he1, ?_⟩
      rw [if_pos rfl] at p1
      cases qb : gb ρ G1 with
      | stuck => rw [qb] at p1; exact p1
      | exc x ρ' G' => rw [qb] at p1; exact p1
      | nx ρ' G' =>
        rw [qb] at p1
        exact fun σ5 H5 ⟨F5, ι5, e5, s5, he5⟩ => ⟨F5, ι5, ρ', G', s5, he5, PostS.base e5 p1⟩
      | ct ρ' G' =>
        rw [qb] at p1
        exact fun σ5 H5 ⟨F5, ι5, e5, s5, he5⟩ => ⟨F5, ι5, ρ', G', s5, he5, PostS.base e5 p1⟩
      | bk ρ' G' => rw [qb] at p1; exact p1
      | ret w G' => rw [qb] at p1; exact p1⟩
end
end Gh

set_option Elab.async false
set_option linter.all false
set_option maxRecDepth 100000
set_option maxHeartbeats 4000000
namespace Gh
open PySem PySem.Spec PyProof.Rows L2

/-! ### + of ints, texts, lists, tuples -/
section
variable {X : Cx}
/-- list + list, any two that are read -/
def rCatLA (K : PySem.W.Frag) : R2 := fun x y H Q => ∃ l b xs zs, x = .ref l ∧ y = .ref b ∧ SqL K H l xs ∧ SqL K H b zs ∧ xs.length + zs.length ≤ sizeLine ∧ ∀ p, H p = none → Q (.ref p) (upd H p (.lst (xs ++ zs)))
theorem op_catLA : OpR X (binaryOp .Add) (rCatLA X.K) := by
  intro pins s σ H x y v u Q I rx ry h
  obtain ⟨l, b, xs, zs, rfl, rfl, hH, hB, hz, q⟩ := h
  cases rx
  cases ry
  obtain ⟨its, r, ⟨⟨cls, dd, data, sl⟩, n, ho, hc, _, hd⟩, hl⟩ := I.list hH
  obtain ⟨its2, r2, ⟨⟨cls2, dd2, data2, sl2⟩, n2, ho2, hc2, _, hd2⟩, hl2⟩ := I.list hB
  simp only at hc hd hc2 hd2
  subst hc hd hc2 hd2
  have h1 := r.length
  have h2 := r2.length
  refine concat_meets ⟨_, ho, rfl⟩ ⟨_, ho2, rfl⟩ noFill_list_add seq_list_add PySem.F.slot_list_add PySem.F.entry_list_add (PySem.F.args_list_add_2 _ _) (list_addW l b its.toArray its2.toArray n n2 dd dd2 sl sl2 (by rw [List.size_toArray, List.size_toArray]; omega)) ⟨ho, ho2, ?_⟩
  have ea : its.toArray ++ its2.toArray = (its ++ its2).toArray := by simp
  rw [ea]
  exact ⟨.ref _, _, I.lnew (t' := s.toks) (r.append r2) (by rw [List.length_append]; omega), rfl, q _ I.fresh⟩
def rAddA (K : PySem.W.Frag) : R2 := fun x y H Q => (rI0 (fun i j => .int (i + j))) x y H Q ∨ (∃ i j, x = .str i ∧ y = .str j ∧ i.length + j.length ≤ sizeLine ∧ Q (.str (i ++ j)) H) ∨ rCatLA K x y H Q ∨ rCatA K x y H Q
theorem op_addA : OpR X (binaryOp .Add) (rAddA X.K) := by
  intro pins s σ H x y v u Q I rx ry h
  rcases h with h | h | h | h
  · exact op_add pins s σ H x y v u Q I rx ry h
  · exact op_add_str pins s σ H x y v u Q I rx ry h
  · exact op_catLA pins s σ H x y v u Q I rx ry h
  · exact op_catA pins s σ H x y v u Q I rx ry h
/-- a list's result: a tree -/
def mkLst (ws : List W) : Option W := (allD ws).map fun ds => .d (.lst ds)
def fAddS (w u : W) (G : Hg) : Option (W × Hg) := match seqW w G, seqW u G with
  | some (true, ws), some (true, us) => if small (ws.length + us.length) then (mkLst (ws ++ us)).map fun z => (z, G) else none
  | some (false, ws), some (false, us) => if small (ws.length + us.length) then (if ws.isEmpty then some (u, G) else if us.isEmpty then some (w, G) else some (mkTup (ws ++ us), G)) else none
  | _, _ => none
def fAdd : W → W → Hg → Option (W × Hg)
  | .d (.int i), .d (.int j), G => some (.d (.int (i + j)), G)
  | .d (.str i), .d (.str j), G => if small (i.length + j.length) then some (.d (.str (i ++ j)), G) else none
  | w, u, G => fAddS w u G
theorem isEmpty_nil {α : Type} {l : List α} (h : l.isEmpty = true) : l = [] := List.isEmpty_iff.mp h
theorem RpWL.nilV {M : Md} {F : Hp} {ι : Nat → Addr} {n : Nat} {ws : List W} {xs : List V} (r : RpWL M F ι n ws xs) : xs = [] ↔ ws.isEmpty = true := by
  have := r.length
  cases ws with
  | nil => simp only [RpWL] at r; simp [r]
  | cons w ws => cases xs with
    | nil => simp at this
    | cons => simp
theorem og_addS (C : GC) (F H : Hp) (ι : Nat → Addr) (G : Hg) (w u : W) (x y : V) (z : W) (G' : Hg) (Q : VK) (hK : C.m = md X) (s : Sim C F H ι G) (rw_ : RpW C.m F ι G.length w x) (ru : RpW C.m F ι G.length u y)
    (e : fAddS w u G = some (z, G')) (hQ : ∀ v H', Out C F ι G.length z G' v H' → Q v H') : rAddA X.K x y H Q := by
  have hKK : C.m.K = X.K := by rw [hK]
  unfold fAddS at e
  cases q : seqW w G with
  | none => rw [q] at e; cases e
  | some o =>
    obtain ⟨b, ws⟩ := o
    cases q2 : seqW u G with
    | none => rw [q, q2] at e; cases b <;> cases e
    | some o2 =>
      obtain ⟨b2, us⟩ := o2
      rw [q, q2] at e
      obtain ⟨a, xs, rfl, h1, h2⟩ := s.seq q rw_
      obtain ⟨a2, ys, rfl, h3, h4⟩ := s.seq q2 ru
      rw [hKK] at h1 h3
      cases b with
      | true =>
        cases b2 with
        | false => cases e
        | true =>
          simp only at e
          rw [if_pos rfl] at h1 h3
          cases c : small (ws.length + us.length) with
          | false => rw [c] at e; cases e
          | true =>
            rw [c, if_pos rfl] at e
            unfold mkLst at e
            cases k : allD (ws ++ us) with
            | none => rw [k] at e; cases e
            | some ds =>
              rw [k] at e
              cases e
              refine .inr (.inr (.inl ⟨a, a2, xs, ys, rfl, rfl, h1, h3, by rw [← h2.length, ← h4.length]; exact small_le c, fun p hp => hQ _ _ (out_lst s (allD_rp k (h2.append h4)) hp)⟩))
      | false =>
        cases b2 with
        | true => cases e
        | false =>
          simp only at e
          rw [if_neg Bool.false_ne_true] at h1 h3
          cases c : small (ws.length + us.length) with
          | false => rw [c] at e; cases e
          | true =>
            rw [c, if_pos rfl] at e
            refine .inr (.inr (.inr ⟨a, a2, xs, ys, rfl, rfl, h1, h3, by rw [← h2.length, ← h4.length]; exact small_le c, fun hx => ?_, fun hx hy => ?_, fun hx hy p hp => ?_⟩))
            · rw [if_pos (h2.nilV.mp hx)] at e
              cases e
              exact hQ _ _ (out_w s ru)
            · rw [if_neg (fun k => hx (h2.nilV.mpr k)), if_pos (h4.nilV.mp hy)] at e
              cases e
              exact hQ _ _ (out_w s rw_)
            · rw [if_neg (fun k => hx (h2.nilV.mpr k)), if_neg (fun k => hy (h4.nilV.mpr k))] at e
              cases e
              exact hQ _ _ (out_tup s (h2.append h4) hp)
theorem og_add : OpG X (rAddA X.K) fAdd := by
  intro C F H ι G w u x y z G' Q hK s rw_ ru e hQ
  have gen : fAddS w u G = some (z, G') → rAddA X.K x y H Q := fun e => og_addS C F H ι G w u x y z G' Q hK s rw_ ru e hQ
  cases w with
  | d a =>
    cases a with
    | int i =>
      cases u with
      | d b =>
        cases b with
        | int j =>
          simp only [fAdd] at e
          cases e
          simp only [RpW, Rp] at rw_ ru
          subst rw_ ru
          exact .inl ⟨i, j, rfl, rfl, hQ _ _ (out_flat s rpI)⟩
        | _ => exact gen e
      | _ => exact gen e
    | str i =>
      cases u with
      | d b =>
        cases b with
        | str j =>
          simp only [fAdd] at e
          cases c : small (i.length + j.length) with
          | false => rw [c] at e; cases e
          | true =>
            rw [c, if_pos rfl] at e
            cases e
            simp only [RpW, Rp] at rw_ ru
            subst rw_ ru
            exact .inr (.inl ⟨i, j, rfl, rfl, small_le c, hQ _ _ (out_flat s rpS)⟩)
        | _ => exact gen e
      | _ => exact gen e
    | _ => exact gen e
  | _ => exact gen e
/-- list + list, as a new list that may be changed -/
def fAddN (w u : W) (G : Hg) : Option (W × Hg) := match seqW w G, seqW u G with
  | some (true, ws), some (true, us) => if small (ws.length + us.length) then some (.ref G.length, G ++ [.lst (ws ++ us)]) else none
  | _, _ => none
theorem og_addN : OpG X (rAddA X.K) fAddN := by
  intro C F H ι G w u x y z G' Q hK s rw_ ru e hQ
  have hKK : C.m.K = X.K := by rw [hK]
  unfold fAddN at e
  cases q : seqW w G with
  | none => rw [q] at e; cases e
  | some o =>
    obtain ⟨b, ws⟩ := o
    cases q2 : seqW u G with
    | none => rw [q, q2] at e; cases b <;> cases e
    | some o2 =>
      obtain ⟨b2, us⟩ := o2
      rw [q, q2] at e
      obtain ⟨a, xs, rfl, h1, h2⟩ := s.seq q rw_
      obtain ⟨a2, ys, rfl, h3, h4⟩ := s.seq q2 ru
      rw [hKK] at h1 h3
      cases b with
      | false => cases e
      | true =>
        cases b2 with
        | false => cases e
        | true =>
          simp only at e
          rw [if_pos rfl] at h1 h3
          cases c : small (ws.length + us.length) with
          | false => rw [c] at e; cases e
          | true =>
            rw [c, if_pos rfl] at e
            cases e
            exact .inr (.inr (.inl ⟨a, a2, xs, ys, rfl, rfl, h1, h3, by rw [← h2.length, ← h4.length]; exact small_le c, fun p hp => hQ _ _ (out_new s (h2.append h4) hp)⟩))
/-! ### * -/
theorem og_mul : OpG X (rI CMul fun i j => .int (i * j)) (fI iMul) := og_int fun C F H i j d Q q hQ => by
  obtain ⟨p, rfl⟩ := of_some q; exact ⟨i, j, rfl, rfl, p, hQ _ rpI⟩
end
/-- the same with more to be kept -/
theorem Sim.keep {C : GC} {F H : Hp} {ι : Nat → Addr} {G : Hg} {p : Addr} {o : HO} (s : Sim C F H ι G) (h : H p = none) : Sim { C with B := upd C.B p o } F (upd H p o) ι G := by
  have s' := s.drop (o := o) h
  have hB := s.freeB h
  have hF := s.free h
  refine ⟨s'.fh, fun b u q => ?_, s.ff, fun b u q => ?_, fun i g hi hg => ?_, s.inj⟩
  · by_cases e : b = p
    · subst e
      have q1 : upd C.B b o b = some u := q
      rw [upd_same] at q1
      cases q1
      exact upd_same
    · have q' : C.B b = some u := by rw [← upd_ne (H := C.B) (o := o) e]; exact q
      exact s'.bh _ _ q'
  · rcases s.new b u q with z | z
    · exact .inl z
    · refine .inr ?_
      show upd C.B p o b = none
      rw [upd_ne (fun e => by rw [e, hF] at q; cases q)]
      exact z
  · obtain ⟨a, b, r⟩ := s'.live i g hi hg
    obtain ⟨u, hu⟩ := (s.live i g hi hg).2.2.some hg
    have e : upd C.B p o (ι i) = C.B (ι i) := upd_ne (ne_of_none hu h)
    exact ⟨a, ⟨fun hL => e.trans (b.1 hL), fun hL z => b.2 hL (e.symm.trans z)⟩, r⟩
/-- what is kept at p is no locked thing: no ghost object stands there -/
theorem Sim.apart {C : GC} {F H : Hp} {ι : Nat → Addr} {G : Hg} {p : Addr} {o : HO} (s : Sim { C with B := upd C.B p o } F H ι G) (hno : ∀ od u, o ≠ .frz od u) : ∀ i g, G[i]? = some g → g ≠ .dead → ι i ≠ p := fun i g hi hg e => by
  obtain ⟨_, b, r⟩ := s.live i g hi hg
  cases hL : g.isL with
  | false =>
    have z : upd C.B p o (ι i) = none := b.1 hL
    rw [e, upd_same] at z
    cases z
  | true =>
    have hp : H p = some o := s.bh p o upd_same
    cases g with
    | lkd t kvs =>
      cases t with
      | false =>
        obtain ⟨od, es, h1, _⟩ := r
        rw [e, hp] at h1
        exact hno _ _ (Option.some.inj h1)
      | true =>
        obtain ⟨od, es, h1, _⟩ := r
        rw [e, hp] at h1
        exact hno _ _ (Option.some.inj h1)
    | _ => cases hL
theorem Sim.unkeep {C : GC} {F H : Hp} {ι : Nat → Addr} {G : Hg} {p : Addr} {o : HO} (s : Sim { C with B := upd C.B p o } F H ι G) (h : C.B p = none) (hno : ∀ od u, o ≠ .frz od u := by intro _ _ z; cases z) : Sim C F H ι G := by
  refine ⟨s.fh, fun b u q => s.bh b u ?_, s.ff, fun b u q => ?_, fun i g hi hg => ?_, s.inj⟩
  · show upd C.B p o b = some u
    rw [upd_ne (ne_of_none q h)]
    exact q
  · rcases s.new b u q with z | z
    · exact .inl z
    · refine .inr ?_
      by_cases e : b = p
      · rw [e]; exact h
      · have z' : upd C.B p o b = none := z
        rw [upd_ne e] at z'
        exact z'
  · obtain ⟨a, b, r⟩ := s.live i g hi hg
    have e : upd C.B p o (ι i) = C.B (ι i) := upd_ne (s.apart hno i g hi hg)
    exact ⟨a, ⟨fun hL => e.symm.trans (b.1 hL), fun hL z => b.2 hL (e.trans z)⟩, r⟩
/-- a thing that was kept is frozen -/
theorem Sim.adopt {C : GC} {F H : Hp} {ι : Nat → Addr} {G : Hg} {p : Addr} {o : HO} (s : Sim { C with B := upd C.B p o } F H ι G) (h : C.B p = none) (hF : F p = none) (hno : ∀ od u, o ≠ .frz od u := by intro _ _ z; cases z) : Sim C (upd F p o) H ι G ∧ Ext F ι G.length (upd F p o) ι G.length ∧ H p = some o := by
  have hp : H p = some o := s.bh p o upd_same
  have ext : Ext F ι G.length (upd F p o) ι G.length := ⟨fun b u q => by rw [upd_ne (ne_of_none q hF)]; exact q, fun _ _ => rfl, Nat.le_refl _⟩
  have t := s.unkeep h hno
  refine ⟨⟨fun b u q => ?_, t.bh, t.ff.trans ext.fr, fun b u q => ?_, fun i g hi hg => ?_, t.inj⟩, ext, hp⟩
  · by_cases e : b = p
    · subst e; rw [upd_same] at q; cases q; exact hp
    · rw [upd_ne e] at q; exact s.fh _ _ q
  · by_cases e : b = p
    · subst e; exact .inr h
    · rw [upd_ne e] at q; exact t.new _ _ q
  · obtain ⟨a, b, r⟩ := s.live i g hi hg
    have np : ι i ≠ p := s.apart hno i g hi hg
    exact ⟨by rw [upd_ne np]; exact a, (t.live i g hi hg).2.1, r.mono ext fun u q => q⟩
/-- [..] * k -/
def repEnd (ws : List W) : W → Hg → Res W := fun z G2 => match z, allD ws with
  | .d (.int j), some ds => if (decide (-(2 ^ 63) ≤ j) && decide (j < 2 ^ 63)) && small (ws.length * j.toNat) then .ok (.d (.lst (List.replicate j.toNat ds).flatten)) G2 else .stuck
  | _, _ => .stuck
def gRep (a : GEs) (k : GE) : GE := fun ρ G => (a ρ G).bind fun ws G1 => if small ws.length then (k ρ G1).bind (repEnd ws) else .stuck
theorem RpL.append {M : Md} {F : Hp} : ∀ {ds es : List D} {xs ys : List V}, RpL M F ds xs → RpL M F es ys → RpL M F (ds ++ es) (xs ++ ys)
  | [], es, xs, ys, h, k => by simp only [RpL] at h; subst h; simpa using k
  | w :: ws, us, xs, ys, h, k => by
    simp only [RpL] at h
    obtain ⟨x, r, rfl, h1, h2⟩ := h
    simp only [List.cons_append, RpL]
    exact ⟨x, r ++ ys, rfl, h1, h2.append k⟩
theorem RpL.rep {M : Md} {F : Hp} {ds : List D} {xs : List V} (h : RpL M F ds xs) : ∀ k : Nat, RpL M F (List.replicate k ds).flatten (List.replicate k xs).flatten
  | 0 => by simp [RpL]
  | k + 1 => by
    rw [List.replicate_succ, List.replicate_succ, List.flatten_cons, List.flatten_cons]
    exact h.append (h.rep k)
section
variable {X : Cx} {es : List Expr} {gs : GEs} {b : Expr} {gb : GE} {pos pos' : Pos}
theorem ge_rep (h : GJA X es gs) (hb : GJE X b gb) : GJE X (.BinOp (.List es pos') .Mult b pos) (gRep gs gb) := ⟨fun B F0 wx tk => by
  refine ⟨fun pins s0 σ H Q I hh => ?_⟩
  obtain ⟨F, ι, ρ, G, s, he, hp⟩ := hh
  -- what the whole asks
  have key : ∀ (xs : List V) (H1 : Hp) (F1 : Hp) (ι1 : Nat → Addr) (ws : List W) (G1 : Hg), Ext F ι G.length F1 ι1 G1.length → Sim (gc X B F0 wx) F1 H1 ι1 G1 → RpWL (md X) F1 ι1 G1.length ws xs →
      Post (gc X B F0 wx) F1 ι1 G1.length σ ((gb ρ G1).bind (repEnd ws)) Q → ∀ p, H1 p = none → ∃ B' : Hp, gTE (gc X B' F0 wx) gb σ (upd H1 p (.lst xs)) fun y H2 => rRep (.ref p) y H2 Q := by
    intro xs H1 F1 ι1 ws G1 e1 s1 r1 p1 p hp1
    have hB := s1.freeB hp1
    have hF := s1.free hp1
    refine ⟨upd B p (.lst xs), F1, ι1, ρ, G1, s1.keep (o := .lst xs) hp1, he.mono e1, ?_⟩
    cases q : gb ρ G1 with
    | stuck => rw [q] at p1; exact p1
    | exc e G' => rw [q] at p1; exact fun cls d H' ⟨F', ι', a, b', c⟩ => p1 cls d H' ⟨F', ι', a, b'.unkeep (C := gc X B F0 wx) hB, c⟩
    | ok z G2 =>
      rw [q] at p1
      rintro y H2 ⟨F2, ι2, e2, s2, r2⟩
      have p2 := Post.base e2 p1
      simp only [Res.bind, repEnd] at p2
      cases z with
      | d zd =>
        cases zd with
        | int j =>
          cases k : allD ws with
          | none => rw [k] at p2; exact p2.elim
          | some ds =>
            rw [k] at p2
            simp only at p2
            cases c : ((decide (-(2 ^ 63) ≤ j) && decide (j < 2 ^ 63)) && small (ws.length * j.toNat)) with
            | false => rw [c] at p2; exact p2.elim
            | true =>
              rw [c, if_pos rfl] at p2
              simp only [Bool.and_eq_true, decide_eq_true_eq] at c
              simp only [RpW, Rp] at r2
              subst r2
              have hl := r1.length
              refine ⟨p, j, xs, rfl, rfl, s2.bh p _ upd_same, c.1.1, c.1.2, by rw [← hl]; exact small_le c.2, fun p2' hp2 => ?_⟩
              have t := s2.unkeep (C := gc X B F0 wx) hB
              have r1' := allD_rp k (r1.mono e2)
              exact p2 _ _ (out_lst t (r1'.rep _) hp2)
        | _ => exact p2.elim
      | _ => exact p2.elim
  refine wpAny_BinOp ?_
  have hL := (pe_lst (pos := pos') (h.run B F0 wx tk)).run pins s0 σ H (fun x H1 => ∃ p, x = .ref p ∧ ∃ B' : Hp, gTE (gc X B' F0 wx) gb σ H1 fun y H2 => rRep (.ref p) y H2 Q) I ?_
  · refine thn hL fun v s1 ⟨x, H1, I1, r1, p, ex, B', hg⟩ => ?_
    subst ex
    refine thn ((hb.run B' F0 wx tk).run pins s1 σ H1 _ I1 hg) fun u s2 ⟨y, H2, I2, r2, q2⟩ => ?_
    exact op_rep pins s2 σ H2 (.ref p) y v u Q I2 r1 r2 q2
  · refine ⟨F, ι, ρ, G, s, he, (PostL.fst hp).imp fun xs H1 ⟨F1, ι1, ws, G1, e1, s1, r1, p1⟩ => ?_⟩
    cases q : small ws.length with
    | false => rw [q] at p1; exact p1.elim
    | true =>
      rw [q, if_pos rfl] at p1
      exact ⟨by rw [← r1.length]; exact small_le q, fun p hp1 => ⟨p, rfl, key xs H1 F1 ι1 ws G1 e1 s1 r1 p1 p hp1⟩⟩⟩
end
end Gh

set_option Elab.async false
set_option linter.all false
set_option maxRecDepth 100000
set_option maxHeartbeats 4000000
/-! rooms in which no object's text is being made (guards), and what a def promises there -/
namespace Gh
abbrev St := L2.St
open PySem PySem.Spec PyProof.Rows L2
structure RoomG (k : Nat) (A : Around) : Prop where
  r : Room k A
  g : A.guards = some []
theorem RoomG.mono {j k : Nat} {A : Around} (r : RoomG k A) (h : j ≤ k) : RoomG j A := ⟨r.r.mono h, r.g⟩
theorem RoomG.deeper {k : Nat} {A : Around} (r : RoomG (k + 1) A) (env : Env) : RoomG k (A.deeper env) := ⟨r.r.deeper env, r.g⟩
theorem roomG_caller {k : Nat} (h : Room k callerA) : RoomG k callerA := ⟨h, rfl⟩
structure FnG (P : Program) (w : World) (K : PySem.W.Frag) (mg : Str → Option Value) (base : Heap) (CX : CXT) (k : Nat) (f : Addr) (fd : FuncData) (ps : List Str) (sp : Sp) : Prop where
  len : ∀ vs H Q E, sp vs H Q E → vs.length = ps.length
  run : ∀ (A : Around) (outer : List Env) (s : Shared) (H : Hp) (args : Args) (us : List Value) (vs : List V) (Q : VK) (E : XK), RoomG k A → Env0 P w K mg base A outer s H → BindsTo s fd args (ps.zip us) → Vals vs us → sp vs H Q E →
    codeAny (model P w) A (.call (.ref f) args) (CR CX outer P w H s Q E) s
theorem FnG.of {P : Program} {w : World} {K : PySem.W.Frag} {mg : Str → Option Value} {base : Heap} {CX : CXT} {k : Nat} {f : Addr} {fd : FuncData} {ps : List Str} {sp : Sp} (F : FnOk P w K mg base CX k f fd ps sp) : FnG P w K mg base CX k f fd ps sp :=
  ⟨F.len, fun A outer s H args us vs Q E hr => F.run A outer s H args us vs Q E hr.r⟩
theorem fnG_of {CX : CXT} {P : Program} {w : World} {K : PySem.W.Frag} {mg : Str → Option Value} {base : Heap} {k : Nat} {f : Addr} {name qual : Str} {params : Arguments} {body : List Stmt} {scope : Scope} {dV kV doc pm cdv ct oc : Value} {an od : Option Addr}
    {osl : Array (Option Value)} {N ps : List Str} {sp : Sp} (lk : K.lookup f = some ⟨oc, od, .func (PySem.W.fnOf name qual params body scope dV kV doc pm an cdv ct), osl⟩) (hcd : PySem.W.codeIn K cdv qual = true) (S : FnScope N ps scope)
    (len : ∀ vs H Q E, sp vs H Q E → vs.length = ps.length)
    (hbody : ∀ (A : Around) (outer : List Env) (s : Shared) (H : Hp) (vs : List V) (Q : VK) (E : XK), RoomG k (A.deeper (envOfC qual scope s.heap.objs.size f cdv)) → sp vs H Q E →
      ∃ t, PSs (cxOf CX P w K mg base N qual scope f cdv A outer s H E) body t ∧ t { nx := fun _ H' => Q .non H', rt := Q } (L2.start N vs) H) :
    FnG P w K mg base CX (k + 1) f (PySem.W.fnOf name qual params body scope dV kV doc pm an cdv ct) ps sp := by
  refine ⟨len, fun A outer s H args us vs Q E hr e0 hb r hsp => ?_⟩
  have hl := len _ _ _ _ hsp
  have KX : K.In s.heap := e0.mod.kin.keeps fun b o e => (e0.bs b o e).1
  have lim : s.heap.NoLimit := e0.mod.nolimit.keeps fun b o e => (e0.bs b o e).1
  have hkind : ∀ y ∈ ps.zip us, scope.names.lookup y.1 = some .local ∨ (scope.names.lookup y.1 = some .cell ∧ ((cellsFrom (s.heap.objs.size + 1) scope.names []).lookup y.1).isSome = true) := fun ⟨n, v⟩ hy => by
    rcases S.par n (List.of_mem_zip hy).1 with q | q
    · exact .inl q
    · exact .inr ⟨q, PySem.W.cellsFrom_some _ _ _ (.inl q)⟩
  refine codeAny_call_function hr.r.depth (KX _ _ lk) rfl S.co S.gen rfl (PySem.W.codeRec_of KX hcd) (hb _ _ _ _ ?_)
  refine wpAny_newFunctionEnv_cells S.kind hkind fun env he s1 x => ?_
  subst he
  refine ⟨lim.keeps x.toInCall.keep, codeAny_func ?_⟩
  obtain ⟨t, ht, hq⟩ := hbody A outer s H vs Q E (hr.deeper _) hsp
  have I : Inv (cxOf CX P w K mg base N qual scope f cdv A outer s H E) [] (L2.start N vs) H s1 := inv_start S hr.r.hd e0 hl r x
  refine wpAny_mono (ht.run [] s1 (L2.start N vs) H _ I hq) (fun fl s' hs => ?_) fun e s' hs => hs
  have fin : ∀ {σ' : St} {H' : Hp} {v : V} {u : Value}, Inv (cxOf CX P w K mg base N qual scope f cdv A outer s H E) [] σ' H' s' → RelV v u → Q v H' → CE outer P w H s Q u s' :=
    fun {σ' H' v u} J rv q => ⟨v, H', J.os, J.bare, J.base, J.hok, rv, q⟩
  cases fl with
  | ret u =>
    obtain ⟨v, σ', H', J, rv, q⟩ := hs
    exact fin J rv q
  | next =>
    obtain ⟨σ', H', J, q⟩ := hs
    exact fin (v := V.non) (u := Value.none) J rfl q
  | brk =>
    obtain ⟨_, _, _, q⟩ := hs
    exact False.elim q
  | cont =>
    obtain ⟨_, _, _, q⟩ := hs
    exact False.elim q
theorem FunD.okG {x qual : Str} {params : Arguments} {body : List Stmt} {scope : Scope} {dvs : List V} {kws : List (Str × V)} {f : Addr} {fd : FuncData} {P : Program} {w : World} {K : PySem.W.Frag} {mg : Str → Option Value} {base : Heap} {CX : CXT} {N ps : List Str} {k : Nat} {sp : Sp} (F : FunD K x qual params body scope dvs kws f fd) (S : FnScope N ps scope) (len : ∀ vs H Q E, sp vs H Q E → vs.length = ps.length)
    (hbody : ∀ (cdv : Value) (A : Around) (outer : List Env) (s : Shared) (H : Hp) (vs : List V) (Q : VK) (E : XK), RoomG k (A.deeper (envOfC qual scope s.heap.objs.size f cdv)) → sp vs H Q E →
      ∃ t, PSs (cxOf CX P w K mg base N qual scope f cdv A outer s H E) body t ∧ t { nx := fun _ H' => Q .non H', rt := Q } (L2.start N vs) H) : FnG P w K mg base CX (k + 1) f fd ps sp := by
  obtain ⟨oc, od, dV, kV, doc, pm, an, cdv, ct, osl, rfl, lk, hcd, _, _⟩ := F.ex
  exact fnG_of lk hcd S len fun A outer s H vs Q E hr hsp => hbody cdv A outer s H vs Q E hr hsp
section
variable {X : Cx} {CX : CXT} {k : Nat} {f C : Addr} {fd : FuncData} {ps : List Str} {sp : Sp} {E : St → XK} {x m : Str} {p pos apos : Pos} {e o : Expr} {es : List Expr} {ta : TE} {t : TA}
theorem run_fnG {pins : List (Addr × Obj)} {σ : St} {H : Hp} {s : Shared} {Q : VK} {us : List Value} {vs : List V} (F : FnG X.prog X.w X.K X.mg X.base CX k f fd ps sp) (hr : RoomG k X.A) (hb : Binds X.K fd ps []) (hx : PassesAt CX X σ (E σ))
    (I : Inv X pins σ H s) (r : Vals vs us) (h : sp vs H Q (E σ)) : wpAny (model X.prog X.w) X.A (call (.ref f) us) (EP X pins σ Q) X.xe s := by
  have hl : us.length = ps.length := by rw [← r.length]; exact F.len _ _ _ _ h
  have b := hb s us I.kIn (by rw [List.append_nil]; exact hl)
  rw [List.append_nil] at b
  refine wpAny_call (codeAny_mono (F.run X.A X.stack s H ⟨us, []⟩ us vs Q (E σ) hr I.env0 b r h) fun r s' hq => ?_)
  cases r with
  | error e => exact hx pins H s e s' I hq
  | ok fl =>
    cases fl with
    | ret u => exact I.after hq
    | next => exact False.elim hq
    | brk => exact False.elim hq
    | cont => exact False.elim hq

theorem pe_callG (F : FnG X.prog X.w X.K X.mg X.base CX k f fd ps sp) (hr : RoomG k X.A) (hg : Gl X x) (hm : X.mg x = some (.ref f)) (hk : PySem.W.keepIn X.K (.ref f) = true) (hb : Binds X.K fd ps []) (hx : ∀ σ, PassesAt CX X σ (E σ))
    (ha : PA X (e :: es) t) (hdb : (x == ("__debug__" : Str)) = false := by decide) (he : starEach (e :: es) X.env = (false, eval e X.env) :: starEach es X.env := by rfl) (hpl : (backTo pos (starEach es X.env)).any (·.1) = false := by rfl) :
    PE X (.Call (.Name x p) (e :: es) [] pos) (tCallS sp E t) := by
  refine ⟨fun pins s σ H Q I h => ?_⟩
  refine wpAny_Call_Name_kw (ld_glob I hg hm ?_ hdb)
  refine PySem.W.callWith_K (h₀ := X.base) I.ok.mod.kin hk (thn (ha.run pos pins s σ H _ I h) fun us s1 ⟨vs, H1, I1, r, q⟩ => ⟨I1.kIn, ?_⟩) he hpl
  exact run_fnG F hr hb (hx σ) I1 r q
end
theorem law_callG {P : Program} {w : World} {K : PySem.W.Frag} {mg mb : Str → Option Value} {CX : CXT} {k : Nat} {fa a : Addr} {fd : FuncData} {x : Str} {sp : Sp} {s₁ : Shared} {vs : List Value} {ns : List Int}
    (KX : K.In s₁.heap) (hns : s₁.heap.Ns mainGlobals mg) (hb : s₁.heap.Ns builtinsNs mb) (hbb : ∀ x : Str, x ≠ "__name__" → mb x = bootBuiltins x) (hlim : s₁.heap.NoLimit) (hg : s₁.gens = #[])
    (ha : s₁.heap.get? a = some { cls := .type "list", data := .seq vs.toArray }) (hi : IntsAre vs ns) (hl : ns.length ≤ sizeLine) (hr : Room k callerA)
    (F : ∀ base : Heap, K.In base → base.Ns mainGlobals mg → FnG P w K mg base CX k fa fd [x] sp) (hbind : ∀ (s : Shared) (u : Value), BindsTo s fd ⟨[u], []⟩ [(x, u)])
    (hsp : ∀ H : Hp, Only H → SqL K H a (ns.map V.int) → sp [.ref a] H (fun v _ => v = .bl true) fun _ _ _ => False)
    (hCX : ∀ H e s', CX [] H s₁ (fun _ _ _ => False) e s' → False) :
    codeAny (model P w) callerA (.call (.ref fa) ⟨[.ref a], []⟩) (fun r s' => r = .ok (.ret (.bool true)) ∧ OldK s₁.heap s'.heap ∧ s'.os = s₁.os ∧ AllBare s'.gens) s₁ := by
  have rv := vals_ints hi
  have lenV := hi.length
  -- from an abstract heap in which nothing but the script may be tracked
  have core : ∀ H : Hp, Only H → SqL K H a (ns.map V.int) → HOk P w H s₁.heap → (∀ b, H b ≠ none → b = a) → (H a ≠ none → K.lookup a = none) →
      codeAny (model P w) callerA (.call (.ref fa) ⟨[.ref a], []⟩) (fun r s' => r = .ok (.ret (.bool true)) ∧ OldK s₁.heap s'.heap ∧ s'.os = s₁.os ∧ AllBare s'.gens) s₁ := by
    intro H hO hS hok hA hK
    have base_of : ∀ {b : Addr} {o : Obj}, s₁.heap.get? b = some o → H b = none → (hidT s₁.heap H).get? b = some o := fun e n => hidT_get e n
    have noA : ∀ {b : Addr} {o : Obj} {es : Array DictEntry} {ep : Nat}, s₁.heap.get? b = some o → o.data = .dict es ep → H b = none := fun {b o es ep} e d => by
      cases q : H b with
      | none => rfl
      | some u =>
        have e' : b = a := hA b (by rw [q]; simp)
        subst e'
        rw [ha] at e; cases e
        have d' : Data.seq vs.toArray _ = Data.dict es ep := d
        cases d'
    have nsK : ∀ {b : Addr} {m : Str → Option Value}, s₁.heap.Ns b m → (hidT s₁.heap H).Ns b m := fun {b m} ⟨o, es, ep, e, d, r⟩ => ⟨o, es, ep, base_of e (noA e d), d, r⟩
    have hKb : K.In (hidT s₁.heap H) := fun b o e => base_of (KX b o e) (by
      cases q : H b with
      | none => rfl
      | some u =>
        have e' : b = a := hA b (by rw [q]; simp)
        subst e'
        rw [hK (by rw [q]; simp)] at e; cases e)
    have hM : Mod K mg (hidT s₁.heap H) := ⟨hKb, nsK hns, ⟨mb, nsK hb, hbb⟩, let ⟨mc, h1, h2⟩ := hlim; ⟨mc, nsK h1, h2⟩⟩
    have e0 : Env0 P w K mg (hidT s₁.heap H) callerA [] s₁ H := ⟨rfl, hM, fun b o e => of_hidT e, Nat.le_of_eq (hidT_size _ _), trivial, fun b hb => absurd (show b ∈ ([] : List Addr) from hb) (by simp), hok, .of_eq hg⟩
    refine codeAny_mono ((F _ hKb (nsK hns)).run callerA [] s₁ H ⟨[.ref a], []⟩ [.ref a] [.ref a] _ _ (roomG_caller hr) e0 (hbind s₁ (.ref a)) (.cons rfl .nil) (hsp H hO hS)) fun r s' h => ?_
    cases r with
    | error e => exact (hCX H e s' h).elim
    | ok fl =>
      cases fl with
      | next => exact False.elim h
      | brk => exact False.elim h
      | cont => exact False.elim h
      | ret u =>
        obtain ⟨v, H', os, bare, un, hok', r', q⟩ := h
        have q' : v = .bl true := q
        subst q'
        obtain rfl : u = Value.bool true := r'
        refine ⟨rfl, OldK.of_keep fun b o e => ?_, os, bare⟩
        cases q : H b with
        | none => exact un.keep b o e q (by intro z; exact absurd (show b ∈ ([] : List Addr) from z) (by simp)) (by simp)
        | some u =>
          rcases hO b with z | ⟨ob, xs, z⟩
          · rw [q] at z; cases z
          · have z2 := un.frzs b ob _ z
            obtain ⟨e1, _⟩ := hok b _ z
            obtain ⟨e2, _⟩ := hok' b _ z2
            rw [e] at e1; cases e1
            exact e2
  cases hk : K.lookup a with
  | some o =>
    -- the script is one of the module's own objects
    have e := KX a o hk
    rw [ha] at e
    cases e
    refine core (fun _ => none) (fun _ => .inl rfl) (.inr ⟨_, vs.toArray, _, hk, rfl, rfl, rfl, by rw [List.size_toArray, lenV]; exact hl, by simpa using rv⟩) (fun b u z => by have z' : (none : Option HO) = some u := z; cases z') (fun b z => absurd rfl z) fun z => absurd rfl z
  | none =>
    refine core (fun b => if b = a then some (.frz { cls := .type "list", data := .seq vs.toArray } (.lst (ns.map V.int))) else none) (fun b => ?_) (.inl (.inr ⟨{ cls := .type "list", data := .seq vs.toArray }, if_pos rfl⟩)) (fun b u z => ?_) (fun b z => ?_) fun _ => hk
    · by_cases hb : b = a
      · exact .inr ⟨_, _, if_pos hb⟩
      · exact .inl (if_neg hb)
    · by_cases hb : b = a
      · have z' := (if_pos hb).symm.trans z
        cases z'
        subst hb
        exact ⟨ha, by rw [List.length_map]; exact hl, vs, _, rv, ha⟩
      · have z' := (if_neg hb).symm.trans z
        cases z'
    · by_cases hb : b = a
      · exact hb
      · exact absurd (if_neg hb) z
end Gh

set_option Elab.async false
set_option linter.all false
set_option maxRecDepth 100000
set_option maxHeartbeats 4000000
namespace Gh
open PySem PySem.Spec PyProof.Rows L2

/-! ### functions: those that leave all ghost objects alone (pure) -/
inductive PRes where
  | stuck | exc (e : Exc) | ok (d : D)
/-! a tree read off a value, to a depth -/
def mapO {α β : Type} (f : α → Option β) : List α → Option (List β)
  | [] => some []
  | a :: r => match f a with
    | none => none
    | some b => match mapO f r with
      | none => none
      | some bs => some (b :: bs)
theorem mapO_cons {α β : Type} {f : α → Option β} {a : α} {r : List α} {bs : List β} (h : mapO f (a :: r) = some bs) : ∃ b c, f a = some b ∧ mapO f r = some c ∧ bs = b :: c := by
  simp only [mapO] at h
  cases q : f a with
  | none => rw [q] at h; cases h
  | some b =>
    cases q2 : mapO f r with
    | none => rw [q, q2] at h; cases h
    | some c => rw [q, q2] at h; cases h; exact ⟨b, c, rfl, rfl, rfl⟩
def onSnd {α : Type} (f : W → Option D) (p : α × W) : Option (α × D) := (f p.2).map fun d => (p.1, d)
theorem onSnd_some {α : Type} {f : W → Option D} {p : α × W} {q : α × D} (h : onSnd f p = some q) : ∃ d, f p.2 = some d ∧ q = (p.1, d) := by
  unfold onSnd at h
  cases z : f p.2 with
  | none => rw [z] at h; cases h
  | some d => rw [z] at h; cases h; exact ⟨d, rfl, rfl⟩
def rdW : Nat → W → Hg → Option D
  | 0, w, _ => match w with
    | .d x => some x
    | _ => none
  | k + 1, w, G => match w with
    | .d x => some x
    | .tup ws => (mapO (fun w => rdW k w G) ws).map .tup
    | .ref i => match G[i]? with
      | some (.lst ws) => (mapO (fun w => rdW k w G) ws).map .lst
      | some (.frd t kvs) => (mapO (onSnd fun w => rdW k w G) kvs).map (.dic t)
      | some (.ins c fs) => (mapO (onSnd fun w => rdW k w G) fs).map (.ins c)
      | _ => none
open Classical in
/-- the frozen heap with all live ghost objects -/
noncomputable def allF (B F H : Hp) (ι : Nat → Addr) (G : Hg) : Hp := fun a => if (∃ i o, G[i]? = some o ∧ o ≠ .dead ∧ B (ι i) = none ∧ ι i = a) then H a else F a
section
variable {C : GC} {F H : Hp} {ι : Nat → Addr} {G : Hg}
theorem allF_old (s : Sim C F H ι G) : Same F (allF C.B F H ι G) := fun b o q => by
  unfold allF
  split
  · exact s.fh _ _ q
  · exact q
theorem allF_sub (s : Sim C F H ι G) : Same (allF C.B F H ι G) H := fun b o q => by
  unfold allF at q
  split at q
  · exact q
  · exact s.fh _ _ q
theorem allF_live {i : Nat} {o : GO} (hi : G[i]? = some o) (h : o ≠ .dead) (hL : C.B (ι i) = none) : allF C.B F H ι G (ι i) = H (ι i) := by
  unfold allF
  exact if_pos ⟨i, o, hi, h, hL, rfl⟩
theorem allF_new (s : Sim C F H ι G) : ∀ b o, allF C.B F H ι G b = some o → C.F0 b = some o ∨ C.B b = none := fun b o q => by
  unfold allF at q
  split at q
  · rename_i hx
    obtain ⟨i, g, hi, hg, hL, rfl⟩ := hx
    exact .inr hL
  · exact s.new _ _ q
section
variable {M : Md} {F F' : Hp} {ι : Nat → Addr} {n : Nat} {f : W → Option D}
theorem mapO_l (hf : ∀ w d v, f w = some d → RpW M F ι n w v → Rp M F' d v) : ∀ {ws : List W} {ds : List D} {xs : List V}, mapO f ws = some ds → RpWL M F ι n ws xs → RpL M F' ds xs
  | [], _, _, h, r => by
    cases h
    simp only [RpWL] at r
    simpa only [RpL] using r
  | w :: ws, _, _, h, r => by
    obtain ⟨b, c, h1, h2, rfl⟩ := mapO_cons h
    simp only [RpWL] at r
    obtain ⟨y, r', rfl, h3, h4⟩ := r
    simp only [RpL]
    exact ⟨y, r', rfl, hf _ _ _ h1 h3, mapO_l hf h2 h4⟩
theorem mapO_k (hf : ∀ w d v, f w = some d → RpW M F ι n w v → Rp M F' d v) : ∀ {ws : List (D × W)} {ds : List (D × D)} {xs : List (Key × V)}, mapO (onSnd f) ws = some ds → RpWK M F ι n ws xs → RpK M F' ds xs
  | [], _, _, h, r => by
    cases h
    simp only [RpWK] at r
    simpa only [RpK] using r
  | (k, w) :: ws, _, _, h, r => by
    obtain ⟨b, c, h1, h2, rfl⟩ := mapO_cons h
    obtain ⟨d, h0, rfl⟩ := onSnd_some h1
    simp only [RpWK] at r
    obtain ⟨kk, y, r', rfl, h5, h3, h4⟩ := r
    simp only [RpK]
    exact ⟨kk, y, r', rfl, h5, hf _ _ _ h0 h3, mapO_k hf h2 h4⟩
theorem mapO_t (hf : ∀ w d v, f w = some d → RpW M F ι n w v → Rp M F' d v) : ∀ {ws : List (D × W)} {ds : List (D × D)} {xs : List (List Key × V)}, mapO (onSnd f) ws = some ds → RpWT M F ι n ws xs → RpT M F' ds xs
  | [], _, _, h, r => by
    cases h
    simp only [RpWT] at r
    simpa only [RpT] using r
  | (k, w) :: ws, _, _, h, r => by
    obtain ⟨b, c, h1, h2, rfl⟩ := mapO_cons h
    obtain ⟨d, h0, rfl⟩ := onSnd_some h1
    simp only [RpWT] at r
    obtain ⟨kk, y, r', rfl, h5, h3, h4⟩ := r
    simp only [RpT]
    exact ⟨kk, y, r', rfl, h5, hf _ _ _ h0 h3, mapO_t hf h2 h4⟩
theorem mapO_f (hf : ∀ w d v, f w = some d → RpW M F ι n w v → Rp M F' d v) : ∀ {ws : List (Str × W)} {ds : List (Str × D)} {xs : List (Str × V)}, mapO (onSnd f) ws = some ds → RpWF M F ι n ws xs → RpF M F' ds xs
  | [], _, _, h, r => by
    cases h
    simp only [RpWF] at r
    simpa only [RpF] using r
  | (k, w) :: ws, _, _, h, r => by
    obtain ⟨b, c, h1, h2, rfl⟩ := mapO_cons h
    obtain ⟨d, h0, rfl⟩ := onSnd_some h1
    simp only [RpWF] at r
    obtain ⟨y, r', rfl, h3, h4⟩ := r
    simp only [RpF]
    exact ⟨y, r', rfl, hf _ _ _ h0 h3, mapO_f hf h2 h4⟩
end
theorem map_some {α β : Type} {f : α → β} {o : Option α} {b : β} (h : o.map f = some b) : ∃ a, o = some a ∧ b = f a := by
  cases o with
  | none => cases h
  | some a => cases h; exact ⟨a, rfl, rfl⟩
theorem rd_ok (s : Sim C F H ι G) (hB : ∀ i o, G[i]? = some o → o ≠ .dead → C.B (ι i) = none) : ∀ (k : Nat) (w : W) (d : D) (v : V), rdW k w G = some d → RpW C.m F ι G.length w v → Rp C.m (allF C.B F H ι G) d v
  | k, .d x, d, v, h, r => by
    have h' : some x = some d := by cases k <;> exact h
    cases h'
    simp only [RpW] at r
    exact r.mono (allF_old s)
  | 0, .ref i, d, v, h, r => by cases h
  | 0, .tup i, d, v, h, r => by cases h
  | k + 1, .tup ws, d, v, h, r => by
    obtain ⟨ds, q, rfl⟩ := map_some (show (mapO (fun w => rdW k w G) ws).map D.tup = some d from h)
    simp only [RpW] at r
    obtain ⟨a, xs, rfl, h1, h2⟩ := r
    simp only [Rp]
    exact ⟨a, xs, rfl, Same.sqT (allF_old s) h1, mapO_l (rd_ok s hB k) q h2⟩
  | k + 1, .ref i, d, v, h, r => by
    simp only [rdW] at h
    simp only [RpW] at r
    obtain ⟨hi, rfl⟩ := r
    cases q : G[i]? with
    | none => rw [q] at h; cases h
    | some o =>
      rw [q] at h
      cases o with
      | dead => cases h
      | lst ws =>
        obtain ⟨ds, q2, rfl⟩ := map_some h
        have ne : GO.lst ws ≠ .dead := fun z => by cases z
        obtain ⟨_, _, xs, h1, h2⟩ := s.live i _ q ne
        simp only [Rp]
        exact ⟨_, xs, rfl, .inl (.inl ((allF_live q ne (hB _ _ q ne)).trans h1)), mapO_l (rd_ok s hB k) q2 h2⟩
      | dic t kvs => cases h
      | lkd t kvs => cases h
      | frd t kvs =>
        obtain ⟨ds, q2, rfl⟩ := map_some h
        have ne : GO.frd t kvs ≠ .dead := fun z => by cases z
        obtain ⟨_, _, r⟩ := s.live i _ q ne
        cases t with
        | false =>
          obtain ⟨od, es, h1, h2⟩ := r
          simp only [Rp]
          exact ⟨_, od, es, rfl, (allF_live q ne (hB _ _ q ne)).trans h1, mapO_k (rd_ok s hB k) q2 h2⟩
        | true =>
          obtain ⟨od, es, h1, h2⟩ := r
          simp only [Rp]
          exact ⟨_, od, es, rfl, (allF_live q ne (hB _ _ q ne)).trans h1, mapO_t (rd_ok s hB k) q2 h2⟩
      | ins c fs =>
        obtain ⟨ds, q2, rfl⟩ := map_some h
        have ne : GO.ins c fs ≠ .dead := fun z => by cases z
        obtain ⟨_, _, Ca, dx, es, h0, hc, h1, h2⟩ := s.live i _ q ne
        simp only [Rp]
        exact ⟨_, Ca, es, rfl, h0, .ins dx hc ((allF_live q ne (hB _ _ q ne)).trans h1), mapO_f (rd_ok s hB k) q2 h2⟩
end

/-! ### all dicts are locked for good -/
def lk1 : GO → GO
  | .dic t kvs => .frd t kvs
  | o => o
def lkAt (G : Hg) (i : Nat) : Hg := match G[i]? with
  | some (.dic t kvs) => G.set i (.frd t kvs)
  | _ => G
theorem lkAt_get (G : Hg) (i j : Nat) : (lkAt G i)[j]? = if j = i then (G[j]?).map lk1 else G[j]? := by
  unfold lkAt
  by_cases e : j = i
  · subst e
    rw [if_pos rfl]
    cases q : G[j]? with
    | none => simp only [q, Option.map_none]
    | some o =>
      cases o with
      | dic t kvs =>
        simp only [Option.map_some, lk1]
        rw [List.getElem?_set_self (by
          rcases Nat.lt_or_ge j G.length with z | z
          · exact z
          · rw [List.getElem?_eq_none z] at q; cases q)]
      | _ => simp only [q, Option.map_some, lk1]
  · rw [if_neg e]
    cases q : G[i]? with
    | none => rfl
    | some o =>
      cases o with
      | dic t kvs => simp only; rw [List.getElem?_set_ne (Ne.symm e)]
      | _ => rfl
theorem lkAll_get (G : Hg) : ∀ (n j : Nat), ((List.range n).foldl lkAt G)[j]? = if j < n then (G[j]?).map lk1 else G[j]?
  | 0, j => by simp
  | n + 1, j => by
    rw [List.range_succ, List.foldl_append, List.foldl_cons, List.foldl_nil, lkAt_get, lkAll_get G n j]
    by_cases e : j = n
    · subst e
      simp
    · rw [if_neg e]
      by_cases c : j < n
      · rw [if_pos c, if_pos (by omega)]
      · rw [if_neg c, if_neg (by omega)]
theorem lkAll_eq (G : Hg) : (List.range G.length).foldl lkAt G = G.map lk1 := by
  apply List.ext_getElem?
  intro j
  rw [lkAll_get, List.getElem?_map]
  by_cases c : j < G.length
  · rw [if_pos c]
  · rw [if_neg c, List.getElem?_eq_none (by omega)]
    rfl
def lockThen : List Addr → Hp → (Hp → Prop) → Prop
  | [], H, Q => Q H
  | a :: as, H, Q => ∃ u, H a = some u ∧ Mut (some u) ∧ ∀ od, lockThen as (upd H a (.frz od u)) Q
theorem Inv.lockThen {X : Cx} {pins : List (Addr × Obj)} {σ : L2.St} {s : Shared} {Q : Hp → Prop} : ∀ {as : List Addr} {H : Hp}, L2.Inv X pins σ H s → Gh.lockThen as H Q → ∃ H', L2.Inv X pins σ H' s ∧ Q H'
  | [], H, I, h => ⟨H, I, h⟩
  | a :: as, H, I, ⟨u, h1, h2, h3⟩ => by
    obtain ⟨od, I1⟩ := I.lock h1 h2
    exact Inv.lockThen I1 (h3 od)
theorem pss_lockEnd {X : Cx} {ss : List Stmt} {t : TS} (h : PSs X ss t) : PSs X ss (fun D σ H => t { D with rt := fun v H' => ∃ as, lockThen as H' (D.rt v) } σ H) := ⟨fun pins s σ H D I hw => by
  refine thn (h.run pins s σ H _ I hw) fun f s1 q => ?_
  cases f with
  | next => exact q
  | brk => exact q
  | cont => exact q
  | ret v =>
    obtain ⟨x, σ', H', I2, r, as, q⟩ := q
    obtain ⟨H2, I3, q2⟩ := Inv.lockThen I2 q
    exact ⟨x, σ', H2, I3, r, q2⟩⟩
section
variable {C : GC} {F H : Hp} {ι : Nat → Addr} {G : Hg}
theorem Sim.lk {i : Nat} {t : Bool} {kvs : List (D × W)} (s : Sim C F H ι G) (hi : G[i]? = some (.dic t kvs)) : ∃ u, H (ι i) = some u ∧ Mut (some u) ∧ ∀ od, Sim C F (upd H (ι i) (.frz od u)) ι (G.set i (.frd t kvs)) := by
  obtain ⟨_, _, r⟩ := s.live i _ hi (fun z => by cases z)
  cases t with
  | false =>
    obtain ⟨es, h1, h2⟩ := r
    exact ⟨_, h1, trivial, fun od => s.write (g := .frd false kvs) hi (fun z => by cases z) ⟨od, es, upd_same, h2⟩⟩
  | true =>
    obtain ⟨es, h1, h2⟩ := r
    exact ⟨_, h1, trivial, fun od => s.write (g := .frd true kvs) hi (fun z => by cases z) ⟨od, es, upd_same, h2⟩⟩
theorem filterMap_same {α β : Type} {f g : α → Option β} : ∀ {l : List α}, (∀ a ∈ l, f a = g a) → l.filterMap f = l.filterMap g
  | [], _ => rfl
  | a :: l, h => by
    rw [List.filterMap_cons, List.filterMap_cons, h a List.mem_cons_self, filterMap_same fun b hb => h b (List.mem_cons_of_mem _ hb)]
def lkAdr (ι : Nat → Addr) (G : Hg) (j : Nat) : Option Addr := match G[j]? with
  | some (.dic _ _) => some (ι j)
  | _ => none
theorem Sim.lkAll {Q : Hp → Prop} : ∀ (is : List Nat) {H : Hp} {G : Hg}, is.Nodup → Sim C F H ι G → (∀ H', Sim C F H' ι (is.foldl lkAt G) → Q H') → lockThen (is.filterMap (lkAdr ι G)) H Q
  | [], H, G, _, s, h => h H s
  | i :: is, H, G, hn, s, h => by
    rw [List.foldl_cons] at h
    obtain ⟨hi, hn'⟩ := List.nodup_cons.mp hn
    cases q : G[i]? with
    | none =>
      have e : lkAt G i = G := by unfold lkAt; rw [q]
      rw [e] at h
      rw [List.filterMap_cons, show lkAdr ι G i = none by unfold lkAdr; rw [q]]
      exact Sim.lkAll is hn' s h
    | some o =>
      cases o with
      | dic t kvs =>
        have e : lkAt G i = G.set i (.frd t kvs) := by unfold lkAt; rw [q]
        rw [e] at h
        obtain ⟨u, h1, h2, h3⟩ := s.lk q
        rw [List.filterMap_cons, show lkAdr ι G i = some (ι i) by unfold lkAdr; rw [q]]
        refine ⟨u, h1, h2, fun od => ?_⟩
        have same : is.filterMap (lkAdr ι G) = is.filterMap (lkAdr ι (G.set i (.frd t kvs))) := by
          refine filterMap_same fun j hj => ?_
          unfold lkAdr
          rw [List.getElem?_set_ne (fun z => hi (by rw [z]; exact hj))]
        rw [same]
        exact Sim.lkAll is hn' (h3 od) h
      | _ =>
        have e : lkAt G i = G := by unfold lkAt; rw [q]
        rw [e] at h
        rw [List.filterMap_cons, show lkAdr ι G i = none by unfold lkAdr; rw [q]]
        exact Sim.lkAll is hn' s h
end

/-- what a pure function promises -/
def PPost (M : Md) (F H : Hp) (r : PRes) (Q : VK) (E : XK) : Prop := match r with
  | .stuck => False
  | .exc e => ∀ cls d F' H', Same F F' → Same F' H' → Same H H' → (∀ b o, F' b = some o → F b = some o ∨ H b = none) → XR ⟨M, fun _ => none, fun _ => none, fun _ _ _ _ => False⟩ F' H' e cls d → E cls d H'
  | .ok d => ∀ v F' H', Same F F' → Same F' H' → Same H H' → (∀ b o, F' b = some o → F b = some o ∨ H b = none) → Rp M F' d v → Q v H'
def spP (M : Md) (np : Nat) (f : List D → PRes) : Sp := fun vs H Q E => ∃ F ds, ds.length = np ∧ Same F H ∧ RpL M F ds vs ∧ PPost M F H (f ds) Q E
def envP (N : Nat) (ds : List D) : GEnv := ds.map (fun d => some (.d d)) ++ List.replicate (N - ds.length) none
def runP (N : Nat) (g : GS) : List D → PRes := fun ds => match g (envP N ds) [] with
  | .exc e _ _ => .exc e
  | .nx _ _ => .ok .non
  | .ret w G => if G.any GO.isL then .stuck else (match rdW 6 w (G.map lk1) with
    | some d => .ok d
    | none => .stuck)
  | _ => .stuck
/-! .. and a function that may change ghost objects -/
mutual
def belowW (n : Nat) : W → Bool
  | .d _ => true
  | .ref i => decide (i < n)
  | .tup ws => belowL n ws
def belowL (n : Nat) : List W → Bool
  | [] => true
  | w :: ws => belowW n w && belowL n ws
end
def belowO (n : Nat) : GO → Bool
  | .lst ws => belowL n ws
  | .dic _ kvs => kvs.all fun p => belowW n p.2
  | .lkd _ kvs => kvs.all fun p => belowW n p.2
  | .frd _ kvs => kvs.all fun p => belowW n p.2
  | .ins _ fs => fs.all fun p => belowW n p.2
  | .dead => true
section
variable {M : Md} {F : Hp} {ι : Nat → Addr} {n n' : Nat}
mutual
theorem below_ok : ∀ {w : W} {v : V}, belowW n w = true → RpW M F ι n' w v → RpW M F ι n w v
  | .d _, _, _, r => by simpa only [RpW] using r
  | .ref i, _, h, r => by
    simp only [belowW, decide_eq_true_eq] at h
    simp only [RpW] at r ⊢
    exact ⟨h, r.2⟩
  | .tup ws, _, h, r => by
    simp only [belowW] at h
    simp only [RpW] at r ⊢
    obtain ⟨a, xs, h1, h2, h3⟩ := r
    exact ⟨a, xs, h1, h2, below_okL h h3⟩
theorem below_okL : ∀ {w : List W} {v : List V}, belowL n w = true → RpWL M F ι n' w v → RpWL M F ι n w v
  | [], _, _, r => by simpa only [RpWL] using r
  | w :: ws, _, h, r => by
    simp only [belowL, Bool.and_eq_true] at h
    simp only [RpWL] at r ⊢
    obtain ⟨a, xs, h1, h2, h3⟩ := r
    exact ⟨a, xs, h1, below_ok h.1 h2, below_okL h.2 h3⟩
end
theorem below_okK : ∀ {w : List (D × W)} {v : List (Key × V)}, (w.all fun p => belowW n p.2) = true → RpWK M F ι n' w v → RpWK M F ι n w v
  | [], _, _, r => by simpa only [RpWK] using r
  | (k, w) :: ws, _, h, r => by
    simp only [List.all_cons, Bool.and_eq_true] at h
    simp only [RpWK] at r ⊢
    obtain ⟨kk, a, xs, h1, h0, h2, h3⟩ := r
    exact ⟨kk, a, xs, h1, h0, below_ok h.1 h2, below_okK h.2 h3⟩
theorem below_okT : ∀ {w : List (D × W)} {v : List (List Key × V)}, (w.all fun p => belowW n p.2) = true → RpWT M F ι n' w v → RpWT M F ι n w v
  | [], _, _, r => by simpa only [RpWT] using r
  | (k, w) :: ws, _, h, r => by
    simp only [List.all_cons, Bool.and_eq_true] at h
    simp only [RpWT] at r ⊢
    obtain ⟨kk, a, xs, h1, h0, h2, h3⟩ := r
    exact ⟨kk, a, xs, h1, h0, below_ok h.1 h2, below_okT h.2 h3⟩
theorem below_okF : ∀ {w : List (Str × W)} {v : List (Str × V)}, (w.all fun p => belowW n p.2) = true → RpWF M F ι n' w v → RpWF M F ι n w v
  | [], _, _, r => by simpa only [RpWF] using r
  | (k, w) :: ws, _, h, r => by
    simp only [List.all_cons, Bool.and_eq_true] at h
    simp only [RpWF] at r ⊢
    obtain ⟨a, xs, h1, h2, h3⟩ := r
    exact ⟨a, xs, h1, below_ok h.1 h2, below_okF h.2 h3⟩
theorem below_okO {H : Hp} {a : Addr} : ∀ {o : GO}, belowO n o = true → RpO M F ι n' H a o → RpO M F ι n H a o
  | .lst ws, h, ⟨xs, h1, h2⟩ => ⟨xs, h1, below_okL h h2⟩
  | .dic false kvs, h, ⟨xs, h1, h2⟩ => ⟨xs, h1, below_okK h h2⟩
  | .dic true kvs, h, ⟨xs, h1, h2⟩ => ⟨xs, h1, below_okT h h2⟩
  | .lkd false kvs, h, ⟨od, xs, h1, h2⟩ => ⟨od, xs, h1, below_okK h h2⟩
  | .lkd true kvs, h, ⟨od, xs, h1, h2⟩ => ⟨od, xs, h1, below_okT h h2⟩
  | .frd false kvs, h, ⟨od, xs, h1, h2⟩ => ⟨od, xs, h1, below_okK h h2⟩
  | .frd true kvs, h, ⟨od, xs, h1, h2⟩ => ⟨od, xs, h1, below_okT h h2⟩
  | .ins c fs, h, ⟨Ca, dx, es, h0, hc, h1, h2⟩ => ⟨Ca, dx, es, h0, hc, h1, below_okF h h2⟩
  | .dead, _, _ => trivial
end
/-- the ghost objects of a def that are left behind are forgotten -/
def cutG (n : Nat) (G : Hg) : Option Hg := if (G.take n).all (belowO n) then some (G.take n) else none
theorem Sim.cut {C : GC} {F H : Hp} {ι : Nat → Addr} {G G' : Hg} {n : Nat} (s : Sim C F H ι G) (hn : n ≤ G.length) (h : cutG n G = some G') : Sim C F H ι G' ∧ G'.length = n := by
  unfold cutG at h
  by_cases c : (G.take n).all (belowO n) = true
  · rw [if_pos c] at h
    cases h
    have hl : (G.take n).length = n := by rw [List.length_take]; omega
    have at_ : ∀ i o, (G.take n)[i]? = some o → G[i]? = some o := fun i o q => by
      rw [List.getElem?_take] at q
      split at q
      · exact q
      · cases q
    refine ⟨⟨s.fh, s.bh, s.ff, s.new, fun i o hi ho => ?_, fun i j o u hi ho hj hu e => s.inj i j o u (at_ i o hi) ho (at_ j u hj) hu e⟩, hl⟩
    obtain ⟨a, b, r⟩ := s.live i o (at_ i o hi) ho
    refine ⟨a, b, ?_⟩
    rw [hl]
    exact below_okO (List.all_eq_true.mp c o (List.mem_of_getElem? hi)) r
  · rw [if_neg c] at h; cases h
def endS (n : Nat) (w : W) (G : Hg) : Res W := if belowW n w then (match cutG n G with
  | some G' => .ok w G'
  | none => .ok w G) else .ok w G
def endX (n : Nat) (e : Exc) (G : Hg) : Res W := match cutG n G with
  | some G' => .exc e G'
  | none => .exc e G
def envS (N : Nat) (ws : List W) : GEnv := ws.map some ++ List.replicate (N - ws.length) none
def runS (N : Nat) (g : GS) : List W → Hg → Res W := fun ws G => match g (envS N ws) G with
  | .exc e _ G' => endX G.length e G'
  | .nx _ G' => endS G.length (.d .non) G'
  | .ret w G' => endS G.length w G'
  | _ => .stuck
def SPost (C : GC) (F : Hp) (ι : Nat → Addr) (n : Nat) (r : Res W) (Q : VK) (E : XK) : Prop := match r with
  | .stuck => False
  | .exc e G' => ∀ cls d H', XOut C F ι n e G' cls d H' → E cls d H'
  | .ok w G' => ∀ v H', Out C F ι n w G' v H' → Q v H'
def wx0 : WX := fun _ _ _ _ => False
def spS (M : Md) (np : Nat) (f : List W → Hg → Res W) : Sp := fun vs H Q E => ∃ B F0 F ι G ws, ws.length = np ∧ Sim ⟨M, B, F0, wx0⟩ F H ι G ∧ RpWL M F ι G.length ws vs ∧ SPost ⟨M, B, F0, wx0⟩ F ι G.length (f ws G) Q E
theorem Sim.wx {m : Md} {B F0 : Hp} {wx wx' : WX} {F H : Hp} {ι : Nat → Addr} {G : Hg} (s : Sim ⟨m, B, F0, wx⟩ F H ι G) : Sim ⟨m, B, F0, wx'⟩ F H ι G := ⟨s.fh, s.bh, s.ff, s.new, s.live, s.inj⟩
theorem Out.wx {m : Md} {B F0 : Hp} {wx wx' : WX} {F : Hp} {ι : Nat → Addr} {n : Nat} {w : W} {G' : Hg} {v : V} {H' : Hp} (h : Out ⟨m, B, F0, wx⟩ F ι n w G' v H') : Out ⟨m, B, F0, wx'⟩ F ι n w G' v H' :=
  let ⟨F', ι', a, b, c⟩ := h; ⟨F', ι', a, b.wx, c⟩
theorem XOut.wx {m : Md} {B F0 : Hp} {wx wx' : WX} {F : Hp} {ι : Nat → Addr} {n : Nat} {w : Exc} {G' : Hg} {v : Value} {d : Option Addr} {H' : Hp} (h : XOut ⟨m, B, F0, wx⟩ F ι n w G' v d H') : XOut ⟨m, B, F0, wx'⟩ F ι n w G' v d H' :=
  let ⟨F', ι', a, b, c⟩ := h; ⟨F', ι', a, b.wx, c⟩

/-! ### a def's body gives its promise -/
section
variable {P : Program} {w : World} {K : PySem.W.Frag} {mg : Str → Option Value} {base : Heap}
theorem renv_start {M : Md} {F : Hp} {ι : Nat → Addr} {n : Nat} {N : List Str} {ws : List W} {vs : List V} (r : RpWL M F ι n ws vs) : REnv M F ι n (envS N.length ws) (L2.start N vs) := by
  have hl := r.length
  unfold envS L2.start
  rw [hl]
  refine ⟨by simp [hl], fun i w h => ?_⟩
  rcases Nat.lt_or_ge i ws.length with z | z
  · rw [List.getElem?_append_left (by simpa using z), List.getElem?_map] at h
    cases q : ws[i]? with
    | none => rw [q] at h; cases h
    | some w' =>
      rw [q] at h
      simp only [Option.map_some, Option.some.injEq] at h
      subst h
      obtain ⟨x, h1, h2⟩ := r.get q
      exact ⟨x, by rw [List.getElem?_append_left (by simpa [← hl] using z), List.getElem?_map, h1]; rfl, h2⟩
  · rw [List.getElem?_append_right (by simpa using z), List.getElem?_replicate] at h
    split at h <;> cases h
theorem endS_out {C : GC} {F0 F : Hp} {ι0 : Nat → Addr} {n : Nat} {w : W} {G : Hg} {v : V} {H : Hp} {Q : VK} {E : XK} (h : SPost C F0 ι0 n (endS n w G) Q E) (o : Out C F0 ι0 n w G v H) : Q v H := by
  obtain ⟨F', ι', e, s, r⟩ := o
  unfold endS at h
  by_cases b : belowW n w = true
  · rw [if_pos b] at h
    cases c : cutG n G with
    | none => rw [c] at h; exact h v H ⟨F', ι', e, s, r⟩
    | some G' =>
      rw [c] at h
      obtain ⟨s', hl⟩ := s.cut e.le c
      exact h v H ⟨F', ι', ⟨e.fr, e.io, by rw [hl]; exact Nat.le_refl _⟩, s', by rw [hl]; exact below_ok b r⟩
  · rw [if_neg b] at h
    exact h v H ⟨F', ι', e, s, r⟩
theorem endX_out {C : GC} {F0 F : Hp} {ι0 : Nat → Addr} {n : Nat} {x : Exc} {G : Hg} {cls : Value} {d : Option Addr} {H : Hp} {Q : VK} {E : XK} (h : SPost C F0 ι0 n (endX n x G) Q E) (o : XOut C F0 ι0 n x G cls d H) : E cls d H := by
  obtain ⟨F', ι', e, s, r⟩ := o
  unfold endX at h
  cases c : cutG n G with
  | none => rw [c] at h; exact h cls d H ⟨F', ι', e, s, r⟩
  | some G' =>
    rw [c] at h
    obtain ⟨s', hl⟩ := s.cut e.le c
    exact h cls d H ⟨F', ι', ⟨e.fr, e.io, by rw [hl]; exact Nat.le_refl _⟩, s', r⟩
/-- the context of a def's body -/
abbrev bodyX (P : Program) (w : World) (K : PySem.W.Frag) (mg : Str → Option Value) (base : Heap) (N : List Str) (qual : Str) (sc : Scope) (f : Addr) (cdv : Value) (A : Around) (outer : List Env) (s : Shared) (H : Hp) (E : XK) : Cx := cxOf (L2.CX P w) P w K mg base N qual sc f cdv A outer s H E
abbrev Body (P : Program) (w : World) (K : PySem.W.Frag) (mg : Str → Option Value) (base : Heap) (N : List Str) (qual : Str) (st : Stmt) (k : Nat) (f : Addr) (g : GS) : Prop :=
  ∀ (cdv : Value) (A : Around) (outer : List Env) (s : Shared) (H : Hp) (E : XK), RoomG k (bodyX P w K mg base N qual (defScope st) f cdv A outer s H E).A → GJSs (bodyX P w K mg base N qual (defScope st) f cdv A outer s H E) (defBody st) g
theorem fn_s {x qual : Str} {st : Stmt} {f : Addr} {fd : FuncData} {N ps : List Str} {k : Nat} {g : GS} {dvs : List V} {kws : List (Str × V)} (F : FunD K x qual (defArgs st) (defBody st) (defScope st) dvs kws f fd) (S : FnScope N ps (defScope st)) (hb : Body P w K mg base N qual st k f g) :
    FnG P w K mg base (L2.CX P w) (k + 1) f fd ps (spS ⟨K, mg⟩ ps.length (runS N.length g)) := by
  refine FunD.okG (CX := L2.CX P w) F S (fun vs H Q E ⟨B, F0, F, ι, G, ws, hl, s, r, h⟩ => by rw [← r.length, hl]) (fun cdv A outer s H vs Q E hr ⟨B, F0, F, ι, G, ws, hl, s', r, h⟩ => ?_)
  refine ⟨_, (hb cdv A outer s H E hr).run B F0 (fun cls d _ H => E cls d H) (takes_of rfl rfl rfl rfl), ?_⟩
  refine ⟨F, ι, envS N.length ws, G, s'.wx, renv_start r, ?_⟩
  unfold runS at h
  cases q : g (envS N.length ws) G with
  | stuck => rw [q] at h; exact h.elim
  | bk ρ' G' => rw [q] at h; exact h.elim
  | ct ρ' G' => rw [q] at h; exact h.elim
  | nx ρ' G' =>
    rw [q] at h
    rintro σ' H' ⟨F', ι', e, t, he⟩
    exact endS_out (F := F) h ⟨F', ι', e, t.wx, by simp only [RpW, Rp]⟩
  | ret u G' =>
    rw [q] at h
    exact fun v H' o => endS_out (F := F) h o.wx
  | exc x ρ' G' =>
    rw [q] at h
    exact fun cls d σ' H' F' ι' e t _ xr => endX_out (F := F) h ⟨F', ι', e, t.wx, xr⟩
theorem fn_p {x qual : Str} {st : Stmt} {f : Addr} {fd : FuncData} {N ps : List Str} {k : Nat} {g : GS} {dvs : List V} {kws : List (Str × V)} (F : FunD K x qual (defArgs st) (defBody st) (defScope st) dvs kws f fd) (S : FnScope N ps (defScope st)) (hb : Body P w K mg base N qual st k f g) :
    FnG P w K mg base (L2.CX P w) (k + 1) f fd ps (spP ⟨K, mg⟩ ps.length (runP N.length g)) := by
  refine FunD.okG (CX := L2.CX P w) F S (fun vs H Q E ⟨F, ds, hl, s, r, h⟩ => by rw [← (r.wl (ι := fun _ => 0) (n := 0)).length, List.length_map, hl]) (fun cdv A outer s H vs Q E hr ⟨F, ds, hl, sm, r, h⟩ => ?_)
  refine ⟨_, pss_lockEnd ((hb cdv A outer s H E hr).run H F (fun cls d _ H => E cls d H) (takes_of rfl rfl rfl rfl)), ?_⟩
  have r' : RpWL (⟨K, mg⟩ : Md) F (fun _ => 0) 0 (ds.map .d) vs := r.wl
  have sim : Sim ⟨⟨K, mg⟩, H, F, fun cls d _ H => E cls d H⟩ F H (fun _ => 0) [] := ⟨sm, Same.refl _, Same.refl _, fun b o q => .inl q, fun i o hi => by simp at hi, fun i j o u hi => by simp at hi⟩
  have ee : envP N.length ds = envS N.length (ds.map .d) := by unfold envP envS; simp [List.map_map]
  refine ⟨F, fun _ => 0, envP N.length ds, [], sim, by rw [ee]; exact renv_start r', ?_⟩
  unfold runP at h
  cases q : g (envP N.length ds) [] with
  | stuck => rw [q] at h; exact h.elim
  | bk ρ' G' => rw [q] at h; exact h.elim
  | ct ρ' G' => rw [q] at h; exact h.elim
  | nx ρ' G' =>
    rw [q] at h
    rintro σ' H' ⟨F', ι', e, t, he⟩
    exact h .non F' H' e.fr t.fh t.bh (fun b o q => t.new b o q) rpN
  | ret u G' =>
    rw [q] at h
    rintro v H' ⟨F', ι', e, t, rr⟩
    simp only at h
    by_cases hL : G'.any GO.isL = true
    · rw [if_pos hL] at h; exact h.elim
    · rw [if_neg hL] at h
      cases z : rdW 6 u (G'.map lk1) with
      | none => rw [z] at h; exact h.elim
      | some d =>
        rw [z] at h
        refine ⟨_, t.lkAll (List.range G'.length) List.nodup_range fun H2 t2 => ?_⟩
        rw [lkAll_eq] at t2
        have hB : ∀ i o, (G'.map lk1)[i]? = some o → o ≠ .dead → H (ι' i) = none := fun i o hi ho => by
          rw [List.getElem?_map] at hi
          cases q2 : G'[i]? with
          | none => rw [q2] at hi; cases hi
          | some o' =>
            rw [q2] at hi
            cases hi
            refine (t.live i o' q2 (fun z => ho (by rw [z]; rfl))).2.1.1 ?_
            cases hl : o'.isL with
            | false => rfl
            | true => exact absurd (List.any_eq_true.mpr ⟨o', List.mem_of_getElem? q2, hl⟩) hL
        have rr2 : RpW ⟨K, mg⟩ F' ι' (G'.map lk1).length u v := by rw [List.length_map]; exact rr
        exact h v _ H2 (e.fr.trans (allF_old t2)) (allF_sub t2) t2.bh (fun b o q => allF_new t2 b o q) (rd_ok t2 hB 6 u d v z rr2)
  | exc x ρ' G' =>
    rw [q] at h
    rintro cls d σ' H' F' ι' e t _ xr
    exact h cls d F' H' e.fr t.fh t.bh (fun b o q => t.new b o q) xr
end

/-! ### calls -/
structure CalX (P : Program) (w : World) (K : PySem.W.Frag) (mg : Str → Option Value) (base : Heap) (k : Nat) (x : Str) (sp : Sp) : Prop where
  ex : ∃ (f : Addr) (fd : FuncData) (ps : List Str), FnG P w K mg base (L2.CX P w) k f fd ps sp ∧ mg x = some (.ref f) ∧ PySem.W.keepIn K (.ref f) = true ∧ Binds K fd ps []
def flat : D → Bool
  | .non => true
  | .bl _ => true
  | .int _ => true
  | .str _ => true
  | _ => false
theorem flat_rp {M : Md} {F F' : Hp} {d : D} {v : V} (h : flat d = true) (r : Rp M F d v) : Rp M F' d v := by
  cases d with
  | non => simpa only [Rp] using r
  | bl b => simpa only [Rp] using r
  | int b => simpa only [Rp] using r
  | str b => simpa only [Rp] using r
  | _ => cases h
def gFnP (np : Nat) (f : List D → PRes) (a : GEs) : GE := fun ρ G => (a ρ G).bind fun ws G1 => if ws.length = np then (match allD ws with
    | some ds => (match f ds with
      | .stuck => .stuck
      | .exc e => .exc e G1
      | .ok d => .ok (.d d) G1)
    | none => match mapO (fun w => snap w G1) ws with
      | some ds => (match f ds with
        | .ok d => if flat d then .ok (.d d) G1 else .stuck
        | _ => .stuck)
      | none => .stuck) else .stuck
def gFnS (np : Nat) (f : List W → Hg → Res W) (a : GEs) : GE := fun ρ G => (a ρ G).bind fun ws G1 => if ws.length = np then f ws G1 else .stuck
section
variable {X : Cx} {k j : Nat} {x : Str} {p pos : Pos} {e : Expr} {es : List Expr} {gs : GEs}
theorem XOut.of_pure {C : GC} {F H : Hp} {ι : Nat → Addr} {G : Hg} {x : Exc} {cls : Value} {d : Option Addr} {F' H' : Hp} (s : Sim C F H ι G) (a : Same F F') (b : Same F' H') (c : Same H H') (n : ∀ b o, F' b = some o → F b = some o ∨ H b = none) : Sim C F' H' ι G := by
  refine ⟨b, s.bh.trans c, s.ff.trans a, fun q o h => ?_, fun i o hi ho => ?_, s.inj⟩
  · rcases n q o h with z | z
    · exact s.new q o z
    · exact .inr (s.freeB z)
  · obtain ⟨h1, h2, h3⟩ := s.live i o hi ho
    obtain ⟨u, hu⟩ := h3.some ho
    refine ⟨?_, h2, h3.mono ⟨a, fun _ _ => rfl, Nat.le_refl _⟩ fun o q => c _ _ q⟩
    cases q : F' (ι i) with
    | none => rfl
    | some o' =>
      rcases n _ _ q with z | z
      · rw [h1] at z; cases z
      · rw [hu] at z; cases z
theorem gTE_fnP {np : Nat} {f : List D → PRes} {B F0 : Hp} {wx : WX} {σ : L2.St} {H : Hp} {Q : VK} (h : gTE (gc X B F0 wx) (gFnP np f gs) σ H Q) :
    gTA (gc X B F0 wx) gs σ H fun vs H1 => spP (md X) np f vs H1 Q fun cls d H' => wx cls d σ H' := by
  obtain ⟨F, ι, ρ, G, s, he, hp⟩ := h
  refine ⟨F, ι, ρ, G, s, he, (PostL.fst hp).imp fun vs H1 ⟨F1, ι1, ws, G1, e1, s1, r1, p1⟩ => ?_⟩
  by_cases hnp : ws.length = np
  · rw [if_pos hnp] at p1
    cases q : allD ws with
    | some ds =>
      rw [q] at p1
      simp only at p1
      have rl := allD_rp q r1
      refine ⟨F1, ds, ?_, s1.fh, rl, ?_⟩
      · rw [← hnp, r1.length, ← (rl.wl (ι := ι1) (n := 0)).length, List.length_map]
      · cases q2 : f ds with
        | stuck => rw [q2] at p1; exact p1
        | exc x =>
          rw [q2] at p1
          exact fun cls d F' H' a b c n xr => p1 cls d H' ⟨F', ι1, ⟨a, fun _ _ => rfl, Nat.le_refl _⟩, XOut.of_pure (x := x) (cls := cls) (d := d) s1 a b c n, xr⟩
        | ok d =>
          rw [q2] at p1
          exact fun v F' H' a b c n rr => p1 v H' ⟨F', ι1, ⟨a, fun _ _ => rfl, Nat.le_refl _⟩, XOut.of_pure (x := ⟨"", []⟩) (cls := .none) (d := none) s1 a b c n, by simpa only [RpW] using rr⟩
    | none =>
      rw [q] at p1
      simp only at p1
      cases q2 : mapO (fun w => snap w G1) ws with
      | none => rw [q2] at p1; exact p1.elim
      | some ds =>
        rw [q2] at p1
        simp only at p1
        have rl : RpL (md X) H1 ds vs := mapO_l (fun w d v h r => s1.snap h r) q2 r1
        refine ⟨H1, ds, ?_, Same.refl _, rl, ?_⟩
        · rw [← hnp, r1.length, ← (rl.wl (ι := ι1) (n := 0)).length, List.length_map]
        · cases q3 : f ds with
          | stuck => rw [q3] at p1; exact p1
          | exc x => rw [q3] at p1; exact p1.elim
          | ok d =>
            rw [q3] at p1
            simp only at p1
            cases q4 : flat d with
            | false => rw [q4] at p1; exact p1.elim
            | true =>
              rw [q4, if_pos rfl] at p1
              refine fun v F' H' a b c n rr => p1 v H' ⟨F1, ι1, .refl, ?_, by simp only [RpW]; exact flat_rp q4 rr⟩
              exact ⟨s1.fh.trans c, s1.bh.trans c, s1.ff, s1.new, fun i o hi ho => let ⟨h1, h2, h3⟩ := s1.live i o hi ho; ⟨h1, h2, h3.mono .refl fun o q => c _ _ q⟩, s1.inj⟩
  · rw [if_neg hnp] at p1; exact p1.elim
theorem gTE_fnS {np : Nat} {f : List W → Hg → Res W} {B F0 : Hp} {wx : WX} {σ : L2.St} {H : Hp} {Q : VK} (h : gTE (gc X B F0 wx) (gFnS np f gs) σ H Q) :
    gTA (gc X B F0 wx) gs σ H fun vs H1 => spS (md X) np f vs H1 Q fun cls d H' => wx cls d σ H' := by
  obtain ⟨F, ι, ρ, G, s, he, hp⟩ := h
  refine ⟨F, ι, ρ, G, s, he, (PostL.fst hp).imp fun vs H1 ⟨F1, ι1, ws, G1, e1, s1, r1, p1⟩ => ?_⟩
  by_cases hnp : ws.length = np
  · rw [if_pos hnp] at p1
    refine ⟨B, F0, F1, ι1, G1, ws, hnp, s1.wx, r1, ?_⟩
    cases q : f ws G1 with
    | stuck => rw [q] at p1; exact p1
    | exc x G' => rw [q] at p1; exact fun cls d H' o => p1 cls d H' o.wx
    | ok w G' => rw [q] at p1; exact fun v H' o => p1 v H' o.wx
  · rw [if_neg hnp] at p1; exact p1.elim
theorem ge_fnP {np : Nat} {f : List D → PRes} (c : CalX X.prog X.w X.K X.mg X.base k x (spP (md X) np f)) (hr : RoomG j X.A) (hk : k ≤ j) (ha : GJA X (e :: es) gs) (hg : Gl X x := by rfl)
    (hdb : (x == ("__debug__" : Str)) = false := by decide) (he : starEach (e :: es) X.env = (false, eval e X.env) :: starEach es X.env := by rfl) (hpl : (backTo pos (starEach es X.env)).any (·.1) = false := by rfl) :
    GJE X (.Call (.Name x p) (e :: es) [] pos) (gFnP np f gs) := ⟨fun B F0 wx tk => by
  obtain ⟨fa, fd, ps, F, hm, kp, b⟩ := c.ex
  exact PE.imp (pe_callG F (hr.mono hk) hg hm kp b (fun σ => passAt tk σ) (ha.run B F0 wx tk) hdb he hpl) fun σ H Q h => gTE_fnP h⟩
theorem ge_fnS {np : Nat} {f : List W → Hg → Res W} (c : CalX X.prog X.w X.K X.mg X.base k x (spS (md X) np f)) (hr : RoomG j X.A) (hk : k ≤ j) (ha : GJA X (e :: es) gs) (hg : Gl X x := by rfl)
    (hdb : (x == ("__debug__" : Str)) = false := by decide) (he : starEach (e :: es) X.env = (false, eval e X.env) :: starEach es X.env := by rfl) (hpl : (backTo pos (starEach es X.env)).any (·.1) = false := by rfl) :
    GJE X (.Call (.Name x p) (e :: es) [] pos) (gFnS np f gs) := ⟨fun B F0 wx tk => by
  obtain ⟨fa, fd, ps, F, hm, kp, b⟩ := c.ex
  exact PE.imp (pe_callG F (hr.mono hk) hg hm kp b (fun σ => passAt tk σ) (ha.run B F0 wx tk) hdb he hpl) fun σ H Q h => gTE_fnS h⟩
end
end Gh

set_option Elab.async false
set_option linter.all false
set_option maxRecDepth 100000
set_option maxHeartbeats 4000000
namespace Gh
open PySem PySem.Spec PyProof.Rows L2

/-! ### equality of values -/
mutual
def sameD : D → D → Bool
  | .non, .non => true
  | .bl a, .bl b => a == b
  | .int a, .int b => decide (a = b)
  | .str a, .str b => decide (a = b)
  | .tup a, .tup b => sameL a b
  | .lst a, .lst b => sameL a b
  | .dic t a, .dic u b => t == u && sameK a b
  | .ins c a, .ins e b => decide (c = e) && sameF a b
  | _, _ => false
def sameL : List D → List D → Bool
  | [], [] => true
  | a :: r, b :: s => sameD a b && sameL r s
  | _, _ => false
def sameK : List (D × D) → List (D × D) → Bool
  | [], [] => true
  | (k, a) :: r, (l, b) :: s => sameD k l && (sameD a b && sameK r s)
  | _, _ => false
def sameF : List (Str × D) → List (Str × D) → Bool
  | [], [] => true
  | (k, a) :: r, (l, b) :: s => decide (k = l) && (sameD a b && sameF r s)
  | _, _ => false
end
mutual
theorem sameD_eq : ∀ {a b : D}, sameD a b = true → a = b
  | .non, b, h => by cases b <;> simp_all [sameD]
  | .bl a, b, h => by cases b <;> simp_all [sameD]
  | .int a, b, h => by cases b <;> simp_all [sameD]
  | .str a, b, h => by cases b <;> simp_all [sameD]
  | .tup a, b, h => by
    cases b with
    | tup c => simp only [sameD] at h; rw [sameL_eq h]
    | _ => simp [sameD] at h
  | .lst a, b, h => by
    cases b with
    | lst c => simp only [sameD] at h; rw [sameL_eq h]
    | _ => simp [sameD] at h
  | .dic t a, b, h => by
    cases b with
    | dic u c => simp only [sameD, Bool.and_eq_true, beq_iff_eq] at h; rw [h.1, sameK_eq h.2]
    | _ => simp [sameD] at h
  | .ins c a, b, h => by
    cases b with
    | ins e f => simp only [sameD, Bool.and_eq_true, decide_eq_true_eq] at h; rw [h.1, sameF_eq h.2]
    | _ => simp [sameD] at h
theorem sameL_eq : ∀ {a b : List D}, sameL a b = true → a = b
  | [], b, h => by cases b <;> simp_all [sameL]
  | x :: r, b, h => by
    cases b with
    | nil => simp [sameL] at h
    | cons y s => simp only [sameL, Bool.and_eq_true] at h; rw [sameD_eq h.1, sameL_eq h.2]
theorem sameK_eq : ∀ {a b : List (D × D)}, sameK a b = true → a = b
  | [], b, h => by cases b <;> simp_all [sameK]
  | (k, x) :: r, b, h => by
    cases b with
    | nil => simp [sameK] at h
    | cons y s => obtain ⟨l, y⟩ := y; simp only [sameK, Bool.and_eq_true] at h; rw [sameD_eq h.1, sameD_eq h.2.1, sameK_eq h.2.2]
theorem sameF_eq : ∀ {a b : List (Str × D)}, sameF a b = true → a = b
  | [], b, h => by cases b <;> simp_all [sameF]
  | (k, x) :: r, b, h => by
    cases b with
    | nil => simp [sameF] at h
    | cons y s => obtain ⟨l, y⟩ := y; simp only [sameF, Bool.and_eq_true, decide_eq_true_eq] at h; rw [h.1, sameD_eq h.2.1, sameF_eq h.2.2]
end
mutual
theorem sameD_refl : ∀ a : D, sameD a a = true
  | .non => by simp [sameD]
  | .bl a => by simp [sameD]
  | .int a => by simp [sameD]
  | .str a => by simp [sameD]
  | .tup a => by simp [sameD, sameL_refl a]
  | .lst a => by simp [sameD, sameL_refl a]
  | .dic t a => by simp [sameD, sameK_refl a]
  | .ins c a => by simp [sameD, sameF_refl a]
theorem sameL_refl : ∀ a : List D, sameL a a = true
  | [] => by simp [sameL]
  | x :: r => by simp [sameL, sameD_refl x, sameL_refl r]
theorem sameK_refl : ∀ a : List (D × D), sameK a a = true
  | [] => by simp [sameK]
  | (k, x) :: r => by simp [sameK, sameD_refl k, sameD_refl x, sameK_refl r]
theorem sameF_refl : ∀ a : List (Str × D), sameF a a = true
  | [] => by simp [sameF]
  | (k, x) :: r => by simp [sameF, sameD_refl x, sameF_refl r]
end
mutual
def sameW : W → W → Bool
  | .d a, .d b => sameD a b
  | .ref i, .ref j => decide (i = j)
  | .tup a, .tup b => sameWL a b
  | _, _ => false
def sameWL : List W → List W → Bool
  | [], [] => true
  | a :: r, b :: s => sameW a b && sameWL r s
  | _, _ => false
end
mutual
theorem sameW_eq : ∀ {a b : W}, sameW a b = true → a = b
  | .d a, b, h => by
    cases b with
    | d c => simp only [sameW] at h; rw [sameD_eq h]
    | _ => simp [sameW] at h
  | .ref a, b, h => by cases b <;> simp_all [sameW]
  | .tup a, b, h => by
    cases b with
    | tup c => simp only [sameW] at h; rw [sameWL_eq h]
    | _ => simp [sameW] at h
theorem sameWL_eq : ∀ {a b : List W}, sameWL a b = true → a = b
  | [], b, h => by cases b <;> simp_all [sameWL]
  | x :: r, b, h => by
    cases b with
    | nil => simp [sameWL] at h
    | cons y s => simp only [sameWL, Bool.and_eq_true] at h; rw [sameW_eq h.1, sameWL_eq h.2]
end

/-! ### types, isinstance -/
inductive Ty where
  | non | bl | int | str | tup | lst | dic
  deriving DecidableEq
def Ty.name : Ty → String
  | .non => "NoneType" | .bl => "bool" | .int => "int" | .str => "str" | .tup => "tuple" | .lst => "list" | .dic => "dict"
def Ty.sub (a b : Ty) : Bool := decide (a = b) || (decide (a = .bl) && decide (b = .int))
theorem Ty.kit (a b : Ty) (h : b ≠ .non) : kitB a.name b.name = some (a.sub b) := by
  cases a <;> cases b <;> first | exact absurd rfl h | decide +kernel
def tyD : D → Option Ty
  | .non => some .non | .bl _ => some .bl | .int _ => some .int | .str _ => some .str | .tup _ => some .tup | .lst _ => some .lst | .dic false _ => some .dic | .dic true _ => none | .ins _ _ => none
def tyW : W → Hg → Option Ty
  | .d x, _ => tyD x
  | .tup _, _ => some .tup
  | .ref i, G => match G[i]? with
    | some (.lst _) => some .lst
    | some (.dic _ _) => some .dic
    | some (.lkd false _) => some .dic
    | _ => none
theorem tyX_tup {K : PySem.W.Frag} {H : Hp} {a : Addr} {xs : List V} (h : SqT K H a xs) : TyX K H (.ref a) (.type "tuple") := by
  rcases h with (h | ⟨o, h⟩) | ⟨o, its, n, h1, h2, h3, h4, h5⟩
  · exact .base (.tup h)
  · exact .fTuple h
  · exact .kTuple h1 h2
theorem tyX_lst {K : PySem.W.Frag} {H : Hp} {a : Addr} {xs : List V} (h : SqL K H a xs) : TyX K H (.ref a) (.type "list") := by
  rcases h with (h | ⟨o, h⟩) | ⟨o, its, n, h1, h2, h3, h4, h5⟩
  · exact .base (.lst h)
  · exact .base (.frz h)
  · exact .kList h1 h2
theorem Sim.ty {C : GC} {F H : Hp} {ι : Nat → Addr} {G : Hg} {w : W} {t : Ty} {v : V} (s : Sim C F H ι G) (e : tyW w G = some t) (r : RpW C.m F ι G.length w v) : TyX C.m.K H v (.type t.name) := by
  cases w with
  | d x =>
    simp only [RpW] at r
    cases x with
    | non => cases e; simp only [Rp] at r; subst r; exact .base .non
    | bl b => cases e; simp only [Rp] at r; subst r; exact .base (.bl b)
    | int b => cases e; simp only [Rp] at r; subst r; exact .base (.int b)
    | str b => cases e; simp only [Rp] at r; subst r; exact .base (.str b)
    | tup b => cases e; simp only [Rp] at r; obtain ⟨a, xs, rfl, h, _⟩ := r; exact tyX_tup (Same.sqT s.fh h)
    | lst b => cases e; simp only [Rp] at r; obtain ⟨a, xs, rfl, h, _⟩ := r; exact tyX_lst (Same.sqL s.fh h)
    | dic t b =>
      cases t with
      | true => cases e
      | false =>
        cases e
        simp only [Rp] at r
        obtain ⟨a, od, es, rfl, h, _⟩ := r
        exact .fDict (s.fh _ _ h)
    | ins c b => cases e
  | tup ws => cases e; simp only [RpW] at r; obtain ⟨a, xs, rfl, h, _⟩ := r; exact tyX_tup (Same.sqT s.fh h)
  | ref i =>
    simp only [RpW] at r
    obtain ⟨hi, rfl⟩ := r
    simp only [tyW] at e
    cases q : G[i]? with
    | none => rw [q] at e; cases e
    | some o =>
      rw [q] at e
      cases o with
      | lst ws => cases e; obtain ⟨_, _, xs, h, _⟩ := s.live i _ q (fun z => by cases z); exact .base (.lst h)
      | frd t kvs => cases e
      | lkd t kvs =>
        cases t with
        | true => cases e
        | false => cases e; obtain ⟨_, _, od, es, h, _⟩ := s.live i _ q (fun z => by cases z); exact .fDict h
      | dic t kvs =>
        cases e
        obtain ⟨_, _, h⟩ := s.live i _ q (fun z => by cases z)
        cases t with
        | false => obtain ⟨es, h, _⟩ := h; exact .base (.dK h)
        | true => obtain ⟨es, h, _⟩ := h; exact .base (.dT h)
      | _ => cases e
def gIsi (ts : List Ty) (a : GE) : GE := fun ρ G => (a ρ G).bind fun w G1 => match tyW w G1 with
  | some t => .ok (.d (.bl (ts.any fun u => t.sub u))) G1
  | none => .stuck
theorem kitAny_ty {K : PySem.W.Frag} {t : Ty} : ∀ {ts : List Ty}, (∀ u ∈ ts, u ≠ .non) → PySem.W.kitAny K (.type t.name) (ts.map fun u => Value.type u.name) = some (ts.any fun u => t.sub u)
  | [], _ => rfl
  | u :: ts, h => by
    have h1 := kit_ty (K := K) (Ty.kit t u (h u List.mem_cons_self))
    have h2 := kitAny_ty (K := K) (t := t) (ts := ts) fun u hu => h u (List.mem_cons_of_mem _ hu)
    rw [List.map_cons, List.any_cons]
    refine kitAny_cons h1 (fun b => ?_) fun b => by rw [b]; rfl
    rw [b, Bool.false_or]
    exact h2
section
variable {X : Cx} {e : Expr} {ge : GE} {p p1 p2 pos : Pos}
theorem ge_isi (t : Ty) {x : Str} (hm : X.mg "isinstance" = none) (hx : X.mg x = none) (he : GJE X e ge) (hv : bootBuiltins x = some (.type t.name) := by decide +kernel) (ht : t ≠ .non := by decide) (hg : Gl X "isinstance" := by rfl) (hgx : Gl X x := by rfl) (hn : x ≠ "__name__" := by decide) (hd : (x == ("__debug__" : Str)) = false := by decide)
    (hs : starEach [e, .Name x p1] X.env = (false, eval e X.env) :: starEach [.Name x p1] X.env := by rfl) (hs2 : starEach [.Name x p1] X.env = (false, eval (.Name x p1) X.env) :: starEach [] X.env := by rfl) (hpl : (backTo pos (starEach [.Name x p1] X.env)).any (·.1) = false := by rfl) :
    GJE X (.Call (.Name "isinstance" p) [e, .Name x p1] [] pos) (gIsi [t] ge) := ⟨fun B F0 wx tk => by
  refine PE.imp (pe_callB call_isi hg hm (by decide +kernel) (pa_cons (he.run B F0 wx tk) (pa_cons (pe_bltn (v := .ty t.name) hgx hx hv rfl hn hd) pa_nil hs2) hs) (by decide) (by decide) hs hpl) fun σ H Q ⟨F, ι, ρ, G, s, hr, hp⟩ => ?_
  refine ⟨F, ι, ρ, G, s, hr, (Post.fst hp).imp fun v H1 ⟨F1, ι1, w, G1, e1, s1, r1, q1⟩ => ?_⟩
  cases q : tyW w G1 with
  | none => rw [q] at q1; exact q1.elim
  | some u =>
    rw [q] at q1
    refine ⟨v, .ty t.name, _, _, _, rfl, .ty _, s1.ty q r1, kit_ty (Ty.kit u t ht), q1 _ _ (out_flat s1 ?_)⟩
    rw [List.any_cons, List.any_nil, Bool.or_false]
    exact rpB⟩
/-- the classes of a display -/
inductive TyNames (X : Cx) : List Expr → List Ty → Prop where
  | nil : TyNames X [] []
  | cons {x : Str} {p : Pos} {es : List Expr} {t : Ty} {ts : List Ty} (hv : bootBuiltins x = some (.type t.name)) (hx : X.mg x = none) (hg : Gl X x) (hn : x ≠ "__name__") (hd : (x == ("__debug__" : Str)) = false) (ht : t ≠ .non)
      (hs : starEach (.Name x p :: es) X.env = (false, eval (.Name x p) X.env) :: starEach es X.env) (r : TyNames X es ts) : TyNames X (.Name x p :: es) (t :: ts)
theorem TyNames.pa : ∀ {es : List Expr} {ts : List Ty}, TyNames X es ts → PA X es (fun σ H Q => Q (ts.map fun t => V.ty t.name) H)
  | _, _, .nil => pa_nil
  | _, _, .cons hv hx hg hn hd ht hs r => PA.imp (pa_cons (pe_bltn (v := .ty _) hg hx hv rfl hn hd) r.pa hs) fun _ _ _ h => h
theorem TyNames.ok {es : List Expr} {ts : List Ty} (h : TyNames X es ts) : ∀ u ∈ ts, u ≠ .non := by
  induction h with
  | nil => intro u hu; cases hu
  | cons _ _ _ _ _ ht _ _ ih =>
    intro u hu
    rcases List.mem_cons.mp hu with z | z
    · rw [z]; exact ht
    · exact ih u z
theorem cls_pair : ∀ ts : List Ty, Paired ClsV (ts.map fun t => V.ty t.name) (ts.map fun t => Value.type t.name)
  | [] => .nil
  | t :: ts => .cons (.ty _) (cls_pair ts)
theorem ge_isiT (ts : List Ty) {es : List Expr} {k : Nat} (hm : X.mg "isinstance" = none) (he : GJE X e ge) (ht : TyNames X es ts) (hl : ts.length ≤ sizeLine := by decide) (hg : Gl X "isinstance" := by rfl)
    (hs : starEach [e, .Tuple es k p1] X.env = (false, eval e X.env) :: starEach [.Tuple es k p1] X.env := by rfl) (hs2 : starEach [.Tuple es k p1] X.env = (false, eval (.Tuple es k p1) X.env) :: starEach [] X.env := by rfl) (hpl : (backTo pos (starEach [.Tuple es k p1] X.env)).any (·.1) = false := by rfl) :
    GJE X (.Call (.Name "isinstance" p) [e, .Tuple es k p1] [] pos) (gIsi ts ge) := ⟨fun B F0 wx tk => by
  refine PE.imp (pe_callB call_isiT hg hm (by decide +kernel) (pa_cons (he.run B F0 wx tk) (pa_cons (pe_tup ht.pa) pa_nil hs2) hs) (by decide) (by decide) hs hpl) fun σ H Q ⟨F, ι, ρ, G, s, hr, hp⟩ => ?_
  refine ⟨F, ι, ρ, G, s, hr, (Post.fst hp).imp fun v H1 ⟨F1, ι1, w, G1, e1, s1, r1, q1⟩ => ?_⟩
  cases q : tyW w G1 with
  | none => rw [q] at q1; exact q1.elim
  | some u =>
    rw [q] at q1
    refine ⟨by rw [List.length_map]; exact hl, fun tp htp => ?_⟩
    have s2 := s1.drop (o := .tup (ts.map fun t => V.ty t.name)) htp
    exact ⟨v, tp, _, _, _, _, rfl, upd_same, cls_pair ts, s2.ty q r1, kitAny_ty ht.ok, q1 _ _ (out_flat s2 rpB)⟩⟩
end

/-! ### len, int, list, tuple -/
def strOf : W → Option Str
  | .d (.str x) => some x
  | _ => none
theorem strOf_eq {w : W} {x : Str} (h : strOf w = some x) : w = .d (.str x) := by
  cases w with
  | d y =>
    cases y with
    | str z => cases h; rfl
    | _ => cases h
  | _ => cases h
def fLen1 (w : W) (G : Hg) : Option (W × Hg) := match strOf w with
  | some x => if small x.length then some (.d (.int x.length), G) else none
  | none => (seqW w G).map fun p => (.d (.int p.2.length), G)
def fLen : List W → Hg → Option (W × Hg)
  | [w], G => fLen1 w G
  | _, _ => none
def rLenA (K : PySem.W.Frag) : List V → Hp → VK → Prop := fun xs H Q => (∃ p ys, xs = [.ref p] ∧ (SqL K H p ys ∨ SqT K H p ys) ∧ Q (.int ys.length) H) ∨ (∃ z, xs = [.str z] ∧ z.length ≤ sizeLine ∧ Q (.int z.length) H)
theorem RpWL.inv1 {M : Md} {F : Hp} {ι : Nat → Addr} {n : Nat} {w : W} {xs : List V} (r : RpWL M F ι n [w] xs) : ∃ x, xs = [x] ∧ RpW M F ι n w x := by
  simp only [RpWL] at r
  obtain ⟨x, _, rfl, h, rfl⟩ := r
  exact ⟨x, rfl, h⟩
theorem RpWL.inv2 {M : Md} {F : Hp} {ι : Nat → Addr} {n : Nat} {w u : W} {xs : List V} (r : RpWL M F ι n [w, u] xs) : ∃ x y, xs = [x, y] ∧ RpW M F ι n w x ∧ RpW M F ι n u y := by
  simp only [RpWL] at r
  obtain ⟨x, _, rfl, h, y, _, rfl, h2, rfl⟩ := r
  exact ⟨x, y, rfl, h, h2⟩
theorem sq_or {K : PySem.W.Frag} {H : Hp} {a : Addr} {xs : List V} {b : Bool} (h : if b = true then SqL K H a xs else SqT K H a xs) : SqL K H a xs ∨ SqT K H a xs := by
  cases b with
  | true => exact .inl (by simpa using h)
  | false => exact .inr (by simpa using h)
section
variable {X : Cx}
theorem call_lenA : CallR X (.builtin "len") (rLenA X.K) := call_len_seq.or call_len_str
theorem cg_len : CallG X (rLenA X.K) fLen := by
  intro C F H ι G ws xs z G' Q hK s r e hQ
  cases ws with
  | nil => cases e
  | cons w t =>
    cases t with
    | cons _ _ => cases e
    | nil =>
      obtain ⟨x, rfl, r1⟩ := r.inv1
      have e' : fLen1 w G = some (z, G') := e
      unfold fLen1 at e'
      cases q : strOf w with
      | some y =>
        rw [q] at e'
        have hw := strOf_eq q
        subst hw
        simp only [RpW, Rp] at r1
        subst r1
        cases c : small y.length with
        | false => simp only [c] at e'; cases e'
        | true => simp only [c, if_true] at e'; cases e'; exact .inr ⟨y, rfl, small_le c, hQ _ _ (out_flat s rpI)⟩
      | none =>
        rw [q] at e'
        obtain ⟨p, q2, e2⟩ := map_some (show (seqW w G).map (fun p => (W.d (.int p.2.length), G)) = some (z, G') from e')
        cases e2
        obtain ⟨b, us⟩ := p
        obtain ⟨a, ys, rfl, h1, h2⟩ := s.seq q2 r1
        rw [hK] at h1
        exact .inl ⟨a, ys, rfl, sq_or h1, hQ _ _ (out_flat s (by rw [h2.length]; exact rpI))⟩
def fInt : List W → Hg → Option (W × Hg)
  | [.d (.int i)], G => some (.d (.int i), G)
  | [.d (.bl b)], G => some (.d (.int (if b then 1 else 0)), G)
  | _, _ => none
theorem cg_int : CallG X (fun xs H Q => (∃ i, xs = [.int i] ∧ Q (.int i) H) ∨ ∃ k, xs = [.bl k] ∧ Q (.int (if k then 1 else 0)) H) fInt := by
  intro C F H ι G ws xs z G' Q hK s r e hQ
  unfold fInt at e
  split at e
  · cases e
    obtain ⟨x, rfl, r1⟩ := r.inv1
    simp only [RpW, Rp] at r1
    subst r1
    exact .inl ⟨_, rfl, hQ _ _ (out_flat s rpI)⟩
  · cases e
    obtain ⟨x, rfl, r1⟩ := r.inv1
    simp only [RpW, Rp] at r1
    subst r1
    exact .inr ⟨_, rfl, hQ _ _ (out_flat s rpI)⟩
  · cases e
/-- list(x): a new list that may be changed; a tree -/
def fListN : List W → Hg → Option (W × Hg)
  | [w], G => (seqW w G).map fun p => (.ref G.length, G ++ [.lst p.2])
  | _, _ => none
def fListT : List W → Hg → Option (W × Hg)
  | [w], G => (seqW w G).bind fun p => (mkLst p.2).map fun z => (z, G)
  | _, _ => none
theorem cg_listN : CallG X (fun xs H Q => ∃ p ys, xs = [.ref p] ∧ (SqL X.K H p ys ∨ SqT X.K H p ys) ∧ ∀ l, H l = none → Q (.ref l) (upd H l (.lst ys))) fListN := by
  intro C F H ι G ws xs z G' Q hK s r e hQ
  unfold fListN at e
  split at e
  · obtain ⟨p, q, e⟩ := map_some e
    cases e
    obtain ⟨x, rfl, r1⟩ := r.inv1
    obtain ⟨b, us⟩ := p
    obtain ⟨a, ys, rfl, h1, h2⟩ := s.seq q r1
    rw [hK] at h1
    exact ⟨a, ys, rfl, sq_or h1, fun l hl => hQ _ _ (out_new s h2 hl)⟩
  · cases e
theorem cg_listT : CallG X (fun xs H Q => ∃ p ys, xs = [.ref p] ∧ (SqL X.K H p ys ∨ SqT X.K H p ys) ∧ ∀ l, H l = none → Q (.ref l) (upd H l (.lst ys))) fListT := by
  intro C F H ι G ws xs z G' Q hK s r e hQ
  unfold fListT at e
  split at e
  · rename_i w
    cases q : seqW w G with
    | none => rw [q] at e; cases e
    | some p =>
      rw [q] at e
      obtain ⟨z', q2, e⟩ := map_some (show (mkLst p.2).map (fun z => (z, G)) = some (z, G') from e)
      cases e
      obtain ⟨ds, q3, rfl⟩ := map_some q2
      obtain ⟨x, rfl, r1⟩ := r.inv1
      obtain ⟨b, us⟩ := p
      obtain ⟨a, ys, rfl, h1, h2⟩ := s.seq q r1
      rw [hK] at h1
      exact ⟨a, ys, rfl, sq_or h1, fun l hl => hQ _ _ (out_lst s (allD_rp q3 h2) hl)⟩
  · cases e
def fTuple : List W → Hg → Option (W × Hg)
  | [w], G => match seqW w G with
    | some (true, ws) => some (mkTup ws, G)
    | some (false, _) => some (w, G)
    | none => none
  | _, _ => none
theorem cg_tuple : CallG X (fun xs H Q => ∃ p ys, xs = [.ref p] ∧ ((SqL X.K H p ys ∧ ∀ l, H l = none → Q (.ref l) (upd H l (.tup ys))) ∨ (SqT X.K H p ys ∧ Q (.ref p) H))) fTuple := by
  intro C F H ι G ws xs z G' Q hK s r e hQ
  unfold fTuple at e
  split at e
  · rename_i w
    cases q : seqW w G with
    | none => rw [q] at e; cases e
    | some p =>
      rw [q] at e
      obtain ⟨x, rfl, r1⟩ := r.inv1
      obtain ⟨b, us⟩ := p
      obtain ⟨a, ys, rfl, h1, h2⟩ := s.seq q r1
      rw [hK] at h1
      cases b with
      | true =>
        cases e
        exact ⟨a, ys, rfl, .inl ⟨h1, fun l hl => hQ _ _ (out_tup s h2 hl)⟩⟩
      | false =>
        cases e
        exact ⟨a, ys, rfl, .inr ⟨h1, hQ _ _ (out_w s r1)⟩⟩
  · cases e
/-! ### xs[i], xs[i:j] -/
def rIxA (K : PySem.W.Frag) : R2 := fun x y H Q => rIxL K x y H Q ∨ rIxT K x y H Q
theorem ix_A : IxR X (rIxA X.K) := ix_list.or ix_tup
def fIx (w u : W) (G : Hg) : Option (W × Hg) := match seqW w G, u with
  | some (_, ws), .d (.int i) => (atI ws i).map fun z => (z, G)
  | _, _ => none
theorem atI_rp {M : Md} {F : Hp} {ι : Nat → Addr} {n : Nat} {ws : List W} {xs : List V} {i : Int} {w : W} (r : RpWL M F ι n ws xs) (h : atI ws i = some w) : ∃ x, atI xs i = some x ∧ RpW M F ι n w x := by
  unfold atI at h ⊢
  rw [r.length] at h
  cases q : ixN xs.length i with
  | none => rw [q] at h; cases h
  | some j =>
    rw [q] at h
    exact r.get h
theorem og_ix : OpG X (rIxA X.K) fIx := by
  intro C F H ι G w u x y z G' Q hK s rw_ ru e hQ
  unfold fIx at e
  cases q : seqW w G with
  | none => rw [q] at e; cases e
  | some p =>
    obtain ⟨b, ws⟩ := p
    rw [q] at e
    cases u with
    | d k =>
      cases k with
      | int i =>
        obtain ⟨w', q2, e⟩ := map_some (show (atI ws i).map (fun z => (z, G)) = some (z, G') from e)
        cases e
        simp only [RpW, Rp] at ru
        subst ru
        obtain ⟨a, xs, rfl, h1, h2⟩ := s.seq q rw_
        rw [hK] at h1
        obtain ⟨v, h3, h4⟩ := atI_rp h2 q2
        rcases sq_or h1 with h | h
        · exact .inl ⟨a, xs, i, v, rfl, rfl, h, h3, hQ _ _ (out_w s h4)⟩
        · exact .inr ⟨a, xs, i, v, rfl, rfl, h, h3, hQ _ _ (out_w s h4)⟩
      | _ => cases e
    | _ => cases e
end
/-- a part of a slice -/
abbrev GO1 := GEnv → Hg → Res (Option Int)
structure GJO (X : Cx) (e : Option Expr) (g : GO1) : Prop where
  run : ∀ B F0 wx, Takes X wx → PO X e (fun σ H Q => ∃ F ι ρ G, Sim (gc X B F0 wx) F H ι G ∧ REnv (md X) F ι G.length ρ σ ∧ match g ρ G with
    | .stuck => False
    | .exc x G' => ∀ cls d H', XOut (gc X B F0 wx) F ι G.length x G' cls d H' → wx cls d σ H'
    | .ok o G' => ∀ H' F' ι', Ext F ι G.length F' ι' G'.length → Sim (gc X B F0 wx) F' H' ι' G' → Q o H')
def gNoP : GO1 := fun _ G => .ok none G
def gPt (e : GE) : GO1 := fun ρ G => (e ρ G).bind fun w G' => match w with
  | .d (.int i) => .ok (some i) G'
  | _ => .stuck
theorem PO.imp {X : Cx} {e : Option Expr} {t t' : TO} (h : PO X e t) (k : ∀ σ H Q, t' σ H Q → t σ H Q) : PO X e t' := by
  obtain ⟨h⟩ := h
  exact ⟨fun pins s σ H Q I q => h pins s σ H Q I (k _ _ _ q)⟩
section
variable {X : Cx} {e a : Expr} {lo hi : Option Expr} {ga ge : GE} {gl gh : GO1} {p2 pos : Pos}
theorem gp_none : GJO X none gNoP := ⟨fun B F0 wx tk => PO.imp po_none fun σ H Q ⟨F, ι, ρ, G, s, he, hp⟩ => hp H F ι .refl s⟩
theorem gp_some (h : GJE X e ge) : GJO X (some e) (gPt ge) := ⟨fun B F0 wx tk => PO.imp (po_some (h.run B F0 wx tk)) fun σ H Q ⟨F, ι, ρ, G, s, he, hp⟩ => by
  refine ⟨F, ι, ρ, G, s, he, ?_⟩
  unfold gPt at hp
  cases q : ge ρ G with
  | stuck => rw [q] at hp; exact hp
  | exc x G' => rw [q] at hp; exact hp
  | ok w G' =>
    rw [q] at hp
    rintro v H' ⟨F', ι', e1, s1, r1⟩
    cases w with
    | d k =>
      cases k with
      | int i =>
        simp only [RpW, Rp] at r1
        exact ⟨i, r1, hp H' F' ι' e1 s1⟩
      | _ => exact hp.elim
    | _ => exact hp.elim⟩
def cutW (ws : List W) (lo hi : Option Int) : List W := (ws.drop (HT.sIx ws.length 0 lo)).take (HT.sIx ws.length ws.length hi - HT.sIx ws.length 0 lo)
def sliceEnd (w : W) (l u : Option Int) : Hg → Res W := fun G => match seqW w G with
  | some (true, ws) => (match mkLst (cutW ws l u) with
    | some z => .ok z G
    | none => .stuck)
  | some (false, ws) => if HT.sIx ws.length 0 l = 0 ∧ HT.sIx ws.length ws.length u = ws.length then .ok w G else .ok (mkTup (cutW ws l u)) G
  | none => .stuck
def gSlice (a : GE) (l h : GO1) : GE := fun ρ G => (a ρ G).bind fun w G1 => (l ρ G1).bind fun lo G2 => (h ρ G2).bind fun hi G3 => sliceEnd w lo hi G3
def rSlAll (K : PySem.W.Frag) : V → Option Int → Option Int → Hp → VK → Prop := fun x lo hi H Q => rSlL K x lo hi H Q ∨ rSlA K x lo hi H Q
theorem sl_all : SlR X (rSlAll X.K) := sl_list.or sl_tupA
theorem RpWL.cut {M : Md} {F : Hp} {ι : Nat → Addr} {n : Nat} {ws : List W} {xs : List V} (r : RpWL M F ι n ws xs) (lo hi : Option Int) : RpWL M F ι n (cutW ws lo hi) (cutV xs lo hi) := by
  unfold cutW cutV
  rw [r.length]
  exact (r.drop _).take _
theorem ge_slice (ha : GJE X a ga) (hl : GJO X lo gl) (hh : GJO X hi gh) : GJE X (.Subscript a (.Slice lo hi none p2) pos) (gSlice ga gl gh) := ⟨fun B F0 wx tk => by
  refine PE.imp (pe_slice sl_all (ha.run B F0 wx tk) (hl.run B F0 wx tk) (hh.run B F0 wx tk)) fun σ H Q ⟨F, ι, ρ, G, s, he, hp⟩ => ?_
  refine ⟨F, ι, ρ, G, s, he, (Post.fst hp).imp fun x H1 ⟨F1, ι1, w, G1, e1, s1, r1, p1⟩ => ⟨F1, ι1, ρ, G1, s1, he.mono e1, ?_⟩⟩
  cases ql : gl ρ G1 with
  | stuck => rw [ql] at p1; exact p1
  | exc x G' => rw [ql] at p1; exact p1
  | ok l G2 =>
    rw [ql] at p1
    refine fun H2 F2 ι2 e2 s2 => ⟨F2, ι2, ρ, G2, s2, (he.mono e1).mono e2, ?_⟩
    have p2 := Post.base e2 p1
    simp only [Res.bind] at p2
    cases qh : gh ρ G2 with
    | stuck => rw [qh] at p2; exact p2
    | exc x G' => rw [qh] at p2; exact p2
    | ok u G3 =>
      rw [qh] at p2
      refine fun H3 F3 ι3 e3 s3 => ?_
      have p3 := Post.base e3 p2
      simp only [sliceEnd] at p3
      have r3 := (r1.mono e2).mono e3
      cases q : seqW w G3 with
      | none => rw [q] at p3; exact p3.elim
      | some p =>
        obtain ⟨b, ws⟩ := p
        rw [q] at p3
        obtain ⟨a', xs, rfl, h1, h2⟩ := s3.seq q r3
        cases b with
        | true =>
          simp only at p3
          rw [if_pos rfl] at h1
          cases q2 : mkLst (cutW ws l u) with
          | none => rw [q2] at p3; exact p3.elim
          | some z =>
            rw [q2] at p3
            obtain ⟨ds, q3, rfl⟩ := map_some q2
            exact .inl ⟨a', xs, rfl, h1, fun p hp => p3 _ _ (out_lst s3 (allD_rp q3 (h2.cut l u)) hp)⟩
        | false =>
          simp only at p3
          rw [if_neg Bool.false_ne_true] at h1
          rw [h2.length] at p3
          refine .inr ⟨a', xs, rfl, h1, fun c => ?_, fun c p hp => ?_⟩
          · rw [if_pos c] at p3
            exact p3 _ _ (out_w s3 r3)
          · rw [if_neg c] at p3
            exact p3 _ _ (out_tup s3 (h2.cut l u) hp)⟩
end
end Gh

set_option Elab.async false
set_option linter.all false
set_option maxRecDepth 100000
set_option maxHeartbeats 4000000
namespace Gh
open PySem PySem.Spec PyProof.Rows L2

/-! ### what is walked -/
theorem PI.imp {X : Cx} {tg e : Expr} {t t' : TI} (h : PI X tg e t) (k : ∀ σ H Q, t' σ H Q → t σ H Q) : PI X tg e t' := ⟨fun pins s σ H R I q => h.run pins s σ H R I (k _ _ _ q)⟩
/-- a list or tuple -/
theorem pi_seq {X : Cx} {tg l : Expr} {tl : TE} (hl : PE X l tl) : PI X tg l (fun σ H R => tl σ H fun x H1 => ∃ a, x = .ref a ∧ ((∃ xs, SqL X.K H1 a xs ∧ R (Itl X.K a) H1) ∨ (∃ xs, SqT X.K H1 a xs ∧ R (Itt X.K a) H1))) := by
  refine ⟨fun pins s σ H R I h => ?_⟩
  refine thn (hl.run pins s σ H _ I h) fun v s1 ⟨x, H1, I1, r1, q1⟩ => ?_
  obtain ⟨a, e, q⟩ := q1
  subst e
  cases r1
  rcases q with ⟨xs, hq, q⟩ | ⟨xs, hq, q⟩
  · obtain ⟨its, rv, p, hz⟩ := I1.list hq
    refine wpAny_pyIter_list p.isList ?_
    refine ⟨s1.heap.objs.size, [s1.heap.objs.size], _, _, H1, rfl, I1.kept (t' := s1.toks) fun b o e => Heap.get?_push_of_some _ e, turn_list a _, ⟨_, Heap.get?_push_size _ rfl, rfl, rfl⟩, fun b hb => ?_, q⟩
    have e : b = s1.heap.objs.size := by simpa using hb
    subst e
    exact I1.fpOk (Nat.le_refl _) (I1.hok.fresh (Nat.le_refl _))
  · obtain ⟨its, rv, p, hz⟩ := I1.tuple hq
    refine wpAny_pyIter_tuple (show s1.heap.IsTuple a its.toArray from p) ?_
    refine ⟨s1.heap.objs.size, [s1.heap.objs.size], _, _, H1, rfl, I1.kept (t' := s1.toks) fun b o e => Heap.get?_push_of_some _ e, turn_tuple a _, ⟨_, Heap.get?_push_size _ rfl, rfl, rfl⟩, fun b hb => ?_, q⟩
    have e : b = s1.heap.objs.size := by simpa using hb
    subst e
    exact I1.fpOk (Nat.le_refl _) (I1.hok.fresh (Nat.le_refl _))
/-- what must stay of w while its items ws are walked -/
def ckW : W → List W → Hg → Bool
  | .ref i, ws, G => match G[i]? with
    | some (.lst us) => sameWL us ws
    | _ => false
  | _, _, _ => true
/-- w's items stand at a as long as ck holds -/
theorem seq_later {C C2 : GC} {F H F2 H2 : Hp} {ι ι2 : Nat → Addr} {G G2 : Hg} {w : W} {b : Bool} {ws : List W} {v : V} (s : Sim C F H ι G) (e : seqW w G = some (b, ws)) (r : RpW C.m F ι G.length w v) :
    ∃ a, v = .ref a ∧ ∀ (C2 : GC) (F2 H2 : Hp) (ι2 : Nat → Addr) (G2 : Hg), C2.m = C.m → Ext F ι G.length F2 ι2 G2.length → Sim C2 F2 H2 ι2 G2 → ckW w ws G2 = true → ∃ xs, (if b = true then SqL C.m.K H2 a xs else SqT C.m.K H2 a xs) ∧ RpWL C.m F2 ι2 G2.length ws xs := by
  cases w with
  | ref i =>
    simp only [RpW] at r
    obtain ⟨hi, rfl⟩ := r
    refine ⟨_, rfl, fun C2 F2 H2 ι2 G2 hm ee s2 c => ?_⟩
    have eb : b = true := by
      simp only [seqW] at e
      split at e
      · cases e; rfl
      · cases e
    simp only [ckW] at c
    cases q : G2[i]? with
    | none => rw [q] at c; cases c
    | some o =>
      rw [q] at c
      cases o with
      | lst us =>
        have z := sameWL_eq c
        subst z
        obtain ⟨_, _, xs, h1, h2⟩ := s2.live i _ q (fun z => by cases z)
        rw [ee.io i hi] at h1
        rw [hm] at h2
        exact ⟨xs, by rw [eb, if_pos rfl]; exact .inl (.inl h1), h2⟩
      | _ => cases c
  | d x =>
    simp only [RpW] at r
    cases x with
    | lst ds =>
      cases e
      simp only [Rp] at r
      obtain ⟨a, xs, h1, h2, h3⟩ := r
      exact ⟨a, h1, fun C2 F2 H2 ι2 G2 hm ee s2 c => ⟨xs, by rw [if_pos rfl]; exact Same.sqL s2.fh (Same.sqL ee.fr h2), (h3.mono ee.fr).wl⟩⟩
    | tup ds =>
      cases e
      simp only [Rp] at r
      obtain ⟨a, xs, h1, h2, h3⟩ := r
      exact ⟨a, h1, fun C2 F2 H2 ι2 G2 hm ee s2 c => ⟨xs, by rw [if_neg Bool.false_ne_true]; exact Same.sqT s2.fh (Same.sqT ee.fr h2), (h3.mono ee.fr).wl⟩⟩
    | _ => cases e
  | tup us =>
    cases e
    simp only [RpW] at r
    obtain ⟨a, xs, h1, h2, h3⟩ := r
    exact ⟨a, h1, fun C2 F2 H2 ι2 G2 hm ee s2 c => ⟨xs, by rw [if_neg Bool.false_ne_true]; exact Same.sqT s2.fh (Same.sqT ee.fr h2), h3.mono ee⟩⟩
theorem ckW_now {w : W} {G : Hg} {b : Bool} {ws : List W} (e : seqW w G = some (b, ws)) : ckW w ws G = true := by
  cases w with
  | ref i =>
    simp only [seqW] at e
    simp only [ckW]
    cases q : G[i]? with
    | none => rw [q] at e; cases e
    | some o =>
      rw [q] at e
      cases o with
      | lst us =>
        cases e
        have : ∀ us : List W, sameWL us us = true := by
          intro us
          have hw : ∀ w : W, sameW w w = true := by
            intro w
            refine W.rec (motive_1 := fun w => sameW w w = true) (motive_2 := fun ws => sameWL ws ws = true) ?_ ?_ ?_ ?_ ?_ w
            · intro x; simp [sameW, sameD_refl]
            · intro i; simp [sameW]
            · intro ws h; simpa [sameW] using h
            · simp [sameWL]
            · intro a r h1 h2; simp [sameWL, h1, h2]
          induction us with
          | nil => simp [sameWL]
          | cons a r ih => simp [sameWL, hw a, ih]
        exact this ws
      | _ => cases e
  | _ => rfl
def gSeqI (a : GE) : GI := fun ρ G => (a ρ G).bind fun w G1 => match seqW w G1 with
  | some (_, ws) => .ok (ws, ckW w ws) G1
  | none => .stuck
section
variable {X : Cx} {tg l : Expr} {g : GE}
theorem PostI.fst {C : GC} {F : Hp} {ι : Nat → Addr} {n : Nat} {σ : L2.St} {r : Res W} {k : W → Hg → Res (List W × (Hg → Bool))} {R : It → Hp → Prop} (h : PostI C F ι n σ (r.bind k) R) :
    Post C F ι n σ r fun v H1 => ∃ F1 ι1 w G1, Ext F ι n F1 ι1 G1.length ∧ Sim C F1 H1 ι1 G1 ∧ RpW C.m F1 ι1 G1.length w v ∧ PostI C F1 ι1 G1.length σ (k w G1) R := by
  cases r with
  | stuck => exact h
  | exc x G' => exact h
  | ok w G' =>
    refine fun v H' ⟨F1, ι1, e, s, rr⟩ => ⟨F1, ι1, w, G', e, s, rr, ?_⟩
    have h : PostI C F ι n σ (k w G') R := h
    cases q : k w G' with
    | stuck => rw [q] at h; exact h
    | exc x G2 => rw [q] at h; exact fun cls d H2 o => h cls d H2 (o.base e)
    | ok p G2 =>
      rw [q] at h
      obtain ⟨ws, ck⟩ := p
      exact fun J H2 F2 ι2 e2 s2 it => h J H2 F2 ι2 (e.trans e2) s2 it
theorem gi_seq (h : GJE X l g) : GJI X tg l (gSeqI g) := ⟨fun B F0 wx tk => by
  refine PI.imp (pi_seq (h.run B F0 wx tk)) fun σ H R ⟨F, ι, ρ, G, s, he, hp⟩ => ?_
  refine ⟨F, ι, ρ, G, s, he, (PostI.fst hp).imp fun v H1 ⟨F1, ι1, w, G1, e1, s1, r1, p1⟩ => ?_⟩
  cases q : seqW w G1 with
  | none => rw [q] at p1; exact p1.elim
  | some p =>
    obtain ⟨b, ws⟩ := p
    rw [q] at p1
    obtain ⟨a, rfl, later⟩ := seq_later (C2 := gc X B F0 wx) (F2 := F1) (H2 := H1) (ι2 := ι1) (G2 := G1) s1 q r1
    obtain ⟨xs, h1, h2⟩ := later _ _ _ _ _ rfl .refl s1 (ckW_now q)
    refine ⟨a, rfl, ?_⟩
    cases b with
    | true =>
      rw [if_pos rfl] at h1
      refine .inl ⟨xs, h1, p1 _ H1 F1 ι1 .refl s1 fun C2 F2 H2 ι2 G2 hm _ ee s2 c => ?_⟩
      obtain ⟨ys, h3, h4⟩ := later C2 F2 H2 ι2 G2 hm ee s2 c
      rw [if_pos rfl] at h3
      refine ⟨fun i w hi => ?_, ⟨ys, h3, by rw [h4.length]; exact Nat.le_refl _⟩⟩
      obtain ⟨x, hx, rx⟩ := h4.get hi
      refine ⟨⟨ys, x, h3, hx⟩, fun y H3 ⟨eH, hy⟩ => ⟨F2, .refl, by rw [eH]; exact s2, ?_⟩⟩
      have z := hy ys h3
      rw [hx] at z
      cases z
      exact rx
    | false =>
      rw [if_neg Bool.false_ne_true] at h1
      refine .inr ⟨xs, h1, p1 _ H1 F1 ι1 .refl s1 fun C2 F2 H2 ι2 G2 hm _ ee s2 c => ?_⟩
      obtain ⟨ys, h3, h4⟩ := later C2 F2 H2 ι2 G2 hm ee s2 c
      rw [if_neg Bool.false_ne_true] at h3
      refine ⟨fun i w hi => ?_, ⟨ys, h3, by rw [h4.length]; exact Nat.le_refl _⟩⟩
      obtain ⟨x, hx, rx⟩ := h4.get hi
      refine ⟨⟨ys, x, h3, hx⟩, fun y H3 ⟨eH, hy⟩ => ⟨F2, .refl, by rw [eH]; exact s2, ?_⟩⟩
      have z := hy ys h3
      rw [hx] at z
      cases z
      exact rx⟩
end
def fit62 (i : Int) : Bool := decide (-(2 ^ 62) ≤ i) && decide (i < 2 ^ 62)
def rangeW (lo : Int) (n : Nat) : List W := (List.range n).map fun k => .d (.int (lo + (k : Nat)))
def gRng1 (a : GEs) : GI := fun ρ G => (a ρ G).bind fun ws G1 => match ws with
  | [.d (.int j)] => if fit62 j then .ok (rangeW 0 j.toNat, fun _ => true) G1 else .stuck
  | _ => .stuck
def gRng2 (a : GEs) : GI := fun ρ G => (a ρ G).bind fun ws G1 => match ws with
  | [.d (.int i), .d (.int j)] => if fit62 i && fit62 j then .ok (rangeW i (j - i).toNat, fun _ => true) G1 else .stuck
  | _ => .stuck
theorem rangeW_get {lo : Int} {n i : Nat} {w : W} (h : (rangeW lo n)[i]? = some w) : i < n ∧ w = .d (.int (lo + (i : Nat))) := by
  unfold rangeW at h
  rw [List.getElem?_map] at h
  rcases Nat.lt_or_ge i n with z | z
  · rw [List.getElem?_range z] at h
    cases h
    exact ⟨z, rfl⟩
  · rw [List.getElem?_eq_none (by simpa using z)] at h; cases h
theorem rangeW_len {lo : Int} {n : Nat} : (rangeW lo n).length = n := by simp [rangeW]
theorem itg_range {BB : Hp} {M : Md} {lo : Int} {n : Nat} {F : Hp} {ι : Nat → Addr} {m : Nat} : ItG M (Itr lo n) F ι m (rangeW lo n) (fun _ => true) BB := by
  intro C F2 H2 ι2 G2 hm _ ee s2 c
  refine ⟨fun i w hi => ?_, by rw [rangeW_len]; exact Nat.le_refl _⟩
  obtain ⟨h1, rfl⟩ := rangeW_get hi
  exact ⟨h1, fun x H3 ⟨e1, e2⟩ => ⟨F2, .refl, by rw [e1]; exact s2, by rw [e2]; simp only [RpW, Rp]⟩⟩
theorem PostL.fstI {C : GC} {F : Hp} {ι : Nat → Addr} {n : Nat} {σ : L2.St} {r : Res (List W)} {k : List W → Hg → Res (List W × (Hg → Bool))} {R : It → Hp → Prop} (h : PostI C F ι n σ (r.bind k) R) :
    PostL C F ι n σ r fun v H1 => ∃ F1 ι1 w G1, Ext F ι n F1 ι1 G1.length ∧ Sim C F1 H1 ι1 G1 ∧ RpWL C.m F1 ι1 G1.length w v ∧ PostI C F1 ι1 G1.length σ (k w G1) R := by
  cases r with
  | stuck => exact h
  | exc x G' => exact h
  | ok w G' =>
    refine fun v H' ⟨F1, ι1, e, s, rr⟩ => ⟨F1, ι1, w, G', e, s, rr, ?_⟩
    have h : PostI C F ι n σ (k w G') R := h
    cases q : k w G' with
    | stuck => rw [q] at h; exact h
    | exc x G2 => rw [q] at h; exact fun cls d H2 o => h cls d H2 (o.base e)
    | ok p G2 =>
      rw [q] at h
      obtain ⟨ws, ck⟩ := p
      exact fun J H2 F2 ι2 e2 s2 it => h J H2 F2 ι2 (e.trans e2) s2 it
section
variable {X : Cx} {tg : Expr} {a b : Expr} {gs : GEs} {p pos : Pos}
theorem gi_range1 (hm : X.mg "range" = none) (ha : GJA X [a] gs) (hg : Gl X "range" := by rfl) (hs : starEach [a] X.env = [(false, eval a X.env)] := by rfl) : GJI X tg (.Call (.Name "range" p) [a] [] pos) (gRng1 gs) := ⟨fun B F0 wx tk => by
  refine PI.imp (pi_range1 hg hm (ha.run B F0 wx tk) hs) fun σ H R ⟨F, ι, ρ, G, s, he, hp⟩ => ?_
  refine ⟨F, ι, ρ, G, s, he, (PostL.fstI hp).imp fun vs H1 ⟨F1, ι1, ws, G1, e1, s1, r1, p1⟩ => ?_⟩
  split at p1
  · rename_i j
    cases c : fit62 j with
    | false => rw [c] at p1; exact p1.elim
    | true =>
      rw [c, if_pos rfl] at p1
      unfold fit62 at c
      simp only [Bool.and_eq_true, decide_eq_true_eq] at c
      obtain ⟨x, rfl, r2⟩ := r1.inv1
      simp only [RpW, Rp] at r2
      subst r2
      exact ⟨j, rfl, c.1, c.2, p1 _ H1 F1 ι1 .refl s1 itg_range⟩
  · exact p1.elim⟩
theorem gi_range2 (hm : X.mg "range" = none) (ha : GJA X [a, b] gs) (hg : Gl X "range" := by rfl) (hs : starEach [a, b] X.env = [(false, eval a X.env), (false, eval b X.env)] := by rfl) (hs2 : starEach [b] X.env = [(false, eval b X.env)] := by rfl) : GJI X tg (.Call (.Name "range" p) [a, b] [] pos) (gRng2 gs) := ⟨fun B F0 wx tk => by
  refine PI.imp (pi_range2 hg hm (ha.run B F0 wx tk) hs hs2) fun σ H R ⟨F, ι, ρ, G, s, he, hp⟩ => ?_
  refine ⟨F, ι, ρ, G, s, he, (PostL.fstI hp).imp fun vs H1 ⟨F1, ι1, ws, G1, e1, s1, r1, p1⟩ => ?_⟩
  split at p1
  · rename_i i j
    cases c : (fit62 i && fit62 j) with
    | false => rw [c] at p1; exact p1.elim
    | true =>
      rw [c, if_pos rfl] at p1
      unfold fit62 at c
      simp only [Bool.and_eq_true, decide_eq_true_eq] at c
      obtain ⟨x, y, rfl, r2, r3⟩ := r1.inv2
      simp only [RpW, Rp] at r2 r3
      subst r2 r3
      exact ⟨i, j, rfl, ⟨c.1.1, c.1.2, c.2.1, c.2.2⟩, p1 _ H1 F1 ι1 .refl s1 itg_range⟩
  · exact p1.elim⟩
end
/-! enumerate(list): new pairs -/
def enumW : Nat → List W → List W
  | _, [] => []
  | i, w :: ws => mkTup [.d (.int (i : Nat)), w] :: enumW (i + 1) ws
theorem enumW_len : ∀ (i : Nat) (ws : List W), (enumW i ws).length = ws.length
  | _, [] => rfl
  | i, w :: ws => by simp [enumW, enumW_len (i + 1) ws]
theorem enumW_get : ∀ {k i : Nat} {ws : List W} {z : W}, (enumW k ws)[i]? = some z → ∃ w, ws[i]? = some w ∧ z = mkTup [.d (.int ((k + i : Nat) : Int)), w]
  | k, i, [], z, h => by simp [enumW] at h
  | k, 0, w :: ws, z, h => by simp [enumW] at h; exact ⟨w, rfl, by simpa using h.symm⟩
  | k, i + 1, w :: ws, z, h => by
    obtain ⟨w', h1, h2⟩ := enumW_get (k := k + 1) (i := i) (ws := ws) (by simpa [enumW] using h)
    exact ⟨w', by simpa using h1, by rw [h2]; congr 5; omega⟩
theorem yield_tup {C : GC} {F H : Hp} {ι : Nat → Addr} {G : Hg} {ws : List W} {xs : List V} {T : Addr} (s : Sim C F H ι G) (r : RpWL C.m F ι G.length ws xs) (h : H T = none) :
    ∃ F3, Ext F ι G.length F3 ι G.length ∧ Sim C F3 (upd H T (.tup xs)) ι G ∧ RpW C.m F3 ι G.length (mkTup ws) (.ref T) := by
  obtain ⟨s', e⟩ := s.lay (o := .tup xs) h
  refine ⟨_, e, s', ?_⟩
  unfold mkTup
  cases q : allD ws with
  | none =>
    simp only [RpW]
    exact ⟨T, xs, rfl, .inl (.inl upd_same), r.mono e⟩
  | some ds =>
    simp only [RpW, Rp]
    exact ⟨T, xs, rfl, .inl (.inl upd_same), (allD_rp q r).mono e.fr⟩
def gEnumI (a : GEs) : GI := fun ρ G => (a ρ G).bind fun ws G1 => match ws with
  | [w] => (match seqW w G1 with
    | some (true, us) => .ok (enumW 0 us, ckW w us) G1
    | _ => .stuck)
  | _ => .stuck
section
variable {X : Cx} {a b : Expr} {gs : GEs} {p pos tpos : Pos} {elts : List Expr} {kk : Nat}
theorem gi_enum (hm : X.mg "enumerate" = none) (ha : GJA X [a] gs) (hg : Gl X "enumerate" := by rfl) (hs : starEach [a] X.env = [(false, eval a X.env)] := by rfl) : GJI X (.Tuple elts kk tpos) (.Call (.Name "enumerate" p) [a] [] pos) (gEnumI gs) := ⟨fun B F0 wx tk => by
  refine PI.imp (pi_enum hg hm (ha.run B F0 wx tk) hs) fun σ H R ⟨F, ι, ρ, G, s, he, hp⟩ => ?_
  refine ⟨F, ι, ρ, G, s, he, (PostL.fstI hp).imp fun vs H1 ⟨F1, ι1, ws, G1, e1, s1, r1, p1⟩ => ?_⟩
  cases ws with
  | nil => exact p1.elim
  | cons w t =>
    cases t with
    | cons _ _ => exact p1.elim
    | nil =>
      obtain ⟨x, rfl, r2⟩ := r1.inv1
      simp only at p1
      cases q : seqW w G1 with
      | none => rw [q] at p1; exact p1.elim
      | some pr =>
        obtain ⟨bb, us⟩ := pr
        cases bb with
        | false => rw [q] at p1; exact p1.elim
        | true =>
          rw [q] at p1
          obtain ⟨l, rfl, later⟩ := seq_later (C2 := gc X B F0 wx) (F2 := F1) (H2 := H1) (ι2 := ι1) (G2 := G1) s1 q r2
          obtain ⟨xs, h1, h2⟩ := later _ _ _ _ _ rfl .refl s1 (ckW_now q)
          rw [if_pos rfl] at h1
          refine ⟨l, xs, rfl, h1, p1 _ H1 F1 ι1 .refl s1 fun C2 F2 H2 ι2 G2 hm _ ee s2 c => ?_⟩
          obtain ⟨ys, h3, h4⟩ := later C2 F2 H2 ι2 G2 hm ee s2 c
          rw [if_pos rfl] at h3
          refine ⟨fun i z hi => ?_, ⟨ys, h3, by rw [enumW_len, h4.length]; exact Nat.le_refl _⟩⟩
          obtain ⟨w', hw', rfl⟩ := enumW_get hi
          obtain ⟨y, hy, ry⟩ := h4.get hw'
          refine ⟨⟨ys, y, h3, hy⟩, fun v H3 ⟨T, y', ev, hT, eH, hall⟩ => ?_⟩
          have z := hall ys h3
          rw [hy] at z
          cases z
          subst ev eH
          rw [← hm]
          refine yield_tup (ws := [.d (.int ((0 + i : Nat) : Int)), w']) s2 ?_ hT
          rw [← hm] at ry
          simp only [RpWL, RpW, Rp, Nat.zero_add]
          exact ⟨_, _, rfl, rfl, _, _, rfl, ry, rfl⟩⟩
end

/-! ### list comprehensions -/
abbrev GTs := GT
structure GJTs (X : Cx) (e : List Expr) (g : GT) : Prop where
  run : ∀ B F0 wx, Takes X wx → PTs X e (gTT (gc X B F0 wx) g)
def gYes : GT := fun _ G => .ok true G
theorem PTs.imp {X : Cx} {e : List Expr} {t t' : TT} (h : PTs X e t) (k : ∀ σ H Q, t' σ H Q → t σ H Q) : PTs X e t' := ⟨fun pins s σ H Q I q => h.run pins s σ H Q I (k _ _ _ q)⟩
theorem gts_nil {X : Cx} : GJTs X [] gYes := ⟨fun B F0 wx tk => PTs.imp pts_nil fun σ H Q ⟨F, ι, ρ, G, s, he, hp⟩ => hp true H ⟨rfl, F, ι, .refl, s⟩⟩
theorem gts_one {X : Cx} {c : Expr} {g : GT} (h : GJT X c g) : GJTs X [c] g := ⟨fun B F0 wx tk => pts_one (h.run B F0 wx tk)⟩
def wipeG (ρ : GEnv) : List Nat → GEnv
  | [] => ρ
  | v :: vs => (wipeG ρ vs).set v none
theorem REnv.wipe {M : Md} {F : Hp} {ι : Nat → Addr} {n : Nat} {ρ : GEnv} {σ : L2.St} (h : REnv M F ι n ρ σ) : ∀ vs : List Nat, REnv M F ι n (wipeG ρ vs) (L2.wipe σ vs)
  | [] => h
  | v :: vs => by
    have ih := h.wipe vs
    refine ⟨by simp [wipeG, L2.wipe, ih.1], fun i w hi => ?_⟩
    unfold wipeG at hi
    unfold L2.wipe
    by_cases e : v = i
    · subst e
      rw [List.getElem?_set] at hi
      split at hi
      · split at hi <;> cases hi
      · exact absurd rfl ‹_›
    · rw [List.getElem?_set_ne e] at hi
      obtain ⟨x, h1, h2⟩ := ih.2 i w hi
      exact ⟨x, by rw [List.getElem?_set_ne e]; exact h1, h2⟩
/-- the turns: the values so far are acc -/
def lcL (t : GTg) (tt : GT) (e : GE) (ck : Hg → Bool) (ρ0 : GEnv) : List W → List W → Hg → Res (List W)
  | [], acc, G => if ck G then .ok acc G else .stuck
  | w :: ws, acc, G => if ck G then (match t w ρ0 G with
    | none => .stuck
    | some (ρ', G') => match tt ρ' G' with
      | .ok true G2 => (match e ρ' G2 with
        | .ok z G3 => if Nat.blt acc.length 16777216 then lcL t tt e ck ρ0 ws (acc ++ [z]) G3 else .stuck
        | _ => .stuck)
      | .ok false G2 => lcL t tt e ck ρ0 ws acc G2
      | _ => .stuck) else .stuck
def gLcW (it : GI) (own : List Nat) (t : GTg) (tt : GT) (e : GE) : GEnv → Hg → Res (List W) := fun ρ G => (it ρ G).bind fun p G1 => lcL t tt e p.2 (wipeG ρ own) p.1 [] G1
section
variable {X : Cx}
/-- what the block's parts are -/
structure LcParts (X : Cx) (scope : Scope) (own : List (Str × Nat)) (tg iter elt : Expr) (ifs : List Expr) (gi : GI) (t : GTg) (tt : GT) (e : GE) : Prop where
  calm : X.calm = true
  nd : X.N.Nodup
  it : GJI X tg iter gi
  ok : BlkOk X.N X.env.scope scope own
  tg : ∀ (s : Shared) (H : Hp) (C : Addr) (cl : List (Str × Addr)) (fp : List Addr), GJG (X.blk s H scope (compEnvC scope cl C X.env) fp) tg (own.map (·.2)) t
  ts : ∀ (s : Shared) (H : Hp) (C : Addr) (cl : List (Str × Addr)) (fp : List Addr), GJTs (X.blk s H scope (compEnvC scope cl C X.env) fp) ifs tt
  el : ∀ (s : Shared) (H : Hp) (C : Addr) (cl : List (Str × Addr)) (fp : List Addr), GJE (X.blk s H scope (compEnvC scope cl C X.env) fp) elt e
theorem takes_blk {X : Cx} {s : Shared} {H : Hp} {scope : Scope} {cenv : Env} {fp : List Addr} : Takes (X.blk s H scope cenv fp) wx0 := fun _ _ x => by
  obtain ⟨_, _, _, _, _, _, _, _, _, _, _, _, _, _, _, _, z⟩ := x
  exact z.elim
theorem Sim.rekeep {C : GC} {F H : Hp} {ι : Nat → Addr} {G : Hg} {p : Addr} {o o' : HO} (s : Sim { C with B := upd C.B p o } F H ι G) (hF : F p = none) (hno : ∀ od u, o ≠ .frz od u := by intro _ _ z; cases z) : Sim { C with B := upd C.B p o' } F (upd H p o') ι G := by
  have np := s.apart hno
  refine ⟨fun b u q => by rw [upd_ne (fun e => by rw [e, hF] at q; cases q)]; exact s.fh _ _ q, fun b u q => ?_, s.ff, fun b u q => ?_, fun i g hi hg => ?_, s.inj⟩
  · have q' : upd C.B p o' b = some u := q
    by_cases e : b = p
    · subst e
      rw [upd_same] at q' ⊢
      exact q'
    · rw [upd_ne e] at q' ⊢
      refine s.bh b u ?_
      show upd C.B p o b = some u
      rw [upd_ne e]
      exact q'
  · rcases s.new b u q with z | z
    · exact .inl z
    · refine .inr ?_
      have ne : b ≠ p := fun e => by rw [e, hF] at q; cases q
      have z' : upd C.B p o b = none := z
      show upd C.B p o' b = none
      rw [upd_ne ne] at z' ⊢
      exact z'
  · obtain ⟨a, b, r⟩ := s.live i g hi hg
    have n := np i g hi hg
    have e : upd C.B p o' (ι i) = upd C.B p o (ι i) := (upd_ne n).trans (upd_ne n).symm
    exact ⟨a, ⟨fun hL => e.trans (b.1 hL), fun hL z => b.2 hL (e.symm.trans z)⟩, r.mono .refl fun u q => by rw [upd_ne n]; exact q⟩
theorem wipe_twice (σ : L2.St) (vs : List Nat) : L2.wipe (L2.wipe σ vs) vs = L2.wipe σ vs := by
  have gen : ∀ (us : List Nat), (∀ u ∈ us, u ∈ vs) → L2.wipe (L2.wipe σ vs) us = L2.wipe σ vs := by
    intro us
    induction us with
    | nil => intro _; rfl
    | cons u r ih =>
      intro h
      show (L2.wipe (L2.wipe σ vs) r).set u none = L2.wipe σ vs
      have e' : L2.wipe (L2.wipe σ vs) r = L2.wipe σ vs := ih fun x hx => h x (List.mem_cons_of_mem _ hx)
      have hu := h u List.mem_cons_self
      have key : (L2.wipe σ vs).set u none = L2.wipe σ vs := by
        have w1 : ∀ (l : List Nat), u ∈ l → ∀ i, i = u → i < (L2.wipe σ l).length → (L2.wipe σ l)[i]? = some none := by
          intro l
          induction l with
          | nil => intro hl; cases hl
          | cons a t iht =>
            intro hl i hi hlt
            unfold L2.wipe at hlt ⊢
            by_cases ea : a = i
            · rw [ea, List.getElem?_set_self (by simpa using hlt)]
            · rw [List.getElem?_set_ne ea]
              refine iht ?_ i hi (by simpa using hlt)
              rcases List.mem_cons.mp hl with z | z
              · exact absurd (z.symm.trans hi.symm) ea
              · exact z
        apply List.ext_getElem?
        intro i
        by_cases ei : u = i
        · subst ei
          rcases Nat.lt_or_ge u (L2.wipe σ vs).length with z | z
          · rw [List.getElem?_set_self z, w1 vs hu u rfl z]
          · rw [List.getElem?_eq_none (by simpa using z), List.getElem?_eq_none z]
        · rw [List.getElem?_set_ne ei]
      calc (L2.wipe (L2.wipe σ vs) r).set u none = (L2.wipe σ vs).set u none := by rw [e']
        _ = L2.wipe σ vs := key
  exact gen vs fun _ h => h
/-- what is done with the values at the end -/
def FinOk (M : Md) (fin : List W → Hg → Res W) : Prop := ∀ (C : GC) (F H : Hp) (ι : Nat → Addr) (G : Hg) (acc : List W) (xs : List V) (D : Addr) (σ : L2.St) (Q : VK), C.m = M → Sim { C with B := upd C.B D (.lst xs) } F H ι G → C.B D = none → F D = none → RpWL C.m F ι G.length acc xs →
  Post C F ι G.length σ (fin acc G) Q → Q (.ref D) H
abbrev lcG (X : Cx) (own : List Nat) (t : GTg) : TG := fun v σ H Q => ∃ B' F0', gTG (gc X B' F0' wx0) own t v σ H Q
abbrev lcT (X : Cx) (tt : GT) : TT := fun σ H Q => ∃ B' F0', gTT (gc X B' F0' wx0) tt σ H Q
abbrev lcE (X : Cx) (e : GE) : TE := fun σ H Q => ∃ B' F0', gTE (gc X B' F0' wx0) e σ H Q
theorem gTE_lc {X : Cx} {own : List (Str × Nat)} {gi : GI} {t : GTg} {tt : GT} {e : GE} {fin : List W → Hg → Res W} {B F0 : Hp} {wx : WX} {σ : L2.St} {H : Hp} {Q : VK} (hf : FinOk (md X) fin)
    (hh : gTE (gc X B F0 wx) (fun ρ G => (gLcW gi (own.map (·.2)) t tt e ρ G).bind fin) σ H Q) : tLc (gTI (gc X B F0 wx) gi) (lcG X (own.map (·.2)) t) (lcT X tt) (lcE X e) (own.map (·.2)) σ H Q := by
  obtain ⟨F, ι, ρ, G, s, he, hp⟩ := hh
  refine ⟨F, ι, ρ, G, s, he, ?_⟩
  unfold gLcW at hp
  dsimp only at hp
  cases qi : gi ρ G with
  | stuck => rw [qi] at hp; exact hp
  | exc x G' => rw [qi] at hp; exact hp
  | ok p G1 =>
    obtain ⟨ws, ck⟩ := p
    rw [qi] at hp
    intro J H1 F1 ι1 e1 s1 it D hD
    have hp1 : Post (gc X B F0 wx) F1 ι1 G1.length σ ((lcL t tt e ck (wipeG ρ (own.map (·.2))) ws [] G1).bind fin) Q := Post.base e1 hp
    have hBD : B D = none := s1.freeB hD
    have hFD : F1 D = none := s1.free hD
    have hF0 : F0 D = none := s1.ff.free hFD
    have noF : ∀ {F2 H2 : Hp} {ι2 : Nat → Addr} {G2 : Hg} {o : HO}, Sim (gc X (upd B D o) F0 wx) F2 H2 ι2 G2 → F2 D = none := fun {F2 H2 ι2 G2 o} t => by
      cases q : F2 D with
      | none => rfl
      | some u =>
        rcases t.new D u q with z | z
        · have z' : F0 D = some u := z
          rw [hF0] at z'; cases z'
        · have z' : upd B D o D = none := z
          rw [upd_same] at z'; cases z'
    have he0 := (he.mono e1).wipe (own.map (·.2))
    refine ⟨fun i m H => m = ws.length - i ∧ i ≤ ws.length ∧ ∃ F2 ι2 G2 acc xs, Ext F1 ι1 G1.length F2 ι2 G2.length ∧ Sim (gc X (upd B D (.lst xs)) F0 wx) F2 H ι2 G2 ∧ RpWL (md X) F2 ι2 G2.length acc xs ∧ Post (gc X B F0 wx) F2 ι2 G2.length σ ((lcL t tt e ck (wipeG ρ (own.map (·.2))) (ws.drop i) acc G2).bind fin) Q,
      ⟨ws.length, by simp, Nat.zero_le _, F1, ι1, G1, [], [], .refl, Sim.keep (C := gc X B F0 wx) (o := .lst []) s1 hD, by simp only [RpWL], hp1⟩, ?_⟩
    rintro i m H2 ⟨rfl, hi, F2, ι2, G2, acc, xs, e2, s2, ra, p2⟩
    rcases Nat.lt_or_ge i ws.length with hlt | hge
    · have hd : ws.drop i = ws[i] :: ws.drop (i + 1) := by rw [List.drop_eq_getElem_cons hlt]
      rw [hd] at p2
      simp only [lcL] at p2
      cases c : ck G2 with
      | false => rw [c] at p2; exact p2.elim
      | true =>
        rw [c, if_pos rfl] at p2
        obtain ⟨it1, it2⟩ := it (gc X (upd B D (.lst xs)) F0 wx) F2 H2 ι2 G2 rfl (fun b o q => by show upd B D (.lst xs) b = some o; rw [upd_ne (ne_of_none q hBD)]; exact q) e2 s2 c
        obtain ⟨go, yl⟩ := it1 i ws[i] (List.getElem?_eq_getElem hlt)
        refine .inr ⟨go, fun H' => ∃ F3 ι3 G3 acc xs, Ext F1 ι1 G1.length F3 ι3 G3.length ∧ Sim (gc X (upd B D (.lst xs)) F0 wx) F3 H' ι3 G3 ∧ RpWL (md X) F3 ι3 G3.length acc xs ∧ Post (gc X B F0 wx) F3 ι3 G3.length σ ((lcL t tt e ck (wipeG ρ (own.map (·.2))) (ws.drop (i + 1)) acc G3).bind fin) Q,
          fun H' h => ⟨_, by omega, rfl, hlt, h⟩, fun x H3 y => ?_⟩
        obtain ⟨F3, e3, s3, r3⟩ := yl x H3 y
        have p3 := Post.base e3 p2
        have e13 := e2.trans e3
        refine ⟨upd B D (.lst xs), F0, F3, ι2, wipeG ρ (own.map (·.2)), G2, ws[i], s3.wx, he0.mono e13, r3, ?_⟩
        cases qt : t ws[i] (wipeG ρ (own.map (·.2))) G2 with
        | none => rw [qt] at p3; exact p3.elim
        | some o =>
          obtain ⟨ρ4, G4⟩ := o
          rw [qt] at p3
          rintro σ4 H4 ⟨F4, ι4, e4, s4, he4⟩ wq
          have p4 := Post.base e4 p3
          simp only at p4
          refine ⟨by rw [wq, wipe_twice], upd B D (.lst xs), F0, F4, ι4, ρ4, G4, s4, he4, ?_⟩
          cases qtt : tt ρ4 G4 with
          | stuck => rw [qtt] at p4; exact p4
          | exc x G' => rw [qtt] at p4; exact p4.elim
          | ok b G5 =>
            rw [qtt] at p4
            rintro bv H5 ⟨ev, F5, ι5, e5, s5⟩
            rw [ev]
            have p5 := Post.base e5 p4
            have e15 := (e13.trans e4).trans e5
            have s5' : Sim (gc X (upd B D (.lst xs)) F0 wx) F5 H5 ι5 G5 := s5.wx
            cases b with
            | false =>
              rw [if_neg Bool.false_ne_true]
              exact ⟨F5, ι5, G5, acc, xs, e15, s5', ra.mono ((e3.trans e4).trans e5), p5⟩
            | true =>
              rw [if_pos rfl]
              refine ⟨upd B D (.lst xs), F0, F5, ι5, ρ4, G5, s5, he4.mono e5, ?_⟩
              simp only at p5
              cases qe : e ρ4 G5 with
              | stuck => rw [qe] at p5; exact p5
              | exc x G' => rw [qe] at p5; exact p5.elim
              | ok z G6 =>
                rw [qe] at p5
                rintro y H6 ⟨F6, ι6, e6, s6, r6⟩
                have p6 := Post.base e6 p5
                simp only at p6
                have s6' : Sim (gc X (upd B D (.lst xs)) F0 wx) F6 H6 ι6 G6 := s6.wx
                cases cl : Nat.blt acc.length 16777216 with
                | false => rw [cl] at p6; exact p6.elim
                | true =>
                  rw [cl, if_pos rfl] at p6
                  have ra6 := ra.mono (((e3.trans e4).trans e5).trans e6)
                  refine ⟨xs, s6'.bh D _ upd_same, by rw [sizeLine_eq, ← ra6.length]; exact Nat.le_of_ble_eq_true cl, F6, ι6, G6, acc ++ [z], xs ++ [y], e15.trans e6, Sim.rekeep (C := gc X B F0 wx) s6' (noF s6'), ra6.append (.one r6), p6⟩
    · have ei : i = ws.length := by omega
      subst ei
      rw [List.drop_length] at p2
      simp only [lcL] at p2
      cases c : ck G2 with
      | false => rw [c] at p2; exact p2.elim
      | true =>
        rw [c, if_pos rfl] at p2
        obtain ⟨_, it2⟩ := it (gc X (upd B D (.lst xs)) F0 wx) F2 H2 ι2 G2 rfl (fun b o q => by show upd B D (.lst xs) b = some o; rw [upd_ne (ne_of_none q hBD)]; exact q) e2 s2 c
        exact .inl ⟨it2, hf (gc X B F0 wx) F2 H2 ι2 G2 acc xs D σ Q rfl s2 hBD (noF s2) ra p2⟩
section
variable {X : Cx} {scope : Scope} {own : List (Str × Nat)} {tg iter elt : Expr} {ifs : List Expr} {pos : Pos} {gi : GI} {t : GTg} {tt : GT} {e : GE} {fin : List W → Hg → Res W}
theorem LcParts.pg (P : LcParts X scope own tg iter elt ifs gi t tt e) (s : Shared) (H : Hp) (C : Addr) (cl : List (Str × Addr)) (fp : List Addr) : PG (X.blk s H scope (compEnvC scope cl C X.env) fp) tg (lcG X (own.map (·.2)) t) :=
  ⟨fun pins s1 σ H v u Q I r ⟨B', F0', h⟩ => ((P.tg s _ C cl fp).run B' F0' wx0 takes_blk).run pins s1 σ H v u Q I r h⟩
theorem LcParts.pts (P : LcParts X scope own tg iter elt ifs gi t tt e) (s : Shared) (H : Hp) (C : Addr) (cl : List (Str × Addr)) (fp : List Addr) : PTs (X.blk s H scope (compEnvC scope cl C X.env) fp) ifs (lcT X tt) :=
  ⟨fun pins s1 σ H Q I ⟨B', F0', h⟩ => ((P.ts s _ C cl fp).run B' F0' wx0 takes_blk).run pins s1 σ H Q I h⟩
theorem LcParts.pe (P : LcParts X scope own tg iter elt ifs gi t tt e) (s : Shared) (H : Hp) (C : Addr) (cl : List (Str × Addr)) (fp : List Addr) : PE (X.blk s H scope (compEnvC scope cl C X.env) fp) elt (lcE X e) :=
  ⟨fun pins s1 σ H Q I ⟨B', F0', h⟩ => ((P.el s _ C cl fp).run B' F0' wx0 takes_blk).run pins s1 σ H Q I h⟩
theorem ge_lc (P : LcParts X scope own tg iter elt ifs gi t tt e) (hf : FinOk (md X) fin)
    (hs : ∀ x, foldedSetIterable iter X.env x = pure x := by intro _; rfl) : GJE X (.ListComp elt [⟨tg, iter, ifs, 0⟩] scope pos) (fun ρ G => (gLcW gi (own.map (·.2)) t tt e ρ G).bind fin) :=
  ⟨fun B F0 wx tk => PE.imp (pe_lc P.calm P.nd (P.it.run B F0 wx tk) P.ok P.pg P.pts P.pe hs) fun σ H Q h => gTE_lc hf h⟩
/-- y = [..] on one line, y a local -/
theorem gs_setLc {i : Nat} {y : Str} {py spos : Pos} (P : LcParts X scope own tg iter elt ifs gi t tt e) (hf : FinOk (md X) fin) (hy : X.N[i]? = some y := by rfl) (hyl : X.env.scope.names.lookup y = some .local := by rfl)
    (hsw : swapsWith (.ListComp elt [⟨tg, iter, ifs, 0⟩] scope pos) (some (.Name y py)) spos.line X.env = pure true := by rfl) (hs : ∀ x, foldedSetIterable iter X.env x = pure x := by intro _; rfl) :
    GJS X (.Assign [.Name y py] (.ListComp elt [⟨tg, iter, ifs, 0⟩] scope pos) spos) (gAsg (fun ρ G => (gLcW gi (own.map (·.2)) t tt e ρ G).bind fin) (gNm i)) := ⟨fun B F0 wx tk => by
  refine PS.imp (ps_setLc P.calm P.nd hy hyl hsw (P.it.run B F0 wx tk) P.ok P.pg P.pts P.pe hs) fun D σ H ⟨F, ι, ρ, G, s, he, hp⟩ => ?_
  refine gTE_lc hf ⟨F, ι, ρ, G, s, he, (PostS.fst he hp).imp fun v H1 ⟨F1, ι1, w, G1, e1, s1, r1, he1, p1⟩ => ?_⟩
  exact p1 _ H1 ⟨F1, ι1, .refl, s1, he1.set i r1⟩⟩
end
def finT : List W → Hg → Res W := fun ws G1 => match mkLst ws with
  | some z => .ok z G1
  | none => .stuck
def finN : List W → Hg → Res W := fun ws G1 => .ok (.ref G1.length) (G1 ++ [.lst ws])
theorem finT_ok {M : Md} : FinOk M finT := by
  intro C F H ι G acc xs D σ Q hm s hB hF ra p
  unfold finT at p
  cases q : mkLst acc with
  | none => rw [q] at p; exact p.elim
  | some z =>
    rw [q] at p
    obtain ⟨ds, q2, rfl⟩ := map_some q
    obtain ⟨s', e, hD⟩ := s.adopt hB hF
    exact p _ _ ⟨_, _, e, s', by simp only [RpW, Rp]; exact ⟨D, xs, rfl, .inl (.inl upd_same), (allD_rp q2 ra).mono e.fr⟩⟩
theorem finN_ok {M : Md} : FinOk M finN := by
  intro C F H ι G acc xs D σ Q hm s hB hF ra p
  have hD : H D = some (.lst xs) := s.bh D _ upd_same
  have t := s.unkeep hB
  have ext : Ext F ι G.length F (putI ι G.length D) (G ++ [GO.lst acc]).length := ⟨Same.refl _, fun i hi => putI_lt hi, by simp⟩
  have at_ : ∀ i u, (G ++ [GO.lst acc])[i]? = some u → (i < G.length ∧ G[i]? = some u) ∨ (i = G.length ∧ u = .lst acc) := fun i u q => by
    rcases Nat.lt_or_ge i G.length with z | z
    · rw [List.getElem?_append_left z] at q
      exact .inl ⟨z, q⟩
    · rw [List.getElem?_append_right z] at q
      rcases Nat.eq_or_lt_of_le z with e | e
      · rw [← e, Nat.sub_self] at q
        exact .inr ⟨e.symm, (Option.some.inj q).symm⟩
      · rw [List.getElem?_eq_none (by simp; omega)] at q; cases q
  have np : ∀ i g, G[i]? = some g → g ≠ .dead → ι i ≠ D := s.apart (by intro _ _ z; cases z)
  refine p _ _ ⟨F, putI ι G.length D, ext, ⟨t.fh, t.bh, t.ff, t.new, fun i u hi hu => ?_, fun i j u v hi hu hj hv e => ?_⟩, by simp only [RpW]; exact ⟨by simp, by rw [putI_same]⟩⟩
  · rcases at_ i u hi with ⟨z, q⟩ | ⟨z, q⟩
    · rw [putI_lt z]
      obtain ⟨a, b, r⟩ := t.live i u q hu
      exact ⟨a, b, r.mono ext fun w q => q⟩
    · subst z q
      rw [putI_same]
      exact ⟨hF, ⟨fun _ => hB, fun z => by cases z⟩, xs, hD, ra.mono ext⟩
  · rcases at_ i u hi with ⟨zi, qi⟩ | ⟨zi, qi⟩ <;> rcases at_ j v hj with ⟨zj, qj⟩ | ⟨zj, qj⟩
    · rw [putI_lt zi, putI_lt zj] at e
      exact t.inj i j u v qi hu qj hv e
    · rw [putI_lt zi, zj, putI_same] at e
      exact absurd e (np i u qi hu)
    · rw [putI_lt zj, zi, putI_same] at e
      exact absurd e.symm (np j v qj hv)
    · rw [zi, zj]
end
end Gh

set_option Elab.async false
set_option linter.all false
set_option maxRecDepth 100000
set_option maxHeartbeats 4000000
namespace Gh
open PySem PySem.Spec PyProof.Rows L2

/-! ### -x -/
def gNeg (a : GE) : GE := fun ρ G => (a ρ G).bind fun x G1 => match x with
  | .d (.int i) => .ok (.d (.int (-i))) G1
  | _ => .stuck
section
variable {X : Cx} {a b c : Expr} {ga gb gcc : GE} {pos : Pos}
theorem ge_neg (ha : GJE X a ga) : GJE X (.UnaryOp .USub a pos) (gNeg ga) := ⟨fun B F0 wx tk => by
  refine PE.imp (pe_un un_neg (ha.run B F0 wx tk)) fun σ H Q ⟨F, ι, ρ, G, s, he, hp⟩ => ?_
  refine ⟨F, ι, ρ, G, s, he, (Post.fst hp).imp fun x H1 ⟨F1, ι1, w, G1, e1, s1, r1, p1⟩ => ?_⟩
  split at p1
  · simp only [RpW, Rp] at r1
    exact ⟨_, r1, p1 _ H1 (out_flat s1 rpI)⟩
  · exact p1.elim⟩

/-! ### a < b < c -/
def gChain (f f' : W → W → Hg → Option (W × Hg)) (a b c : GE) : GE := fun ρ G => (a ρ G).bind fun x G1 => (b ρ G1).bind fun y G2 => match f x y G2 with
  | some (.d (.bl true), G3) => (c ρ G3).bind fun z G4 => lift (f' y z G4)
  | some (.d (.bl false), G3) => .ok (.d (.bl false)) G3
  | _ => .stuck
theorem gTE_chain {B F0 : Hp} {wx : WX} {r r' : R2} {f f' : W → W → Hg → Option (W × Hg)} (hf : OpG X r f) (hf' : OpG X r' f') {σ : L2.St} {H : Hp} {Q : VK} (h : gTE (gc X B F0 wx) (gChain f f' ga gb gcc) σ H Q) :
    tChain r r' (gTE (gc X B F0 wx) ga) (gTE (gc X B F0 wx) gb) (gTE (gc X B F0 wx) gcc) σ H Q := by
  obtain ⟨F, ι, ρ, G, s, he, hp⟩ := h
  refine ⟨F, ι, ρ, G, s, he, (Post.fst hp).imp fun x H1 ⟨F1, ι1, w, G1, e1, s1, r1, p1⟩ => ⟨F1, ι1, ρ, G1, s1, he.mono e1, (Post.fst p1).imp fun y H2 ⟨F2, ι2, u, G2, e2, s2, r2, p2⟩ => ?_⟩⟩
  cases q : f w u G2 with
  | none => rw [q] at p2; exact p2.elim
  | some o =>
    obtain ⟨z, G3⟩ := o
    rw [q] at p2
    refine hf _ F2 H2 ι2 G2 w u x y z G3 _ rfl s2 (r1.mono e2) r2 q fun v H3 ⟨F3, ι3, e3, s3, r3⟩ => ?_
    split at p2
    · rename_i z' G4' h4
      cases h4
      simp only [RpW, Rp] at r3
      refine ⟨true, r3, ?_⟩
      rw [if_pos rfl]
      have p3 := Post.base e3 p2
      refine ⟨F3, ι3, ρ, _, s3, he.mono ((e1.trans e2).trans e3), (Post.fst p3).imp fun z H4 ⟨F4, ι4, t, G4, e4, s4, r4, p4⟩ => ?_⟩
      cases q5 : f' u t G4 with
      | none => rw [q5] at p4; exact p4.elim
      | some o5 =>
        obtain ⟨z5, G5⟩ := o5
        rw [q5] at p4
        exact hf' _ F4 H4 ι4 G4 u t y z z5 G5 Q rfl s4 (r2.mono (e3.trans e4)) r4 q5 p4
    · rename_i z' G4' h4
      cases h4
      simp only [RpW, Rp] at r3
      refine ⟨false, r3, ?_⟩
      rw [if_neg Bool.false_ne_true]
      exact p2 _ H3 ⟨F3, ι3, e3, s3, by simp only [RpW, Rp]⟩
    · exact p2.elim
theorem ge_chain {op op' : CmpOp} {r r' : R2} {f f' : W → W → Hg → Option (W × Hg)} (ho : OpR X (compareOp op) r) (ho' : OpR X (compareOp op') r') (hf : OpG X r f) (hf' : OpG X r' f') (ha : GJE X a ga) (hb : GJE X b gb) (hc : GJE X c gcc)
    (hm : lastMarks [op, op'] [b, c] = false := by with_unfolding_all rfl) : GJE X (.Compare a [op, op'] [b, c] pos) (gChain f f' ga gb gcc) :=
  ⟨fun B F0 wx tk => PE.imp (pe_chain ho ho' (ha.run B F0 wx tk) (hb.run B F0 wx tk) (hc.run B F0 wx tk) hm) fun _ _ _ h => gTE_chain hf hf' h⟩
theorem gt_chain {op op' : CmpOp} {r r' : R2} {f f' : W → W → Hg → Option (W × Hg)} (ho : OpR X (compareOp op) r) (ho' : OpR X (compareOp op') r') (hf : OpG X r f) (hf' : OpG X r' f') (ha : GJE X a ga) (hb : GJE X b gb) (hc : GJE X c gcc)
    (hm : lastMarks [op, op'] [b, c] = false := by with_unfolding_all rfl) : GJT X (.Compare a [op, op'] [b, c] pos) (gTst (gChain f f' ga gb gcc)) :=
  ⟨fun B F0 wx tk => PT.imp (pt_chain ho ho' (ha.run B F0 wx tk) (hb.run B F0 wx tk) (hc.run B F0 wx tk) hm) fun _ _ _ h => gTE_chain hf hf' (gTT_tst h)⟩
end

/-! ### calls without arguments -/
section
variable {X : Cx} {k j : Nat} {x : Str} {p pos : Pos}
theorem ge_fnP0 {f : List D → PRes} (c : CalX X.prog X.w X.K X.mg X.base k x (spP (md X) 0 f)) (hr : RoomG j X.A) (hk : k ≤ j) (hg : Gl X x := by rfl) (hdb : (x == ("__debug__" : Str)) = false := by decide) :
    GJE X (.Call (.Name x p) [] [] pos) (gFnP 0 f gNilA) := ⟨fun B F0 wx tk => by
  obtain ⟨fa, fd, ps, F, hm, kp, b⟩ := c.ex
  refine ⟨fun pins s σ H Q I h => ?_⟩
  have h' : tCall (spP (md X) 0 f) [] (fun cls d H' => wx cls d σ H') tNil σ H Q := by
    obtain ⟨F1, ι, ρ, G, s1, he, hp⟩ := h
    have hh := gTE_fnP (gs := gNilA) (B := B) (F0 := F0) (wx := wx) (Q := Q) (σ := σ) ⟨F1, ι, ρ, G, s1, he, hp⟩
    obtain ⟨F2, ι2, ρ2, G2, s2, he2, hp2⟩ := hh
    exact hp2 [] H ⟨F2, ι2, .refl, s2, by simp only [RpWL]⟩
  refine wpAny_Call_Name_kw (ld_glob I hg hm ?_ hdb)
  exact PySem.W.callWith_K0 I.kIn kp (run_fnG (E := fun σ => fun cls d H' => wx cls d σ H') (us := []) (vs := []) F (hr.mono hk) b (passAt tk σ) I .nil h')⟩
theorem ge_fnS0 {f : List W → Hg → Res W} (c : CalX X.prog X.w X.K X.mg X.base k x (spS (md X) 0 f)) (hr : RoomG j X.A) (hk : k ≤ j) (hg : Gl X x := by rfl) (hdb : (x == ("__debug__" : Str)) = false := by decide) :
    GJE X (.Call (.Name x p) [] [] pos) (gFnS 0 f gNilA) := ⟨fun B F0 wx tk => by
  obtain ⟨fa, fd, ps, F, hm, kp, b⟩ := c.ex
  refine ⟨fun pins s σ H Q I h => ?_⟩
  have h' : tCall (spS (md X) 0 f) [] (fun cls d H' => wx cls d σ H') tNil σ H Q := by
    obtain ⟨F1, ι, ρ, G, s1, he, hp⟩ := h
    have hh := gTE_fnS (gs := gNilA) (B := B) (F0 := F0) (wx := wx) (Q := Q) (σ := σ) ⟨F1, ι, ρ, G, s1, he, hp⟩
    obtain ⟨F2, ι2, ρ2, G2, s2, he2, hp2⟩ := hh
    exact hp2 [] H ⟨F2, ι2, .refl, s2, by simp only [RpWL]⟩
  refine wpAny_Call_Name_kw (ld_glob I hg hm ?_ hdb)
  exact PySem.W.callWith_K0 I.kIn kp (run_fnG (E := fun σ => fun cls d H' => wx cls d σ H') (us := []) (vs := []) F (hr.mono hk) b (passAt tk σ) I .nil h')⟩
end

/-! ### methods of built-ins -/
/-- no dict that stands locked, perhaps -/
def noDic : W → Hg → Bool
  | .d (.dic _ _), _ => false
  | .ref i, G => match G[i]? with
    | some (.lkd _ _) => false
    | _ => true
  | _, _ => true
def gMt (t : Ty) (f : W → List W → Hg → Option (W × Hg)) (o : GE) (a : GEs) : GE := fun ρ G => (o ρ G).bind fun w G1 => if tyW w G1 = some t ∧ noDic w G1 = true then (a ρ G1).bind fun ws G2 => lift (f w ws G2) else .stuck
def MtG (X : Cx) (r : V → List V → Hp → VK → Prop) (f : W → List W → Hg → Option (W × Hg)) : Prop := ∀ (C : GC) (F H : Hp) (ι : Nat → Addr) (G : Hg) (w : W) (ws : List W) (x : V) (xs : List V) (z : W) (G' : Hg) (Q : VK), C.m = md X → Sim C F H ι G → RpW C.m F ι G.length w x → RpWL C.m F ι G.length ws xs →
  f w ws G = some (z, G') → (∀ v H', Out C F ι G.length z G' v H' → Q v H') → r x xs H Q
theorem Sim.tyM {C : GC} {F H : Hp} {ι : Nat → Addr} {G : Hg} {w : W} {t : Ty} {v : V} (s : Sim C F H ι G) (e : tyW w G = some t) (hn : noDic w G = true) (ht : t = .lst ∨ t = .str ∨ t = .dic) (r : RpW C.m F ι G.length w v) : tyV C.m.K t.name v H := by
  cases w with
  | d x =>
    simp only [RpW] at r
    cases x with
    | str b => cases e; simp only [Rp] at r; subst r; rfl
    | lst b => cases e; simp only [Rp] at r; obtain ⟨a, xs, rfl, h, _⟩ := r; exact .inl ⟨rfl, xs, Same.sqL s.fh h⟩
    | dic t b => exact absurd hn (by simp [noDic])
    | ins c b => cases e
    | _ => cases e; rcases ht with h | h | h <;> cases h
  | tup ws => cases e; rcases ht with h | h | h <;> cases h
  | ref i =>
    simp only [RpW] at r
    obtain ⟨hi, rfl⟩ := r
    simp only [tyW] at e
    cases q : G[i]? with
    | none => rw [q] at e; cases e
    | some o =>
      rw [q] at e
      cases o with
      | lst ws => cases e; obtain ⟨_, _, xs, h, _⟩ := s.live i _ q (fun z => by cases z); exact .inl ⟨rfl, xs, .inl (.inl h)⟩
      | lkd t kvs => rw [noDic, q] at hn; cases hn
      | dic t kvs =>
        cases e
        obtain ⟨_, _, h⟩ := s.live i _ q (fun z => by cases z)
        cases t with
        | false => obtain ⟨es, h, _⟩ := h; exact .inr (.inr (.inl ⟨rfl, .inl ⟨es, h⟩⟩))
        | true => obtain ⟨es, h, _⟩ := h; exact .inr (.inr (.inl ⟨rfl, .inr ⟨es, h⟩⟩))
      | _ => cases e
section
variable {X : Cx} {o e : Expr} {es : List Expr} {go : GE} {gs : GEs} {name : Str} {apos cpos : Pos} {t : Ty} {id : String} {r : V → List V → Hp → VK → Prop} {f : W → List W → Hg → Option (W × Hg)}
theorem gTE_mt {B F0 : Hp} {wx : WX} (hf : MtG X r f) (ht : t = .lst ∨ t = .str ∨ t = .dic) {σ : L2.St} {H : Hp} {Q : VK} (h : gTE (gc X B F0 wx) (gMt t f go gs) σ H Q) :
    gTE (gc X B F0 wx) go σ H fun x H1 => tyV X.K t.name x H1 ∧ gTA (gc X B F0 wx) gs σ H1 fun xs H2 => r x xs H2 Q := by
  obtain ⟨F, ι, ρ, G, s, he, hp⟩ := h
  refine ⟨F, ι, ρ, G, s, he, (Post.fst hp).imp fun x H1 ⟨F1, ι1, w, G1, e1, s1, r1, p1⟩ => ?_⟩
  by_cases hty : tyW w G1 = some t ∧ noDic w G1 = true
  · rw [if_pos hty] at p1
    refine ⟨s1.tyM hty.1 hty.2 ht r1, F1, ι1, ρ, G1, s1, he.mono e1, (PostL.fst p1).imp fun xs H2 ⟨F2, ι2, ws, G2, e2, s2, r2, p2⟩ => ?_⟩
    cases q : f w ws G2 with
    | none => rw [q] at p2; exact p2.elim
    | some o =>
      obtain ⟨z, G3⟩ := o
      rw [q] at p2
      exact hf _ F2 H2 ι2 G2 w ws x xs z G3 Q rfl s2 (r1.mono e2) r2 q p2
  · rw [if_neg hty] at p1; exact p1.elim
theorem ge_mt (pa : PlainAttrs t.name) (slot : Slot t.name name id) (hty : typeOf (.builtin id) = pure (.type "method_descriptor")) (hm : MtR X id r) (hf : MtG X r f) (ho : GJE X o go) (ha : GJA X (e :: es) gs) (ht : t = .lst ∨ t = .str ∨ t = .dic := by decide)
    (hbase : attributeBase o name X.env (eval o X.env) = eval o X.env := by rfl)
    (hfew : ((backTo cpos (starEach (e :: es) X.env)).all (fun x => !x.1) && (backToKw cpos (keywordEach [] X.env)).all (fun x => x.1.isSome)
      && decide ((e :: es).length + ([] : List Keyword).length + (if ([] : List Keyword).isEmpty then 0 else 1) < 30)) = true := by rfl)
    (hline : (apos.endLine == cpos.line) = true := by rfl) (hs : starEach (e :: es) X.env = (false, eval e X.env) :: starEach es X.env := by rfl) (hplain : (backTo cpos (starEach es X.env)).any (·.1) = false := by rfl) :
    GJE X (.Call (.Attribute o name apos) (e :: es) [] cpos) (gMt t f go gs) :=
  ⟨fun B F0 wx tk => PE.imp (pe_bm pa slot hty hm (ho.run B F0 wx tk) (ha.run B F0 wx tk) hbase hfew hline hs hplain) fun _ _ _ h => gTE_mt hf ht h⟩
theorem ge_mt0 (pa : PlainAttrs t.name) (slot : Slot t.name name id) (hty : typeOf (.builtin id) = pure (.type "method_descriptor")) (hm : MtR X id r) (hf : MtG X r f) (ho : GJE X o go) (ht : t = .lst ∨ t = .str ∨ t = .dic := by decide)
    (hbase : attributeBase o name X.env (eval o X.env) = eval o X.env := by rfl) (hline : (apos.endLine == cpos.line) = true := by rfl) :
    GJE X (.Call (.Attribute o name apos) [] [] cpos) (gMt t f go gNilA) :=
  ⟨fun B F0 wx tk => PE.imp (pe_bm0 pa slot hty hm (ho.run B F0 wx tk) hbase hline) fun σ H Q h => by
    obtain ⟨F, ι, ρ, G, s, he, hp⟩ := gTE_mt hf ht h
    exact ⟨F, ι, ρ, G, s, he, hp.imp fun x H1 ⟨h1, F2, ι2, ρ2, G2, s2, he2, hp2⟩ => ⟨h1, hp2 [] H1 ⟨F2, ι2, .refl, s2, by simp only [RpWL]⟩⟩⟩⟩
end

/-! ### methods of lists -/
def getL (w : W) (G : Hg) : Option (Nat × List W) := match w with
  | .ref i => match G[i]? with
    | some (.lst ws) => some (i, ws)
    | _ => none
  | _ => none
theorem getL_inv {w : W} {G : Hg} {i : Nat} {ws : List W} (h : getL w G = some (i, ws)) : w = .ref i ∧ G[i]? = some (.lst ws) := by
  cases w with
  | ref j =>
    simp only [getL] at h
    cases q : G[j]? with
    | none => rw [q] at h; cases h
    | some o =>
      rw [q] at h
      cases o with
      | lst us => cases h; exact ⟨rfl, q⟩
      | _ => cases h
  | _ => cases h
theorem Sim.lst {C : GC} {F H : Hp} {ι : Nat → Addr} {G : Hg} {i : Nat} {ws : List W} (s : Sim C F H ι G) (h : G[i]? = some (.lst ws)) : ∃ xs, H (ι i) = some (.lst xs) ∧ RpWL C.m F ι G.length ws xs := by
  obtain ⟨_, _, xs, h1, h2⟩ := s.live i _ h (fun z => by cases z)
  exact ⟨xs, h1, h2⟩
theorem out_wr {C : GC} {F H : Hp} {ι : Nat → Addr} {G : Hg} {i : Nat} {ws us : List W} {ys : List V} {w : W} {v : V} (s : Sim C F H ι G) (h : G[i]? = some (.lst ws)) (r : RpWL C.m F ι G.length us ys) (rv : RpW C.m F ι G.length w v) :
    Out C F ι G.length w (G.set i (.lst us)) v (upd H (ι i) (.lst ys)) := by
  have s' := s.write (o := .lst ys) (g := .lst us) h (fun z => by cases z) ⟨ys, upd_same, r⟩
  refine ⟨F, ι, ⟨Same.refl _, fun _ _ => rfl, by simp⟩, s', ?_⟩
  rw [List.length_set]
  exact rv
theorem RpWL.set {M : Md} {F : Hp} {ι : Nat → Addr} {n : Nat} {w : W} {x : V} : ∀ {ws : List W} {xs : List V} (i : Nat), RpWL M F ι n ws xs → RpW M F ι n w x → RpWL M F ι n (ws.set i w) (xs.set i x)
  | [], xs, i, h, r => by simp only [RpWL] at h; subst h; simp [RpWL]
  | u :: ws, xs, 0, h, r => by
    simp only [RpWL] at h
    obtain ⟨y, t, rfl, h1, h2⟩ := h
    simp only [List.set_cons_zero, RpWL]
    exact ⟨x, t, rfl, r, h2⟩
  | u :: ws, xs, i + 1, h, r => by
    simp only [RpWL] at h
    obtain ⟨y, t, rfl, h1, h2⟩ := h
    simp only [List.set_cons_succ, RpWL]
    exact ⟨y, _, rfl, h1, RpWL.set i h2 r⟩
theorem RpWL.erase {M : Md} {F : Hp} {ι : Nat → Addr} {n : Nat} : ∀ {ws : List W} {xs : List V} (i : Nat), RpWL M F ι n ws xs → RpWL M F ι n (ws.eraseIdx i) (xs.eraseIdx i)
  | [], xs, i, h => by simp only [RpWL] at h; subst h; simp [RpWL]
  | u :: ws, xs, 0, h => by
    simp only [RpWL] at h
    obtain ⟨y, t, rfl, h1, h2⟩ := h
    simpa using h2
  | u :: ws, xs, i + 1, h => by
    simp only [RpWL] at h
    obtain ⟨y, t, rfl, h1, h2⟩ := h
    simp only [List.eraseIdx_cons_succ, RpWL]
    exact ⟨y, _, rfl, h1, RpWL.erase i h2⟩
theorem RpWL.dropLast {M : Md} {F : Hp} {ι : Nat → Addr} {n : Nat} {ws : List W} {xs : List V} (h : RpWL M F ι n ws xs) : RpWL M F ι n ws.dropLast xs.dropLast := by
  rw [List.dropLast_eq_take, List.dropLast_eq_take, h.length]
  exact h.take _
def fAppend (w : W) (us : List W) (G : Hg) : Option (W × Hg) := match getL w G, us with
  | some (i, ws), [u] => if Nat.blt ws.length 16777216 then some (.d .non, G.set i (.lst (ws ++ [u]))) else none
  | _, _ => none
def fPop (w : W) (us : List W) (G : Hg) : Option (W × Hg) := match getL w G, us with
  | some (i, ws), [] => (ws[ws.length - 1]?).map fun z => (z, G.set i (.lst ws.dropLast))
  | some (i, ws), [.d (.int k)] => if fit62 k then (match seqIndex? k ws.length with
    | some j => (ws[j]?).map fun z => (z, G.set i (.lst (ws.eraseIdx j)))
    | none => none) else none
  | _, _ => none
def fExtend (w : W) (us : List W) (G : Hg) : Option (W × Hg) := match getL w G, us with
  | some (i, ws), [u] => (match seqW u G with
    | some (true, zs) => if small (ws.length + zs.length) then some (.d .non, G.set i (.lst (ws ++ zs))) else none
    | _ => none)
  | _, _ => none
def rPopA : V → List V → Hp → VK → Prop := fun x vs H Q => rPop x vs H Q ∨ rPopAt x vs H Q
theorem mt_popA {X : Cx} : MtR X "list.pop" rPopA := fun pins s σ H x xs v us Q I rx rv h => by
  rcases h with h | h
  · exact mt_pop pins s σ H x xs v us Q I rx rv h
  · exact mt_popAt pins s σ H x xs v us Q I rx rv h
theorem extendW (l : Addr) (items : Array Value) (n : Nat) (b : Addr) (items2 : Array Value) (n2 : Nat) (dd : Option Addr) (sl : Array (Option Value)) (hc0 : ¬(!items.isEmpty && Builtin.List.listTooLong (items.size + items2.size)) = true) (hc1 : items.size ≤ sizeLine) (hs2 : items.size + items2.size ≤ sizeLine + 1) :
    Meets (Builtin.«list.extend» ⟨[.ref l, .ref b], []⟩) (fun _ R s => s.heap.get? l = some { cls := .type "list", dict := none, data := .seq items n, slots := #[] } ∧ s.heap.get? b = some { cls := .type "list", dict := dd, data := .seq items2 n2, slots := sl } ∧ R (.ok (.ret Value.none)) { s with heap := s.heap.update l (Obj.mapSeq fun x => x ++ items2), toks := s.toks }) :=
  .of_wp fun prog w A R s h => by
    obtain ⟨hp, g, d, tk, os⟩ := s; obtain ⟨hl, hb, h⟩ := h; have i1 := AutoSeq1.idx_int; have t2 := AutoSeq1.sub_tuple_tuple; have t3 := AutoSeq1.sub_list_list; have t4 := AutoSeq1.sub_tuple_list; have t5 := AutoSeq1.sub_list_tuple
    have hz' : (items ++ items2).size ≤ sizeLine + 1 := by rw [Array.size_append]; exact hs2
    wp_walk using (wpAny_updateSeq hl rfl (hz := hc1) (_hz' := hz')), wpAny_loadPart' hl, wpAny_loadPart' hb
    exact ⟨_, rfl, h⟩
def rExtendA (K : PySem.W.Frag) : V → List V → Hp → VK → Prop := fun x vs H Q => ∃ l b xs zs, x = .ref l ∧ vs = [.ref b] ∧ H l = some (.lst xs) ∧ SqL K H b zs ∧ xs.length + zs.length ≤ sizeLine ∧ Q .non (upd H l (.lst (xs ++ zs)))
theorem mt_extendA {X : Cx} : MtR X "list.extend" (rExtendA X.K) := by
  intro pins s σ H x vs v us Q I rx rv h
  obtain ⟨l, b, xs, zs, rfl, rfl, hH, hB, hz, q⟩ := h
  cases rx
  obtain ⟨u, rfl, ru⟩ := rv.one
  cases ru
  obtain ⟨z, its, n, r, hl, e⟩ := I.lstM hH
  obtain ⟨its2, r2, ⟨⟨cls2, dd2, data2, sl2⟩, n2, ho2, hc2, hdn, hd2⟩, hl2⟩ := I.list hB
  simp only at hc2 hd2 hdn
  subst hc2 hd2
  have h2 := r2.length
  have hsz : its.toArray.size + its2.toArray.size ≤ sizeLine := by rw [List.size_toArray, List.size_toArray]; omega
  have hlong : ¬ (!its.toArray.isEmpty && Builtin.List.listTooLong (its.toArray.size + its2.toArray.size)) = true := by
    rw [notLongL hsz, Bool.and_false]
    exact Bool.false_ne_true
  refine call_meets F.slot_list_extend ⟨_, e, rfl⟩ F.entry_list_extend (F.args_list_extend_2 _ _)
    (extendW l its.toArray n b its2.toArray n2 dd2 sl2 hlong (by rw [List.size_toArray]; omega) (by omega)) ⟨e, ho2, ?_⟩
  refine ⟨.non, _, I.lset (its' := its ++ its2) hH e (by simp) (r.append r2) ?_, rfl, q⟩
  rw [List.length_append]
  omega
section
variable {X : Cx}
theorem mg_append : MtG X rAppend fAppend := by
  intro C F H ι G w us x xs z G' Q hK s rw_ ru e hQ
  unfold fAppend at e
  split at e
  · rename_i i ws u q
    obtain ⟨rfl, hi⟩ := getL_inv q
    obtain ⟨ys, h1, h2⟩ := s.lst hi
    obtain ⟨y, rfl, ry⟩ := ru.inv1
    simp only [RpW] at rw_
    obtain ⟨hl, rfl⟩ := rw_
    by_cases c : Nat.blt ws.length 16777216 = true
    · rw [if_pos c] at e
      cases e
      refine ⟨_, ys, y, rfl, rfl, h1, by rw [sizeLine_eq, ← h2.length]; exact Nat.le_of_ble_eq_true c, hQ _ _ (out_wr s hi (h2.append (.one ry)) (by simp only [RpW, Rp]))⟩
    · rw [if_neg c] at e; cases e
  · cases e
theorem mg_pop : MtG X rPopA fPop := by
  intro C F H ι G w us x xs z G' Q hK s rw_ ru e hQ
  unfold fPop at e
  split at e
  · rename_i i ws q
    obtain ⟨rfl, hi⟩ := getL_inv q
    obtain ⟨ys, h1, h2⟩ := s.lst hi
    simp only [RpW] at rw_
    obtain ⟨hl, rfl⟩ := rw_
    obtain ⟨y, q2, e2⟩ := map_some e
    cases e2
    simp only [RpWL] at ru
    subst ru
    obtain ⟨v, hv, rv⟩ := h2.get q2
    exact .inl ⟨_, ys, v, rfl, rfl, h1, by rw [← h2.length]; exact hv, hQ _ _ (out_wr s hi h2.dropLast rv)⟩
  · rename_i i ws k q
    obtain ⟨rfl, hi⟩ := getL_inv q
    obtain ⟨ys, h1, h2⟩ := s.lst hi
    simp only [RpW] at rw_
    obtain ⟨hl, rfl⟩ := rw_
    by_cases c : fit62 k = true
    · rw [if_pos c] at e
      split at e
      · rename_i j hj
        obtain ⟨y, q2, e2⟩ := map_some e
        cases e2
        obtain ⟨y', rfl, ry⟩ := ru.inv1
        simp only [RpW, Rp] at ry
        subst ry
        unfold fit62 at c
        simp only [Bool.and_eq_true, decide_eq_true_eq] at c
        obtain ⟨v, hv, rv⟩ := h2.get q2
        exact .inr ⟨_, ys, k, j, v, rfl, rfl, h1, by omega, by omega, by rw [← h2.length]; exact hj, hv, hQ _ _ (out_wr s hi (h2.erase j) rv)⟩
      · cases e
    · rw [if_neg c] at e; cases e
  · cases e
theorem mg_extend : MtG X (rExtendA X.K) fExtend := by
  intro C F H ι G w us x xs z G' Q hK s rw_ ru e hQ
  unfold fExtend at e
  split at e
  · rename_i i ws u q
    obtain ⟨rfl, hi⟩ := getL_inv q
    obtain ⟨ys, h1, h2⟩ := s.lst hi
    obtain ⟨y, rfl, ry⟩ := ru.inv1
    simp only [RpW] at rw_
    obtain ⟨hl, rfl⟩ := rw_
    split at e
    · rename_i zs q2
      obtain ⟨a, vs, rfl, h3, h4⟩ := s.seq q2 ry
      rw [if_pos rfl, hK] at h3
      by_cases c : small (ws.length + zs.length) = true
      · rw [if_pos c] at e
        cases e
        exact ⟨_, a, ys, vs, rfl, rfl, h1, h3, by rw [← h2.length, ← h4.length]; exact small_le c, hQ _ _ (out_wr s hi (h2.append h4) (by simp only [RpW, Rp]))⟩
      · rw [if_neg c] at e; cases e
    · cases e
  · cases e
variable {o e : Expr} {es : List Expr} {go : GE} {gs : GEs} {apos cpos : Pos}
/-! the rules of one method each -/
abbrev Few (X : Cx) (cpos : Pos) (es : List Expr) : Prop := ((backTo cpos (starEach es X.env)).all (fun x => !x.1) && (backToKw cpos (keywordEach [] X.env)).all (fun x => x.1.isSome)
      && decide (es.length + ([] : List Keyword).length + (if ([] : List Keyword).isEmpty then 0 else 1) < 30)) = true
theorem ge_append (ho : GJE X o go) (ha : GJA X (e :: es) gs) (hbase : attributeBase o "append" X.env (eval o X.env) = eval o X.env := by rfl) (hfew : Few X cpos (e :: es) := by rfl)
    (hline : (apos.endLine == cpos.line) = true := by rfl) (hs : starEach (e :: es) X.env = (false, eval e X.env) :: starEach es X.env := by rfl) (hplain : (backTo cpos (starEach es X.env)).any (·.1) = false := by rfl) :
    GJE X (.Call (.Attribute o "append" apos) (e :: es) [] cpos) (gMt .lst fAppend go gs) := ge_mt (t := .lst) PySem.F.plainAttrs_list PySem.F.slot_list_append PySem.F.type_list_append mt_append mg_append ho ha (.inl rfl) hbase hfew hline hs hplain
theorem ge_extend (ho : GJE X o go) (ha : GJA X (e :: es) gs) (hbase : attributeBase o "extend" X.env (eval o X.env) = eval o X.env := by rfl) (hfew : Few X cpos (e :: es) := by rfl)
    (hline : (apos.endLine == cpos.line) = true := by rfl) (hs : starEach (e :: es) X.env = (false, eval e X.env) :: starEach es X.env := by rfl) (hplain : (backTo cpos (starEach es X.env)).any (·.1) = false := by rfl) :
    GJE X (.Call (.Attribute o "extend" apos) (e :: es) [] cpos) (gMt .lst fExtend go gs) := ge_mt (t := .lst) PySem.F.plainAttrs_list PySem.F.slot_list_extend PySem.F.type_list_extend mt_extendA mg_extend ho ha (.inl rfl) hbase hfew hline hs hplain
theorem ge_popAt (ho : GJE X o go) (ha : GJA X (e :: es) gs) (hbase : attributeBase o "pop" X.env (eval o X.env) = eval o X.env := by rfl) (hfew : Few X cpos (e :: es) := by rfl)
    (hline : (apos.endLine == cpos.line) = true := by rfl) (hs : starEach (e :: es) X.env = (false, eval e X.env) :: starEach es X.env := by rfl) (hplain : (backTo cpos (starEach es X.env)).any (·.1) = false := by rfl) :
    GJE X (.Call (.Attribute o "pop" apos) (e :: es) [] cpos) (gMt .lst fPop go gs) := ge_mt (t := .lst) PySem.F.plainAttrs_list PySem.F.slot_list_pop PySem.F.type_list_pop mt_popA mg_pop ho ha (.inl rfl) hbase hfew hline hs hplain
theorem ge_pop (ho : GJE X o go) (hbase : attributeBase o "pop" X.env (eval o X.env) = eval o X.env := by rfl) (hline : (apos.endLine == cpos.line) = true := by rfl) :
    GJE X (.Call (.Attribute o "pop" apos) [] [] cpos) (gMt .lst fPop go gNilA) := ge_mt0 (t := .lst) PySem.F.plainAttrs_list PySem.F.slot_list_pop PySem.F.type_list_pop mt_popA mg_pop ho (.inl rfl) hbase hline
end

/-! ### xs[i] = v -/
def fSetL (w u v : W) (G : Hg) : Option Hg := match getL w G, u with
  | some (i, ws), .d (.int k) => (ixN ws.length k).map fun j => G.set i (.lst (ws.set j v))
  | _, _ => none
theorem sg_list {X : Cx} : SetG X rSetL fSetL := by
  intro C F H ι G wo wi wv o i v G' Q hK s ro ri rv e hQ
  unfold fSetL at e
  split at e
  · rename_i n ws k q
    obtain ⟨rfl, hi⟩ := getL_inv q
    obtain ⟨ys, h1, h2⟩ := s.lst hi
    simp only [RpW] at ro
    obtain ⟨hl, rfl⟩ := ro
    simp only [RpW, Rp] at ri
    subst ri
    obtain ⟨j, q2, rfl⟩ := map_some e
    obtain ⟨F', ι', a, b, _⟩ := out_wr (w := .d .non) (v := .non) s hi (h2.set j rv) (by simp only [RpW, Rp])
    exact ⟨_, ys, k, j, rfl, rfl, h1, by rw [← h2.length]; exact q2, hQ _ ⟨F', ι', a, b⟩⟩
  · cases e
end Gh

set_option Elab.async false
set_option linter.all false
set_option maxRecDepth 100000
set_option maxHeartbeats 4000000
namespace Gh
open PySem PySem.Spec PyProof.Rows L2

/-! ### __init__ of an exception class: its fields are its parameters -/
/-- what it promises: self is an exception that is being made -/
def spI (K : PySem.W.Frag) (fs : List Str) : Sp := fun vs H Q _ => ∃ a C ys, vs = .ref a :: ys ∧ ys.length = fs.length ∧ H a = some (exo a C none) ∧ OexC K C ∧ (∀ f ∈ fs, PySem.W.findIn K (.ref C) f = some none) ∧
  ∀ dx, H dx = none → dx ≠ a → Q .non (upd (upd H a (exo a C (some dx))) dx (exd dx (fs.zip ys).reverse))
/-- self.f = p, for one field after the other; the slots of the parameters -/
inductive InitB (X : Cx) : List Stmt → List (Str × Nat) → Prop where
  | nil : InitB X [] []
  | cons {s x f : Str} {i : Nat} {p1 p2 p3 pos : Pos} {r : List Stmt} {l : List (Str × Nat)} (h0 : X.N[0]? = some s) (v0 : Vis X.env.scope s) (d0 : (s == ("__debug__" : Str)) = false) (c0 : (s == ("__classdict__" : Str)) = false)
      (hi : X.N[i]? = some x) (vi : Vis X.env.scope x) (di : (x == ("__debug__" : Str)) = false) (ci : (x == ("__classdict__" : Str)) = false) (hs : swapsWith (.Name x p3) (some (.Attribute (.Name s p1) f p2)) pos.line X.env = pure false) (t : InitB X r l) :
      InitB X (.Assign [.Attribute (.Name s p1) f p2] (.Name x p3) pos :: r) ((f, i) :: l)
/-- the second and later fields -/
theorem init_more {X : Cx} : ∀ {ss : List Stmt} {l : List (Str × Nat)}, InitB X ss l → PSs X ss (fun D σ H => ∃ (a C dx : Addr) (es : List (Str × V)) (ys : List V), σ[0]? = some (some (.ref a)) ∧ OexC X.K C ∧ (∀ f ∈ l.map (·.1), PySem.W.findIn X.K (.ref C) f = some none) ∧
    H a = some (exo a C (some dx)) ∧ H dx = some (exd dx es) ∧ es.length + l.length ≤ 900 ∧ ys.length = l.length ∧ (∀ (j : Nat) (p : Str × Nat), l[j]? = some p → ∃ y, ys[j]? = some y ∧ σ[p.2]? = some (some y)) ∧ dx ≠ a ∧
    D.nx σ (upd H dx (exd dx (((l.map (·.1)).zip ys).reverse ++ es))))
  | _, _, .nil => PSs.imp pss_nil fun D σ H ⟨a, C, dx, es, ys, h1, h2, h3, h4, h5, h6, h7, h8, hn, h9⟩ => by
    have e : upd H dx (exd dx es) = H := by
      funext b
      by_cases hb : b = dx
      · rw [hb, upd_same, h5]
      · rw [upd_ne hb]
    simp only [List.map_nil, List.zip_nil_left, List.reverse_nil, List.nil_append] at h9
    rw [e] at h9
    exact h9
  | _, _, .cons h0 v0 d0 c0 hi vi di ci hs t => by
    refine PSs.imp (pss_cons (ps_ost (pe_var h0 v0 d0 c0) (pe_var hi vi di ci) hs) (init_more t)) fun D σ H ⟨a, C, dx, es, ys, h1, h2, h3, h4, h5, h6, h7, h8, hn, h9⟩ => ?_
    cases ys with
    | nil => simp at h7
    | cons y ys =>
      obtain ⟨y', hy, hs'⟩ := h8 0 _ rfl
      simp only [List.getElem?_cons_zero, Option.some.injEq] at hy
      subst hy
      simp only [List.length_cons] at h6 h7
      refine ⟨y, hs', _, h1, a, C, rfl, h2, h3 _ (by simp), .inr ⟨dx, es, h4, h5, by omega, ?_⟩⟩
      refine ⟨a, C, dx, _ :: es, ys, h1, h2, fun f hf => h3 f (by simp only [List.map_cons, List.mem_cons]; exact .inr hf), by rw [upd_ne (Ne.symm hn)]; exact h4, upd_same, by simp only [List.length_cons]; omega, by omega, fun j p hp => h8 (j + 1) p hp, hn, ?_⟩
      rw [upd_upd]
      simpa using h9
/-- all of them -/
theorem init_all {X : Cx} {ss : List Stmt} {f : Str} {i : Nat} {l : List (Str × Nat)} (hb : InitB X ss ((f, i) :: l)) : PSs X ss (fun D σ H => ∃ (a C : Addr) (y : V) (ys : List V), σ[0]? = some (some (.ref a)) ∧ OexC X.K C ∧ (∀ g ∈ ((f, i) :: l).map (·.1), PySem.W.findIn X.K (.ref C) g = some none) ∧
    H a = some (exo a C none) ∧ l.length ≤ 800 ∧ ys.length = l.length ∧ σ[i]? = some (some y) ∧ (∀ (j : Nat) (p : Str × Nat), l[j]? = some p → ∃ y, ys[j]? = some y ∧ σ[p.2]? = some (some y)) ∧
    ∀ dx, H dx = none → dx ≠ a → D.nx σ (upd (upd H a (exo a C (some dx))) dx (exd dx (((f :: l.map (·.1)).zip (y :: ys)).reverse)))) := by
  cases hb with
  | cons h0 v0 d0 c0 hi vi di ci hs t =>
    refine PSs.imp (pss_cons (ps_ost (pe_var h0 v0 d0 c0) (pe_var hi vi di ci) hs) (init_more t)) fun D σ H ⟨a, C, y, ys, h1, h2, h3, h4, h5, h6, h7, h8, h9⟩ => ?_
    refine ⟨y, h7, _, h1, a, C, rfl, h2, h3 _ (by simp), .inl ⟨h4, fun dx n ne => ?_⟩⟩
    have e1 : upd (upd H dx (exd dx [(f, y)])) a (exo a C (some dx)) = upd (upd H a (exo a C (some dx))) dx (exd dx [(f, y)]) := by
      funext b
      by_cases hb : b = a
      · rw [hb, upd_same, upd_ne (Ne.symm ne), upd_same]
      · by_cases hd : b = dx
        · rw [hd, upd_ne ne, upd_same, upd_same]
        · rw [upd_ne hb, upd_ne hd, upd_ne hd, upd_ne hb]
    refine ⟨a, C, dx, [(f, y)], ys, h1, h2, fun g hg => h3 g (by simp only [List.map_cons, List.mem_cons]; exact .inr hg), upd_same, by rw [upd_ne ne, upd_same], by simp only [List.length_cons, List.length_nil]; omega, h6, h8, ne, ?_⟩
    have q := h9 dx n ne
    rw [e1, upd_upd]
    simpa using q
theorem fn_init {P : Program} {w : World} {K : PySem.W.Frag} {mg : Str → Option Value} {base : Heap} {x qual f : Str} {st : Stmt} {fa : Addr} {fd : FuncData} {N ps : List Str} {i : Nat} {l : List (Str × Nat)} {dvs : List V} {kws : List (Str × V)} (F : FunD K x qual (defArgs st) (defBody st) (defScope st) dvs kws fa fd) (S : FnScope N ps (defScope st))
    (hl : ps.length = l.length + 2) (hi : i < ps.length) (hix : ((f, i) :: l).map (·.2) = (List.range (l.length + 1)).map (· + 1)) (hsm : l.length ≤ 800)
    (hb : ∀ (cdv : Value) (A : Around) (outer : List Env) (s : Shared) (H : Hp) (E : XK), InitB (bodyX P w K mg base N qual (defScope st) fa cdv A outer s H E) (defBody st) ((f, i) :: l)) :
    FnOk P w K mg base (L2.CX P w) 1 fa fd ps (spI K (f :: l.map (·.1))) := by
  refine FunD.ok (CX := L2.CX P w) F S (fun vs H Q E ⟨a, C, ys, e, h, _⟩ => by rw [e, List.length_cons, h, List.length_cons, List.length_map, hl]) (fun cdv A outer s H vs Q E hr ⟨a, C, ys, e, h, ha, hT, hf, hq⟩ => ?_)
  refine ⟨_, init_all (hb cdv A outer s H E), ?_⟩
  subst e
  simp only [List.length_cons, List.length_map] at h
  have at_ : ∀ (j : Nat) (p : Str × Nat), ((f, i) :: l)[j]? = some p → p.2 = j + 1 := fun j p hp => by
    have q : (((f, i) :: l).map (·.2))[j]? = some p.2 := by rw [List.getElem?_map, hp]; rfl
    rw [hix, List.getElem?_map] at q
    have hj : j < l.length + 1 := by
      rcases Nat.lt_or_ge j (l.length + 1) with z | z
      · exact z
      · rw [List.getElem?_eq_none (by simpa using z)] at q; cases q
    rw [List.getElem?_range hj] at q
    simpa using q.symm
  have sl : ∀ (j : Nat), (L2.start N (.ref a :: ys))[j]? = (((V.ref a :: ys).map some ++ List.replicate (N.length - (ys.length + 1)) none))[j]? := fun j => by unfold L2.start; rfl
  have get : ∀ (j : Nat) (y : V), ys[j]? = some y → (L2.start N (.ref a :: ys))[j + 1]? = some (some y) := fun j y hy => by
    rw [sl]
    have hj : j < ys.length := (List.getElem?_eq_some_iff.mp hy).1
    rw [List.getElem?_append_left (by simp; omega)]
    simp [hy]
  cases ys with
  | nil => simp at h
  | cons y ys =>
    simp only [List.length_cons] at h
    have ei : i = 1 := at_ 0 _ rfl
    refine ⟨a, C, y, ys, by rw [sl]; rfl, hT, fun g hg => hf g hg, ha, hsm, by omega, by rw [ei]; exact get 0 y rfl, fun j p hp => ?_, fun dx n ne => hq dx n ne⟩
    have e2 := at_ (j + 1) p hp
    have hj : j < ys.length := by
      have := (List.getElem?_eq_some_iff.mp hp).1
      omega
    exact ⟨ys[j], List.getElem?_eq_getElem hj, by rw [e2]; exact get (j + 1) _ (List.getElem?_eq_getElem hj)⟩
end Gh

set_option Elab.async false
set_option linter.all false
set_option maxRecDepth 100000
set_option maxHeartbeats 4000000
namespace Gh
open PySem PySem.Spec PyProof.Rows L2

/-! ### o.f -/
def tFldA (K : PySem.W.Frag) (ta : TE) (f : Str) : TE := fun σ H Q => ta σ H fun x H1 => ∃ a C es v, x = .ref a ∧ InsAt K H1 a C es ∧ NoAttr K C f ∧ es.lookup f = some v ∧ Q v H1
theorem exo_inst {X : Cx} {pins : List (Addr × Obj)} {σ : L2.St} {H : Hp} {s : Shared} {a C dx : Addr} {es : List (Str × V)} (I : Inv X pins σ H s) (h : H a = some (exo a C (some dx))) (hd : H dx = some (exd dx es)) :
    ∃ (ox od : Obj) (mA : Str → Option Value), PySem.W.InstAt s.heap a ox C (some od) ∧ (∀ name, PySem.W.lookIn name od = some (mA name)) ∧ ∀ f, RelO (es.lookup f) (mA f) := by
  obtain ⟨t1, h1⟩ := exo_at I.hok h
  obtain ⟨mA, hn, hr⟩ := exd_at I.hok hd
  obtain ⟨od, ho, hl⟩ := lookIn_ns hn
  exact ⟨_, od, mA, ⟨h1, rfl, rfl, ho⟩, hl, hr⟩
theorem exo_inst0 {X : Cx} {pins : List (Addr × Obj)} {σ : L2.St} {H : Hp} {s : Shared} {a C : Addr} (I : Inv X pins σ H s) (h : H a = some (exo a C none)) :
    ∃ ox, PySem.W.InstAt s.heap a ox C none := by
  obtain ⟨t1, h1⟩ := exo_at I.hok h
  exact ⟨_, h1, rfl, rfl, trivial⟩
theorem exh_inst {X : Cx} {pins : List (Addr × Obj)} {σ : L2.St} {H : Hp} {s : Shared} {a C dx : Addr} {es : List (Str × V)} (I : Inv X pins σ H s) (h : H a = some (exh a C (some dx))) (hd : H dx = some (.xd es)) :
    ∃ (ox od : Obj) (mA : Str → Option Value), PySem.W.InstAt s.heap a ox C (some od) ∧ (∀ name, PySem.W.lookIn name od = some (mA name)) ∧ ∀ f, RelO (es.lookup f) (mA f) := by
  obtain ⟨⟨oe, vs, h1, h2, h3, h4⟩, _⟩ := I.hok _ _ h
  obtain ⟨mA, hn, hr⟩ := I.hok _ _ hd
  obtain ⟨od, ho, hl⟩ := lookIn_ns hn
  refine ⟨oe, od, mA, ⟨h1, h2, by unfold PySem.W.notCls; rw [h4], ?_⟩, hl, hr⟩
  rw [h3]; exact ho
theorem exh_inst0 {X : Cx} {pins : List (Addr × Obj)} {σ : L2.St} {H : Hp} {s : Shared} {a C : Addr} (I : Inv X pins σ H s) (h : H a = some (exh a C none)) :
    ∃ ox, PySem.W.InstAt s.heap a ox C none := by
  obtain ⟨⟨oe, vs, h1, h2, h3, h4⟩, _⟩ := I.hok _ _ h
  refine ⟨oe, h1, h2, by unfold PySem.W.notCls; rw [h4], ?_⟩
  rw [h3]; trivial
theorem pe_fldA {X : Cx} {e : Expr} {f : Str} {ta : TE} {pos : Pos} (he : PE X e ta) (hb : attributeBase e f X.env (eval e X.env) = eval e X.env) : PE X (.Attribute e f pos) (tFldA X.K ta f) := by
  refine ⟨fun pins s σ H Q I h => ?_⟩
  refine attr_of hb (thn (he.run pins s σ H _ I h) fun u s1 ⟨x, H1, I1, rx, a, C, es, v, ex, ea, hno, l, q⟩ => ?_)
  subst ex
  obtain rfl : u = Value.ref a := rx
  cases ea with
  | ins dx c h => exact getattr_ok I1 h c.cl hno l fun u' s2 I2 ru => ⟨v, H1, I2, ru, q⟩
  | exc dx c h hd =>
    obtain ⟨ox, od, mA, J, hl, hr⟩ := exo_inst I1 h hd
    obtain ⟨u, hu, ru⟩ := RelO.some_of (v := v) (o := mA f) (by rw [← l]; exact hr f)
    exact HandSPX.exc_get I1.kIn J c.hg c.hk c.hs (PySem.W.findObj_own c.hd hno rfl (by rw [hl, hu])) (handed_of ru) ⟨v, H1, I1.tok _, ru, q⟩
  | exc0 c h he => rw [he] at l; cases l
  | hot dx c h hd =>
    obtain ⟨ox, od, mA, J, hl, hr⟩ := exh_inst I1 h hd
    obtain ⟨u, hu, ru⟩ := RelO.some_of (v := v) (o := mA f) (by rw [← l]; exact hr f)
    exact HandSPX.exc_get I1.kIn J c.hg c.hk c.hs (PySem.W.findObj_own c.hd hno rfl (by rw [hl, hu])) (handed_of ru) ⟨v, H1, I1.tok _, ru, q⟩
  | hot0 c h he => rw [he] at l; cases l
/-- none of these classes has the name -/
def NoAt (M : Md) (cs : List Str) (f : Str) : Prop := ∀ c ∈ cs, ∀ C, M.mg c = some (.ref C) → NoAttr M.K C f
theorem noAt_nil {M : Md} {f : Str} : NoAt M [] f := fun c hc => by cases hc
theorem noAt_cons {M : Md} {c f : Str} {C : Addr} {cs : List Str} (h : M.mg c = some (.ref C)) (n : PySem.W.findIn M.K (.ref C) f = some none) (r : NoAt M cs f) : NoAt M (c :: cs) f := fun x hx D hD => by
  rcases List.mem_cons.mp hx with z | z
  · subst z
    rw [h] at hD
    cases hD
    exact n
  · exact r x z D hD
def insW : W → Hg → Option (Str × List (Str × W))
  | .d (.ins c fs), _ => some (c, fs.map fun p => (p.1, .d p.2))
  | .ref i, G => match G[i]? with
    | some (.ins c fs) => some (c, fs)
    | _ => none
  | _, _ => none
def fldW (cs : List Str) (f : Str) (w : W) (G : Hg) : Option W := match insW w G with
  | some (c, fs) => if cs.contains c then fs.lookup f else none
  | none => none
theorem RpF.wf {M : Md} {F : Hp} {ι : Nat → Addr} {n : Nat} : ∀ {fs : List (Str × D)} {es : List (Str × V)}, RpF M F fs es → RpWF M F ι n (fs.map fun p => (p.1, .d p.2)) es
  | [], es, h => by simpa only [RpF, List.map_nil, RpWF] using h
  | (k, d) :: fs, es, h => by
    simp only [RpF] at h
    obtain ⟨x, er, rfl, h1, h2⟩ := h
    simp only [List.map_cons, RpWF, RpW]
    exact ⟨x, er, rfl, h1, RpF.wf h2⟩
theorem RpWF.look {M : Md} {F : Hp} {ι : Nat → Addr} {n : Nat} {f : Str} {w : W} : ∀ {fs : List (Str × W)} {es : List (Str × V)}, RpWF M F ι n fs es → fs.lookup f = some w → ∃ v, es.lookup f = some v ∧ RpW M F ι n w v
  | [], es, _, e => by cases e
  | (k, u) :: fs, es, h, e => by
    simp only [RpWF] at h
    obtain ⟨x, er, rfl, h1, h2⟩ := h
    rw [List.lookup_cons] at e ⊢
    cases q : f == k with
    | true => rw [q] at e; cases e; exact ⟨x, rfl, h1⟩
    | false => rw [q] at e; exact RpWF.look h2 e
theorem Sim.insV {C : GC} {F H : Hp} {ι : Nat → Addr} {G : Hg} {w : W} {c : Str} {fs : List (Str × W)} {v : V} (s : Sim C F H ι G) (e : insW w G = some (c, fs)) (r : RpW C.m F ι G.length w v) :
    ∃ a Ca es, v = .ref a ∧ C.m.mg c = some (.ref Ca) ∧ InsAt C.m.K H a Ca es ∧ RpWF C.m F ι G.length fs es := by
  cases w with
  | d x =>
    cases x with
    | ins c' fs' =>
      cases e
      simp only [RpW, Rp] at r
      obtain ⟨a, Ca, es, h1, h2, h3, h4⟩ := r
      exact ⟨a, Ca, es, h1, h2, h3.mono s.fh, h4.wf⟩
    | _ => cases e
  | tup ws => cases e
  | ref i =>
    simp only [insW] at e
    simp only [RpW] at r
    obtain ⟨hi, rfl⟩ := r
    cases q : G[i]? with
    | none => rw [q] at e; cases e
    | some o =>
      rw [q] at e
      cases o with
      | ins c' fs' =>
        cases e
        obtain ⟨_, _, Ca, dx, es, h0, hc, h1, h2⟩ := s.live i _ q (fun z => by cases z)
        exact ⟨_, Ca, es, rfl, h0, .ins dx hc h1, h2⟩
      | _ => cases e
def gFld (cs : List Str) (f : Str) (a : GE) : GE := fun ρ G => (a ρ G).bind fun w G1 => liftP (fldW cs f w G1) G1
section
variable {X : Cx} {e : Expr} {ge : GE} {f : Str} {cs : List Str} {pos : Pos}
theorem ge_fld (hn : NoAt (md X) cs f) (he : GJE X e ge) (hb : attributeBase e f X.env (eval e X.env) = eval e X.env := by rfl) : GJE X (.Attribute e f pos) (gFld cs f ge) := ⟨fun B F0 wx tk => by
  refine PE.imp (pe_fldA (he.run B F0 wx tk) hb) fun σ H Q ⟨F, ι, ρ, G, s, hr, hp⟩ => ?_
  refine ⟨F, ι, ρ, G, s, hr, (Post.fst hp).imp fun v H1 ⟨F1, ι1, w, G1, e1, s1, r1, p1⟩ => ?_⟩
  cases q : fldW cs f w G1 with
  | none => rw [q] at p1; exact p1.elim
  | some z =>
    rw [q] at p1
    unfold fldW at q
    cases q2 : insW w G1 with
    | none => rw [q2] at q; cases q
    | some p =>
      obtain ⟨c, fs⟩ := p
      rw [q2] at q
      simp only at q
      by_cases hc : cs.contains c = true
      · rw [if_pos hc] at q
        obtain ⟨a, Ca, es, rfl, h2, h3, h4⟩ := s1.insV q2 r1
        obtain ⟨x, h5, h6⟩ := h4.look q
        exact ⟨a, Ca, es, x, rfl, h3, hn c (by simpa using hc) Ca h2, h5, p1 x H1 (out_w s1 h6)⟩
      · rw [if_neg hc] at q; cases q⟩
end

/-! ### isinstance, own classes too -/
inductive TyE (K : PySem.W.Frag) (H : Hp) : V → Value → Prop where
  | x {v : V} {t : Value} (h : TyX K H v t) : TyE K H v t
  | i {a Ca : Addr} {es : List (Str × V)} (h : InsAt K H a Ca es) : TyE K H (.ref a) (.ref Ca)
theorem excC_cls {K : PySem.W.Frag} {Ca : Addr} (c : ExcC K Ca) : (PySem.W.clsIn K Ca).isSome = true := by
  obtain ⟨cd, h, _⟩ := PySem.W.any_some c.hd
  rw [h]
  rfl
theorem kit_ofE {X : Cx} {pins : List (Addr × Obj)} {σ : L2.St} {H : Hp} {s : Shared} {x : V} {u t : Value} (I : Inv X pins σ H s) (rx : RelV x u) (ty : TyE X.K H x t) : ∃ P : Heap → Prop, PySem.W.KitX X.K u t P ∧ P s.heap ∧ u ≠ .builtin "__main__.__loader__#opaque" := by
  cases ty with
  | x h => exact kit_of I rx h
  | i h =>
    cases (show u = Value.ref _ from rx)
    cases h with
    | ins dx c h => exact kit_of (x := .ref _) I rfl (.base (.ins h c.cl c.ha c.hn c.ht c.hm))
    | exc dx c h hd =>
      obtain ⟨ox, od, mA, J, _, _⟩ := exo_inst I h hd
      exact ⟨_, PySem.W.kitx_exc (excC_cls c) c.hg c.hk c.hs c.ha c.hn c.ht c.hm, J, fun z => nomatch z⟩
    | exc0 c h he =>
      obtain ⟨ox, J⟩ := exo_inst0 I h
      exact ⟨_, PySem.W.kitx_exc (excC_cls c) c.hg c.hk c.hs c.ha c.hn c.ht c.hm, J, fun z => nomatch z⟩
    | hot dx c h hd =>
      obtain ⟨ox, od, mA, J, _, _⟩ := exh_inst I h hd
      exact ⟨_, PySem.W.kitx_exc (excC_cls c) c.hg c.hk c.hs c.ha c.hn c.ht c.hm, J, fun z => nomatch z⟩
    | hot0 c h he =>
      obtain ⟨ox, J⟩ := exh_inst0 I h
      exact ⟨_, PySem.W.kitx_exc (excC_cls c) c.hg c.hk c.hs c.ha c.hn c.ht c.hm, J, fun z => nomatch z⟩
def rIsiE (K : PySem.W.Frag) : List V → Hp → VK → Prop := fun xs H Q => ∃ (x c : V) (t u : Value) (b : Bool), xs = [x, c] ∧ ClsV c u ∧ TyE K H x t ∧ PySem.W.kitOne K t u = some b ∧ Q (.bl b) H
def rIsiET (K : PySem.W.Frag) : List V → Hp → VK → Prop := fun xs H Q => ∃ (x : V) (tp : Addr) (cs : List V) (t : Value) (us : List Value) (b : Bool), xs = [x, .ref tp] ∧ H tp = some (.tup cs) ∧ Paired ClsV cs us ∧ TyE K H x t ∧ PySem.W.kitAny K t us = some b ∧ Q (.bl b) H
theorem call_isiE {X : Cx} : CallR X (.builtin "isinstance") (rIsiE X.K) := by
  intro pins s σ H xs us Q I r h
  obtain ⟨x, c, t, u, b, rfl, k, ty, e, q⟩ := h
  obtain ⟨u1, u2, rfl, r1, r2⟩ := vals2 r
  have e2 := k.eq r2
  subst e2
  obtain ⟨P, Z, p, hx⟩ := kit_ofE I r1 ty
  exact PySem.W.kia_one Z I.kIn p e hx fun tk => ⟨V.bl b, H, I.tok tk, rfl, q⟩
theorem call_isiET {X : Cx} : CallR X (.builtin "isinstance") (rIsiET X.K) := by
  intro pins s σ H xs us Q I r h
  obtain ⟨x, tp, cs, t, ws, b, rfl, hT, k, ty, e, q⟩ := h
  obtain ⟨u1, u2, rfl, r1, r2⟩ := vals2 r
  cases (show u2 = Value.ref tp from r2)
  obtain ⟨P, Z, p, hx⟩ := kit_ofE I r1 ty
  obtain ⟨_, its, rv, ob, h1, h2, n, h3⟩ := (show ObjOk X.prog X.w H s.heap tp (.tup cs) from I.hok tp _ hT)
  have e3 := ClsV.all k rv
  subst e3
  obtain ⟨oc, od, dt, sl⟩ := ob
  simp only at h2 h3
  subst h2 h3
  exact PySem.W.kia_tup Z I.kIn p h1 e hx fun tk => ⟨V.bl b, H, I.tok tk, rfl, q⟩
/-- what a value is: of a built-in type, or of an own class -/
inductive Tc where
  | b (t : Ty) | o (c : Str)
def tcW (w : W) (G : Hg) : Option Tc := match tyW w G with
  | some t => some (.b t)
  | none => (insW w G).map fun p => .o p.1
/-- the answers for one class or several -/
structure KitT (M : Md) (us : List Value) (f : Tc → Option Bool) : Prop where
  b : ∀ t r, f (.b t) = some r → PySem.W.kitAny M.K (.type t.name) us = some r
  o : ∀ c Ca r, f (.o c) = some r → M.mg c = some (.ref Ca) → PySem.W.kitAny M.K (.ref Ca) us = some r
theorem Sim.tc {C : GC} {F H : Hp} {ι : Nat → Addr} {G : Hg} {w : W} {t : Tc} {v : V} {us : List Value} {f : Tc → Option Bool} {r : Bool} (s : Sim C F H ι G) (e : tcW w G = some t) (k : KitT C.m us f) (hf : f t = some r) (rr : RpW C.m F ι G.length w v) :
    ∃ tv, TyE C.m.K H v tv ∧ PySem.W.kitAny C.m.K tv us = some r := by
  unfold tcW at e
  cases q : tyW w G with
  | some ty =>
    rw [q] at e
    cases e
    exact ⟨_, .x (s.ty q rr), k.b _ _ hf⟩
  | none =>
    rw [q] at e
    obtain ⟨p, q2, rfl⟩ := map_some e
    obtain ⟨c, fs⟩ := p
    obtain ⟨a, Ca, es, rfl, h2, h3, h4⟩ := s.insV q2 rr
    exact ⟨_, .i h3, k.o _ _ _ hf h2⟩
def gIsc (f : Tc → Option Bool) (a : GE) : GE := fun ρ G => (a ρ G).bind fun w G1 => match tcW w G1 with
  | some t => (match f t with
    | some r => .ok (.d (.bl r)) G1
    | none => .stuck)
  | none => .stuck
/-- the names of classes, and what they are -/
inductive ClsNm (X : Cx) : List Expr → List V → List Value → Prop where
  | nil : ClsNm X [] [] []
  | ty {x : Str} {p : Pos} {es : List Expr} {vs : List V} {us : List Value} (T : String) (hv : bootBuiltins x = some (.type T)) (hx : X.mg x = none) (hg : Gl X x) (hn : x ≠ "__name__") (hd : (x == ("__debug__" : Str)) = false)
      (hs : starEach (.Name x p :: es) X.env = (false, eval (.Name x p) X.env) :: starEach es X.env) (r : ClsNm X es vs us) : ClsNm X (.Name x p :: es) (.ty T :: vs) (.type T :: us)
  | own {x : Str} {p : Pos} {es : List Expr} {vs : List V} {us : List Value} (C : Addr) (hx : X.mg x = some (.ref C)) (hg : Gl X x) (hd : (x == ("__debug__" : Str)) = false)
      (hs : starEach (.Name x p :: es) X.env = (false, eval (.Name x p) X.env) :: starEach es X.env) (r : ClsNm X es vs us) : ClsNm X (.Name x p :: es) (.ref C :: vs) (.ref C :: us)
theorem ClsNm.pa {X : Cx} : ∀ {es : List Expr} {vs : List V} {us : List Value}, ClsNm X es vs us → PA X es (fun σ H Q => Q vs H)
  | _, _, _, .nil => pa_nil
  | _, _, _, .ty t hv hx hg hn hd hs r => PA.imp (pa_cons (pe_bltn (v := .ty _) hg hx hv rfl hn hd) r.pa hs) fun _ _ _ h => h
  | _, _, _, .own C hx hg hd hs r => PA.imp (pa_cons (pe_glob (v := .ref C) hg hx rfl hd) r.pa hs) fun _ _ _ h => h
theorem ClsNm.pair {X : Cx} : ∀ {es : List Expr} {vs : List V} {us : List Value}, ClsNm X es vs us → Paired ClsV vs us
  | _, _, _, .nil => .nil
  | _, _, _, .ty t hv hx hg hn hd hs r => .cons (.ty _) r.pair
  | _, _, _, .own C hx hg hd hs r => .cons (.own _) r.pair
theorem kitAny_one {K : PySem.W.Frag} {t u : Value} {r : Bool} (h : PySem.W.kitAny K t [u] = some r) : PySem.W.kitOne K t u = some r := by
  unfold PySem.W.kitAny at h
  cases q : PySem.W.kitOne K t u with
  | none => rw [q] at h; cases h
  | some b =>
    rw [q] at h
    cases b with
    | true => exact h
    | false => exact h
section
variable {X : Cx} {e : Expr} {ge : GE} {p p1 p2 pos : Pos} {f : Tc → Option Bool}
theorem ge_isc {x : Str} {vs : List V} {us : List Value} (hm : X.mg "isinstance" = none) (he : GJE X e ge) (hc : ClsNm X [.Name x p1] vs us) (k : KitT (md X) us f) (hg : Gl X "isinstance" := by rfl)
    (hs : starEach [e, .Name x p1] X.env = (false, eval e X.env) :: starEach [.Name x p1] X.env := by rfl) (hpl : (backTo pos (starEach [.Name x p1] X.env)).any (·.1) = false := by rfl) :
    GJE X (.Call (.Name "isinstance" p) [e, .Name x p1] [] pos) (gIsc f ge) := ⟨fun B F0 wx tk => by
  refine PE.imp (pe_callB call_isiE hg hm (by decide +kernel) (pa_cons (he.run B F0 wx tk) hc.pa hs) (by decide) (by decide) hs hpl) fun σ H Q ⟨F, ι, ρ, G, s, hr, hp⟩ => ?_
  refine ⟨F, ι, ρ, G, s, hr, (Post.fst hp).imp fun v H1 ⟨F1, ι1, w, G1, e1, s1, r1, q1⟩ => ?_⟩
  cases q : tcW w G1 with
  | none => rw [q] at q1; exact q1.elim
  | some t =>
    rw [q] at q1
    simp only at q1
    cases q2 : f t with
    | none => rw [q2] at q1; exact q1.elim
    | some r =>
      rw [q2] at q1
      obtain ⟨tv, h1, h2⟩ := s1.tc q k q2 r1
      have pr := hc.pair
      cases hc with
      | ty t hv hx hg hn hd hs r =>
        cases r
        exact ⟨v, _, tv, _, _, rfl, .ty _, h1, kitAny_one h2, q1 _ _ (out_flat s1 rpB)⟩
      | own C hx hg hd hs r =>
        cases r
        exact ⟨v, _, tv, _, _, rfl, .own _, h1, kitAny_one h2, q1 _ _ (out_flat s1 rpB)⟩⟩
theorem InsAt.there {K : PySem.W.Frag} {F : Hp} {a Ca : Addr} {es : List (Str × V)} (h : InsAt K F a Ca es) : ∃ o, F a = some o := by
  cases h with
  | ins dx c h => exact ⟨_, h⟩
  | exc dx c h hd => exact ⟨_, h⟩
  | exc0 c h he => exact ⟨_, h⟩
  | hot dx c h hd => exact ⟨_, h⟩
  | hot0 c h he => exact ⟨_, h⟩
theorem ge_iscT {es : List Expr} {n : Nat} {vs : List V} {us : List Value} (hm : X.mg "isinstance" = none) (he : GJE X e ge) (hc : ClsNm X es vs us) (k : KitT (md X) us f) (hl : small vs.length = true := by rfl) (hg : Gl X "isinstance" := by rfl)
    (hs : starEach [e, .Tuple es n p1] X.env = (false, eval e X.env) :: starEach [.Tuple es n p1] X.env := by rfl) (hs2 : starEach [.Tuple es n p1] X.env = (false, eval (.Tuple es n p1) X.env) :: starEach [] X.env := by rfl) (hpl : (backTo pos (starEach [.Tuple es n p1] X.env)).any (·.1) = false := by rfl) :
    GJE X (.Call (.Name "isinstance" p) [e, .Tuple es n p1] [] pos) (gIsc f ge) := ⟨fun B F0 wx tk => by
  refine PE.imp (pe_callB call_isiET hg hm (by decide +kernel) (pa_cons (he.run B F0 wx tk) (pa_cons (pe_tup hc.pa) pa_nil hs2) hs) (by decide) (by decide) hs hpl) fun σ H Q ⟨F, ι, ρ, G, s, hr, hp⟩ => ?_
  refine ⟨F, ι, ρ, G, s, hr, (Post.fst hp).imp fun v H1 ⟨F1, ι1, w, G1, e1, s1, r1, q1⟩ => ?_⟩
  cases q : tcW w G1 with
  | none => rw [q] at q1; exact q1.elim
  | some t =>
    rw [q] at q1
    simp only at q1
    cases q2 : f t with
    | none => rw [q2] at q1; exact q1.elim
    | some r =>
      rw [q2] at q1
      refine ⟨small_le hl, fun tp htp => ?_⟩
      have s2 := s1.drop (o := .tup vs) htp
      obtain ⟨tv, h1, h2⟩ := s2.tc q k q2 r1
      exact ⟨v, tp, vs, tv, us, _, rfl, upd_same, hc.pair, h1, h2, q1 _ _ (out_flat s2 rpB)⟩⟩
end
end Gh

set_option Elab.async false
set_option linter.all false
set_option maxRecDepth 100000
set_option maxHeartbeats 4000000
namespace Gh
open PySem PySem.Spec PyProof.Rows L2

/-! ### exceptions are made -/
/-- the exception class c, its __init__ with these fields -/
structure ClsX (P : Program) (w : World) (K : PySem.W.Frag) (mg : Str → Option Value) (base : Heap) (c : Str) (fs : List Str) : Prop where
  ex : ∃ (C fI : Addr) (fd : FuncData) (ps : List Str), mg c = some (.ref C) ∧ OexC K C ∧ ExcC K C ∧ PySem.W.findIn K (.ref C) "__init__" = some (some (.ref fI)) ∧ PySem.W.typeIn K (.ref fI) = some (.type "function") ∧
    FnOk P w K mg base (L2.CX P w) 1 fI fd ps (spI K fs) ∧ Binds K fd ps [] ∧ (∀ f ∈ fs, PySem.W.findIn K (.ref C) f = some none)
/-- the exception class c, without an own __init__ -/
structure ClsX0 (K : PySem.W.Frag) (mg : Str → Option Value) (c : Str) : Prop where
  ex : ∃ (C : Addr), mg c = some (.ref C) ∧ OexC K C ∧ ExcC K C ∧ ∃ (B initId : String) (bmB : List Value) (newId : String), ExcBaseFacts B newId initId bmB ∧ PySem.W.excIn K C bmB newId = true
def mkX (c : Str) (fs : List Str) (ds : List D) : D := .ins c (fs.zip ds).reverse
def gMkX (c : Str) (fs : List Str) (a : GEs) : GE := fun ρ G => (a ρ G).bind fun ws G1 => match allD ws with
  | some ds => if ds.length = fs.length ∧ fs.length ≤ 900 then .ok (.d (mkX c fs ds)) G1 else .stuck
  | none => .stuck
def gRaise (c : Str) (fs : List Str) (a : GEs) : GS := fun ρ G => (a ρ G).toS ρ fun ws G1 => match allD ws with
  | some ds => if ds.length = fs.length ∧ fs.length ≤ 900 then .exc ⟨c, (fs.zip ds).reverse⟩ ρ G1 else .stuck
  | none => .stuck
theorem RpL.length {M : Md} {F : Hp} : ∀ {ds : List D} {xs : List V}, RpL M F ds xs → ds.length = xs.length
  | [], xs, h => by simp only [RpL] at h; subst h; rfl
  | d :: ds, xs, h => by
    simp only [RpL] at h
    obtain ⟨x, r, rfl, _, h2⟩ := h
    simp [RpL.length h2]
theorem RpF.app {M : Md} {F : Hp} : ∀ {fs gs : List (Str × D)} {es hs : List (Str × V)}, RpF M F fs es → RpF M F gs hs → RpF M F (fs ++ gs) (es ++ hs)
  | [], gs, es, hs, h, k => by simp only [RpF] at h; subst h; simpa using k
  | (n, d) :: fs, gs, es, hs, h, k => by
    simp only [RpF] at h
    obtain ⟨x, r, rfl, h1, h2⟩ := h
    simp only [List.cons_append, RpF]
    exact ⟨x, _, rfl, h1, h2.app k⟩
theorem rpF_zip {M : Md} {F : Hp} : ∀ {ns : List Str} {ds : List D} {xs : List V}, RpL M F ds xs → RpF M F (ns.zip ds).reverse (ns.zip xs).reverse
  | [], ds, xs, h => by simp [RpF]
  | n :: ns, [], xs, h => by simp only [RpL] at h; subst h; simp [RpF]
  | n :: ns, d :: ds, xs, h => by
    simp only [RpL] at h
    obtain ⟨x, r, rfl, h1, h2⟩ := h
    simp only [List.zip_cons_cons, List.reverse_cons]
    refine (rpF_zip h2).app ?_
    simp only [RpF]
    exact ⟨x, [], rfl, h1, rfl⟩
/-- the value -/
def tMkV (C : Addr) (sp : Sp) (ta : TA) : TE := fun σ H Q => ta σ H fun vs H1 => vs.length ≤ 1000 ∧ ∀ a, H1 a = none → sp (.ref a :: vs) (upd H1 a (exo a C none)) (fun v H2 => Q (.ref a) H2) (fun _ _ _ => False)
theorem pe_mkV {X : Cx} {x : Str} {C fI : Addr} {k : Nat} {fd : FuncData} {ps : List Str} {sp : Sp} {e : Expr} {es : List Expr} {ta : TA} {p pos : Pos} (T : OexC X.K C) (iC : PySem.W.findIn X.K (.ref C) "__init__" = some (some (.ref fI))) (tI : PySem.W.typeIn X.K (.ref fI) = some (.type "function"))
    (F1 : FnOk X.prog X.w X.K X.mg X.base (L2.CX X.prog X.w) k fI fd ps sp) (hr : Room (k + 1) X.A) (hb : Binds X.K fd ps []) (hx : Passes (L2.CX X.prog X.w) X (fun _ _ _ => False)) (hnn : ∀ vs H Q E, sp vs H Q E → sp vs H (fun v H2 => v = .non ∧ Q v H2) E) (hg : Gl X x) (hm : X.mg x = some (.ref C)) (ha : PA X (e :: es) ta)
    (hdb : (x == ("__debug__" : Str)) = false := by decide) (he : starEach (e :: es) X.env = (false, eval e X.env) :: starEach es X.env := by rfl) (hpl : (backTo pos (starEach es X.env)).any (·.1) = false := by rfl) :
    PE X (.Call (.Name x p) (e :: es) [] pos) (tMkV C sp ta) := by
  refine ⟨fun pins s σ H Q I h => ?_⟩
  obtain ⟨nm, q, N, bs, bm, sn, sub, ab, col, dd, k0, k1, k2, k3, k5, hC, hbm⟩ := T.cls
  refine wpAny_Call_Name_kw (ld_glob I hg hm ?_ hdb)
  refine PySem.W.callWith_K (h₀ := X.base) I.ok.mod.kin T.kC (thn (ha.run pos pins s σ H _ I h) fun us s1 ⟨vs, H1, I1, r1, hz, q1⟩ => ⟨I1.kIn, ?_⟩) he hpl
  show wpAny _ _ (call (.ref C) us) _ _ _
  obtain ⟨hp, g, dr, tk, os⟩ := s1
  have hsz : hp.objs.size ≤ hp.objs.size + 1 := Nat.le_succ _
  have hn : H1 (hp.objs.size + 1) = none := I1.hok.fresh hsz
  have hq := hnn _ _ _ _ (q1 (hp.objs.size + 1) hn)
  have kk : ∀ b o, hp.get? b = some o → ((hp.push (PySem.W.kdv_tup us)).push (PySem.HandSPX.excO C hp.objs.size)).get? b = some o := fun b o e => Heap.get?_push_of_some _ (Heap.get?_push_of_some _ e)
  have at1 : ((hp.push (PySem.W.kdv_tup us)).push (PySem.HandSPX.excO C hp.objs.size)).get? (hp.objs.size + 1) = some (PySem.HandSPX.excO C hp.objs.size) := by heap_get
  have I2 : Inv X pins σ (upd H1 (hp.objs.size + 1) (exo (hp.objs.size + 1) C none)) ⟨(hp.push (PySem.W.kdv_tup us)).push (PySem.HandSPX.excO C hp.objs.size), g, dr, tk, os⟩ :=
    I1.laid (t' := tk) (a := hp.objs.size + 1) (o := exo (hp.objs.size + 1) C none) (h' := (hp.push (PySem.W.kdv_tup us)).push (PySem.HandSPX.excO C hp.objs.size)) kk hsz (exo_ok at1)
  have r2 : Vals (V.ref (hp.objs.size + 1) :: vs) (Value.ref (hp.objs.size + 1) :: us) := .cons rfl r1
  have hl : (Value.ref (hp.objs.size + 1) :: us).length = ps.length := by
    have e := r2.length
    rw [F1.len _ _ _ _ hq] at e
    exact e.symm
  have hus : us.length ≤ sizeLine := by
    rw [← Paired.length r1, sizeLine_eq]
    omega
  have bb := hb _ (Value.ref (hp.objs.size + 1) :: us) I2.kIn (by rw [List.append_nil]; exact hl)
  rw [List.append_nil] at bb
  refine wpAny_call (PySem.HandSPX.call_own PySem.F.excBase_ValueError (fun Y => PySem.HandSPX.refsVE_contains Y bm hbm) (I1.kIn _ _ hC) (PySem.W.looks_findIn I1.kIn iC) (fun self => PySem.W.bind_fn I1.kIn self tI) hus
    (codeAny_mono (F1.run _ X.stack _ _ ⟨Value.ref (hp.objs.size + 1) :: us, []⟩ (Value.ref (hp.objs.size + 1) :: us) _ _ (fun _ _ _ => False) (hr.make C us []) (I2.env0.make C us []) bb r2 hq) fun r s' hq' => ?_))
  cases r with
  | error er => exact hx pins σ _ _ er s' I2 hq'
  | ok fl =>
    cases fl with
    | ret u =>
      obtain ⟨v, H2, I3, rv, ev, q2⟩ := I2.after hq'
      subst ev
      exact ⟨rv, .ref (hp.objs.size + 1), H2, I3, rfl, q2⟩
    | next => exact False.elim hq'
    | brk => exact False.elim hq'
    | cont => exact False.elim hq'
theorem spI_non {K : PySem.W.Frag} {fs : List Str} : ∀ vs H Q E, spI K fs vs H Q E → spI K fs vs H (fun v H2 => v = .non ∧ Q v H2) E := fun vs H Q E ⟨a, C, ys, h1, h2, h3, h4, h5, h6⟩ => ⟨a, C, ys, h1, h2, h3, h4, h5, fun dx n ne => ⟨rfl, h6 dx n ne⟩⟩
theorem pass_none {X : Cx} {wx : WX} (tk : Takes X wx) : Passes (L2.CX X.prog X.w) X (fun _ _ _ => False) := fun pins σ H s e s' I c => passes_call tk (fun _ _ _ _ h => h.elim) pins σ H s e s' I c
section
variable {X : Cx} {x : Str} {fs : List Str} {e : Expr} {es : List Expr} {gs : GEs} {p pos pos' : Pos} {j : Nat}
theorem ge_mkX (c : ClsX X.prog X.w X.K X.mg X.base x fs) (hr : RoomG j X.A) (hj : 2 ≤ j) (ha : GJA X (e :: es) gs) (hg : Gl X x := by rfl)
    (hdb : (x == ("__debug__" : Str)) = false := by decide) (he : starEach (e :: es) X.env = (false, eval e X.env) :: starEach es X.env := by rfl) (hpl : (backTo pos (starEach es X.env)).any (·.1) = false := by rfl) :
    GJE X (.Call (.Name x p) (e :: es) [] pos) (gMkX x fs gs) := ⟨fun B F0 wx tk => by
  obtain ⟨C, fI, fd, ps, hm, T, EC, iC, tI, Fn, hb, hno⟩ := c.ex
  refine PE.imp (pe_mkV T iC tI Fn (hr.mono hj).r hb (pass_none tk) spI_non hg hm (ha.run B F0 wx tk) hdb he hpl) fun σ H Q ⟨F, ι, ρ, G, s, he, hp⟩ => ?_
  refine ⟨F, ι, ρ, G, s, he, (PostL.fst hp).imp fun vs H1 ⟨F1, ι1, ws, G1, e1, s1, r1, p1⟩ => ?_⟩
  cases q : allD ws with
  | none => rw [q] at p1; exact p1.elim
  | some ds =>
    rw [q] at p1
    simp only at p1
    by_cases hc : ds.length = fs.length ∧ fs.length ≤ 900
    · rw [if_pos hc] at p1
      have rl := allD_rp q r1
      have hlen := rl.length
      refine ⟨by omega, fun a na => ⟨a, C, vs, rfl, by omega, upd_same, T, hno, fun dx nd nda => ?_⟩⟩
      rw [upd_upd]
      have nd' : upd H1 a (exo a C (some dx)) dx = none := by rw [upd_ne nda]; rw [upd_ne nda] at nd; exact nd
      obtain ⟨s2, e2⟩ := s1.lay (o := exo a C (some dx)) na
      obtain ⟨s3, e3⟩ := s2.lay (o := exd dx (fs.zip vs).reverse) nd'
      refine p1 _ _ ⟨_, _, e2.trans e3, s3, ?_⟩
      simp only [RpW, mkX, Rp]
      refine ⟨a, C, (fs.zip vs).reverse, rfl, hm, .exc dx EC (by rw [upd_ne (Ne.symm nda)]; exact upd_same) upd_same, rpF_zip (rl.mono (e2.trans e3).fr)⟩
    · rw [if_neg hc] at p1; exact p1.elim⟩
theorem gs_raise (c : ClsX X.prog X.w X.K X.mg X.base x fs) (hr : RoomG j X.A) (hj : 2 ≤ j) (hcm : X.calm = true) (ha : GJA X (e :: es) gs) (hg : Gl X x := by rfl)
    (hdb : (x == ("__debug__" : Str)) = false := by decide) (he : starEach (e :: es) X.env = (false, eval e X.env) :: starEach es X.env := by rfl) (hpl : (backTo pos (starEach es X.env)).any (·.1) = false := by rfl) :
    GJS X (.Raise (some (.Call (.Name x p) (e :: es) [] pos)) none pos') (gRaise x fs gs) := ⟨fun B F0 wx tk => by
  obtain ⟨C, fI, fd, ps, hm, T, EC, iC, tI, Fn, hb, hno⟩ := c.ex
  refine PS.imp (ps_raise hcm tk (pmk_oex (ds := []) (dvs := []) T iC tI Fn (hr.mono hj).r hb .nil (pass_none tk) hg hm (ha.run B F0 wx tk) hdb he hpl)) fun D σ H ⟨F, ι, ρ, G, s, he, hp⟩ => ?_
  unfold gRaise at hp
  refine ⟨F, ι, ρ, G, s, he, ?_⟩
  cases qg : gs ρ G with
  | stuck => rw [qg] at hp; exact hp.elim
  | exc x G' => rw [qg] at hp; exact fun cls d H' ⟨F', ι', a, b, c⟩ => hp cls d σ H' F' ι' a b (he.mono a) c
  | ok ws G1 =>
    rw [qg] at hp
    rintro vs H1 ⟨F1, ι1, e1, s1, r1⟩
    simp only [Res.toS] at hp
    cases q : allD ws with
    | none => rw [q] at hp; exact hp.elim
    | some ds =>
      rw [q] at hp
      simp only at hp
      by_cases hc : ds.length = fs.length ∧ fs.length ≤ 900
      · rw [if_pos hc] at hp
        have rl := allD_rp q r1
        have hlen := rl.length
        refine ⟨by omega, fun a na => ⟨a, C, vs, by rw [List.append_nil], by omega, upd_same, T, hno, fun dx nd nda => ?_⟩⟩
        rw [upd_upd]
        have nd' : H1 dx = none := by rw [upd_ne nda] at nd; exact nd
        refine ⟨rfl, dx, (fs.zip vs).reverse, by rw [upd_ne (Ne.symm nda)]; exact upd_same, upd_same, nd', ?_⟩
        have eH : upd (del (upd (upd H1 a (exo a C (some dx))) dx (exd dx (fs.zip vs).reverse)) a) dx (.xd (fs.zip vs).reverse) = upd H1 dx (.xd (fs.zip vs).reverse) := by
          funext b
          by_cases hbd : b = dx
          · rw [hbd, upd_same, upd_same]
          · rw [upd_ne hbd, upd_ne hbd]
            by_cases hba : b = a
            · rw [hba, del_same, na]
            · rw [del_ne hba, upd_ne hbd, upd_ne hba]
        rw [eH]
        obtain ⟨s2, e2⟩ := s1.lay (o := .xd (fs.zip vs).reverse) nd'
        refine hp _ _ _ _ _ _ (e1.trans e2) s2 (he.mono (e1.trans e2)) ⟨C, hm, EC, rfl, _, upd_same, rpF_zip (rl.mono e2.fr)⟩
      · rw [if_neg hc] at hp; exact hp.elim⟩
/-- X(), no own __init__ -/
theorem pe_mkV0 {C : Addr} {bmB : List Value} {B newId initId : String} (Fb : ExcBaseFacts B newId initId bmB) (q : PySem.W.excIn X.K C bmB newId = true) (gC : X.mg x = some (.ref C)) (kC : PySem.W.keepIn X.K (.ref C) = true) (hg : Gl X x) (hdb : (x == ("__debug__" : Str)) = false := by decide) :
    PE X (.Call (.Name x p) [] [] pos) (fun σ H Q => ∀ a, H a = none → Q (.ref a) (upd H a (exo a C none))) := by
  refine ⟨fun pins s σ H Q I h => ?_⟩
  refine wpAny_Call_Name_kw (ld_glob I hg gC ?_ hdb)
  refine PySem.W.callWith_K0 I.kIn kC ?_
  show wpAny _ _ (call (.ref C) []) _ _ _
  obtain ⟨bm, N, nm, qn, bs, hdct, sn, sub, ab, col, dd, k0, k1, k2, k3, k5, mN, hC, hN, hni, T⟩ := exc_obj I.kIn q
  refine wpAny_call_exc_subT Fb T hC hN hni (fun h' a hm => ?_) (Nat.zero_le _)
  have hn : H a = none := I.hok.gone hm.new
  obtain ⟨t, ht, _, _⟩ := hm.there
  exact ⟨.ref a, upd H a (exo a C none), I.laidN hm.keeps hm.new hn (exo_ok ht), rfl, h a hn⟩
theorem pmk_own0 {C : Addr} {bmB : List Value} {B newId initId : String} (Fb : ExcBaseFacts B newId initId bmB) (q : PySem.W.excIn X.K C bmB newId = true) (gC : X.mg x = some (.ref C)) (kC : PySem.W.keepIn X.K (.ref C) = true) (r : Raises X (.ref C)) (hg : Gl X x) (hdb : (x == ("__debug__" : Str)) = false := by decide) :
    PMk X (.Call (.Name x p) [] [] pos) (fun σ H Q => Q (.ref C) none H) := by
  intro pins s σ H Q I h
  refine wpAny_Call_Name_kw (ld_glob I hg gC ?_ hdb)
  refine PySem.W.callWith_K0 I.kIn kC ?_
  show wpAny _ _ (call (.ref C) []) _ _ _
  obtain ⟨bm, N, nm, qn, bs, hdct, sn, sub, ab, col, dd, k0, k1, k2, k3, k5, mN, hC, hN, hni, T⟩ := exc_obj I.kIn q
  refine wpAny_call_exc_subT Fb T hC hN hni (fun h' a hm => ?_) (Nat.zero_le _)
  exact mk_of I hm r h (I.hok.gone hm.new)
def gMk0 (c : Str) : GE := fun _ G => .ok (.d (.ins c [])) G
def gRaise0 (c : Str) : GS := fun ρ G => .exc ⟨c, []⟩ ρ G
theorem ge_mk0 (c : ClsX0 X.K X.mg x) (hg : Gl X x := by rfl) (hdb : (x == ("__debug__" : Str)) = false := by decide) : GJE X (.Call (.Name x p) [] [] pos) (gMk0 x) := ⟨fun B F0 wx tk => by
  obtain ⟨C, hm, T, EC, B', initId, bmB, newId, Fb, q⟩ := c.ex
  refine PE.imp (pe_mkV0 Fb q hm T.kC hg hdb) fun σ H Q ⟨F, ι, ρ, G, s, he, hp⟩ a na => ?_
  obtain ⟨s2, e2⟩ := s.lay (o := exo a C none) na
  refine hp _ _ ⟨_, _, e2, s2, ?_⟩
  simp only [RpW, Rp]
  exact ⟨a, C, [], rfl, hm, .exc0 EC upd_same rfl, by simp only [RpF]⟩⟩
theorem gs_raise0 (c : ClsX0 X.K X.mg x) (hcm : X.calm = true) (hg : Gl X x := by rfl) (hdb : (x == ("__debug__" : Str)) = false := by decide) : GJS X (.Raise (some (.Call (.Name x p) [] [] pos)) none pos') (gRaise0 x) := ⟨fun B F0 wx tk => by
  obtain ⟨C, hm, T, EC, B', initId, bmB, newId, Fb, q⟩ := c.ex
  refine PS.imp (ps_raise hcm tk (pmk_own0 Fb q hm T.kC (raises_own T.exC T.tyC) hg hdb)) fun D σ H ⟨F, ι, ρ, G, s, he, hp⟩ => ?_
  exact hp _ none σ H F ι .refl s he ⟨C, hm, EC, rfl, rfl⟩⟩
end
end Gh

set_option Elab.async false
set_option linter.all false
set_option maxRecDepth 100000
set_option maxHeartbeats 4000000
namespace Gh
open PySem PySem.Spec PyProof.Rows L2

/-! ### facts of classes, as bools -/
theorem band {a b : Bool} (h : (a && b) = true) : a = true ∧ b = true := Bool.and_eq_true_iff.mp h
def excCb (K : PySem.W.Frag) (D : Addr) : Bool :=
  decide (PySem.W.findIn K (.ref D) "__getattribute__" = some (some (.builtin "BaseException.__getattribute__"))) && (decide (PySem.W.findIn K (.ref D) "__getattr__" = some none) && (decide (PySem.W.subIn K (.ref D) (.type "BaseException") = some true) && (PySem.W.hasDictIn K D &&
    (decide (PySem.W.findIn K (.ref D) "__class__" = some (some (.builtin "object.__class__"))) && (decide (PySem.W.specialIn K (.builtin "object.__class__") "__get__" = some (some (.builtin "getset_descriptor.__get__"))) && (decide (PySem.W.takesIn K (.builtin "object.__class__") = some true) && decide (PySem.W.mroIn K D (.type "object") = some true)))))))
theorem excCb_ok {K : PySem.W.Frag} {D : Addr} (h : excCb K D = true) : ExcC K D := by
  obtain ⟨h1, h⟩ := band h
  obtain ⟨h2, h⟩ := band h
  obtain ⟨h3, h⟩ := band h
  obtain ⟨h4, h⟩ := band h
  obtain ⟨h5, h⟩ := band h
  obtain ⟨h6, h⟩ := band h
  obtain ⟨h7, h8⟩ := band h
  exact ⟨of_decide_eq_true h1, of_decide_eq_true h2, of_decide_eq_true h3, h4, of_decide_eq_true h5, of_decide_eq_true h6, of_decide_eq_true h7, of_decide_eq_true h8⟩
def oexOb (K : PySem.W.Frag) (C : Addr) : Bool := match K.lookup C with
  | some ⟨.type "type", _, .cls cd, sl⟩ => (match cd.mro, sl.toList with
    | .ref D :: bm, [_, _, _, _, some (.builtin n), _] => decide (D = C) && (decide (n = "ValueError.__new__") && (!cd.hasDel && (cd.hasDict && PySem.HandSPX.refsVE bm)))
    | _, _ => false)
  | _ => false
def oexb (K : PySem.W.Frag) (C : Addr) : Bool := oexOb K C && (decide (PySem.W.findIn K (.ref C) "__setattr__" = some (some (.builtin "object.__setattr__"))) && (decide (PySem.W.subIn K (.ref C) (.type "BaseException") = some true) && (decide (PySem.W.typeIn K (.ref C) = some (.type "type")) && PySem.W.keepIn K (.ref C))))
theorem oexb_ok {K : PySem.W.Frag} {C : Addr} (h : oexb K C = true) : OexC K C := by
  obtain ⟨h1, h⟩ := band h
  obtain ⟨h2, h⟩ := band h
  obtain ⟨h3, h⟩ := band h
  obtain ⟨h4, h5⟩ := band h
  refine ⟨?_, of_decide_eq_true h2, of_decide_eq_true h3, of_decide_eq_true h4, h5⟩
  unfold oexOb at h1
  split at h1
  · rename_i dd cd sl ho
    split at h1
    · rename_i D bm k0 k1 k2 k3 n k5 hm hs
      obtain ⟨g1, h1⟩ := band h1
      obtain ⟨g2, h1⟩ := band h1
      obtain ⟨g3, h1⟩ := band h1
      obtain ⟨g4, g5⟩ := band h1
      have e1 := of_decide_eq_true g1
      have e2 := of_decide_eq_true g2
      obtain ⟨nm, bs, mro, ns, qn, hd, sn, sub, ab, col, del⟩ := cd
      obtain ⟨l⟩ := sl
      simp only [Bool.not_eq_true'] at hm hs g3 g4
      subst hm hs e1 e2 g3 g4
      exact ⟨nm, qn, ns, bs, bm, sn, sub, ab, col, dd, k0, k1, k2, k3, k5, ho, g5⟩
    · cases h1
  · cases h1
/-- an instance's class -/
def inCb (K : PySem.W.Frag) (D : Addr) : Bool := PySem.W.plainGet K D Str.empty && (PySem.W.hasDictIn K D && (PySem.W.plainOver K D && (decide (PySem.W.findIn K (.ref D) "__setattr__" = some (some (.builtin "object.__setattr__"))) &&
    (decide (PySem.W.findIn K (.ref D) "__class__" = some (some (.builtin "object.__class__"))) && (decide (PySem.W.specialIn K (.builtin "object.__class__") "__get__" = some (some (.builtin "getset_descriptor.__get__"))) && (decide (PySem.W.takesIn K (.builtin "object.__class__") = some true) && decide (PySem.W.mroIn K D (.type "object") = some true)))))))
theorem inCb_ok {K : PySem.W.Frag} {D : Addr} (h : inCb K D = true) : InC K D := by
  obtain ⟨h1, h⟩ := band h
  obtain ⟨h2, h⟩ := band h
  obtain ⟨h3, h⟩ := band h
  obtain ⟨h4, h⟩ := band h
  obtain ⟨h5, h⟩ := band h
  obtain ⟨h6, h⟩ := band h
  obtain ⟨h7, h8⟩ := band h
  exact ⟨⟨h1, h2, h3, of_decide_eq_true h4⟩, of_decide_eq_true h5, of_decide_eq_true h6, of_decide_eq_true h7, of_decide_eq_true h8⟩
/-- an exception class with an __init__ of these fields -/
def clsXb (K : PySem.W.Frag) (c : Str) (fs : List Str) : Bool := He.eqO (PySem.W.nsIn K mainGlobals c) (some (some (.ref (He.ga K c)))) && (oexb K (He.ga K c) && (excCb K (He.ga K c) && (decide (PySem.W.findIn K (.ref (He.ga K c)) "__init__" = some (some (.ref (He.ma K (He.ga K c) "__init__")))) &&
  (decide (PySem.W.typeIn K (.ref (He.ma K (He.ga K c) "__init__")) = some (.type "function")) && fs.all fun f => decide (PySem.W.findIn K (.ref (He.ga K c)) f = some none)))))
def clsX0b (K : PySem.W.Frag) (c : Str) : Bool := He.eqO (PySem.W.nsIn K mainGlobals c) (some (some (.ref (He.ga K c)))) && (oexb K (He.ga K c) && (excCb K (He.ga K c) && PySem.W.excIn K (He.ga K c) He.veBase "ValueError.__new__"))
section
variable {P : Program} {w : World} {K : PySem.W.Frag} {h : Heap} {mg : Str → Option Value} {base : Heap}
theorem clsXb_ok (X : K.In h) (G : h.Ns mainGlobals mg) {c : Str} {fs : List Str} {fd : FuncData} {ps : List Str} (b : clsXb K c fs = true) (F : FnOk P w K mg base (L2.CX P w) 1 (He.ma K (He.ga K c) "__init__") fd ps (spI K fs)) (hb : Binds K fd ps []) : ClsX P w K mg base c fs := by
  obtain ⟨h1, b⟩ := band b
  obtain ⟨h2, b⟩ := band b
  obtain ⟨h3, b⟩ := band b
  obtain ⟨h4, b⟩ := band b
  obtain ⟨h5, h6⟩ := band b
  exact ⟨_, _, fd, ps, PySem.W.mg_of X G (He.eqO_ok h1), oexb_ok h2, excCb_ok h3, of_decide_eq_true h4, of_decide_eq_true h5, F, hb, fun f hf => of_decide_eq_true (List.all_eq_true.mp h6 f hf)⟩
theorem clsX0b_ok (X : K.In h) (G : h.Ns mainGlobals mg) {c : Str} (b : clsX0b K c = true) : ClsX0 K mg c := by
  obtain ⟨h1, b⟩ := band b
  obtain ⟨h2, b⟩ := band b
  obtain ⟨h3, h4⟩ := band b
  exact ⟨_, PySem.W.mg_of X G (He.eqO_ok h1), oexb_ok h2, excCb_ok h3, "ValueError", _, _, _, PySem.F.excBase_ValueError, h4⟩
end
/-- the answers of isinstance: by tables -/
def tcf (bt : List (Ty × Bool)) (ot : List (Str × Bool)) : Tc → Option Bool
  | .b t => bt.lookup t
  | .o c => ot.lookup c
/-- a class by name: a built-in's | the module's -/
inductive Cn where
  | b (T : String) | o (x : Str)
def Cn.v (K : PySem.W.Frag) : Cn → Value
  | .b T => .type T
  | .o x => .ref (He.ga K x)
def kitTb (K : PySem.W.Frag) (us : List Cn) (bt : List (Ty × Bool)) (ot : List (Str × Bool)) : Bool := (bt.all fun p => decide (PySem.W.kitAny K (.type p.1.name) (us.map (Cn.v K)) = some p.2)) && (ot.all fun p => He.eqO (PySem.W.nsIn K mainGlobals p.1) (some (some (.ref (He.ga K p.1)))) && decide (PySem.W.kitAny K (.ref (He.ga K p.1)) (us.map (Cn.v K)) = some p.2))
theorem look_mem {α β : Type} [BEq α] [LawfulBEq α] {a : α} {b : β} : ∀ {l : List (α × β)}, l.lookup a = some b → (a, b) ∈ l
  | [], h => by cases h
  | (x, y) :: l, h => by
    rw [List.lookup_cons] at h
    cases q : a == x with
    | true => rw [q] at h; cases h; rw [eq_of_beq q]; exact List.mem_cons_self
    | false => rw [q] at h; exact List.mem_cons_of_mem _ (look_mem h)
theorem kitTb_ok {K : PySem.W.Frag} {h : Heap} {mg : Str → Option Value} (X : K.In h) (G : h.Ns mainGlobals mg) {us : List Cn} {bt : List (Ty × Bool)} {ot : List (Str × Bool)} (b : kitTb K us bt ot = true) : KitT ⟨K, mg⟩ (us.map (Cn.v K)) (tcf bt ot) := by
  obtain ⟨h1, h2⟩ := band b
  refine ⟨fun t r hr => ?_, fun c Ca r hr hc => ?_⟩
  · exact of_decide_eq_true (List.all_eq_true.mp h1 _ (look_mem (show bt.lookup t = some r from hr)))
  · have z := List.all_eq_true.mp h2 _ (look_mem (show ot.lookup c = some r from hr))
    obtain ⟨z1, z2⟩ := band z
    have e := PySem.W.mg_of X G (He.eqO_ok z1)
    have hc' : mg c = some (.ref Ca) := hc
    rw [e] at hc'
    cases hc'
    exact of_decide_eq_true z2
def noAtb (K : PySem.W.Frag) (cs : List Str) (f : Str) : Bool := cs.all fun c => He.eqO (PySem.W.nsIn K mainGlobals c) (some (some (.ref (He.ga K c)))) && decide (PySem.W.findIn K (.ref (He.ga K c)) f = some none)
theorem noAtb_ok {K : PySem.W.Frag} {h : Heap} {mg : Str → Option Value} (X : K.In h) (G : h.Ns mainGlobals mg) {cs : List Str} {f : Str} (b : noAtb K cs f = true) : NoAt ⟨K, mg⟩ cs f := fun c hc C hC => by
  have z := List.all_eq_true.mp b c hc
  obtain ⟨z1, z2⟩ := band z
  have e := PySem.W.mg_of X G (He.eqO_ok z1)
  have hC' : mg c = some (.ref C) := hC
  rw [e] at hC'
  cases hC'
  exact show PySem.W.findIn K (.ref (He.ga K c)) f = some none from of_decide_eq_true z2
theorem glob_ok {K : PySem.W.Frag} {h : Heap} {mg : Str → Option Value} (X : K.In h) (G : h.Ns mainGlobals mg) {x : Str} (b : He.eqO (PySem.W.nsIn K mainGlobals x) (some (some (.ref (He.ga K x)))) = true) : mg x = some (.ref (He.ga K x)) := PySem.W.mg_of X G (He.eqO_ok b)
theorem freeb_ok {K : PySem.W.Frag} {h : Heap} {mg : Str → Option Value} (X : K.In h) (G : h.Ns mainGlobals mg) {x : Str} (b : He.eqO (PySem.W.nsIn K mainGlobals x) (some none) = true) : mg x = none := PySem.W.mg_none_of X G (He.eqO_ok b)

/-! ### a law's end -/
theorem walk_ofW {l : PySem.W.OpenLaw} {n k : Nat} {q : Program} {loose : List Str} {XP : (Str → Option Value) → Heap → Prop} {YP : World → Heap → Prop} {d : DefRec} {x : Str} {f : List D → PRes}
    (hn : l.most = some n) (hn2 : n ≤ sizeLine) (hdf : d.params.defaults = []) (hr : Room k callerA)
    (F : ∀ (w : World) (mg : Str → Option Value) (fa : Addr) (h : Heap), YP w h → h.Ns mainGlobals mg → mg d.name = some (.ref fa) →
      ∃ (K : PySem.W.Frag) (fd : FuncData), K.In h ∧ (∀ (s : Shared) (u : Value), BindsTo s fd ⟨[u], []⟩ [(x, u)]) ∧ ∀ base : Heap, K.In base → base.Ns mainGlobals mg → FnG l.prog w K mg base (L2.CX l.prog w) k fa fd [x] (spP ⟨K, mg⟩ 1 f))
    (hf : ∀ ns : List Int, ns.length ≤ n → (∀ z ∈ ns, Builtin.Int.intBits z ≤ 1048576) → f [.lst (ns.map .int)] = .ok (.bl true)) :
    PySem.W.WalkO q loose XP YP l.row.toRowW d [] (fun f vs => PySem.call f vs) := by
  refine Att.attach_callB hn hdf fun w s₀ s₁ mg mb fa o pm cd doc a vs ns G Y ho hd hcd hmg hobj hints hlen hbits hg => ?_
  obtain ⟨K, fd, KX, hb, hF⟩ := F w mg fa _ Y G.T.g hmg
  refine law_callG KX G.T.g G.T.b G.T.builtins G.T.nolimit hg hobj hints (Nat.le_trans hlen hn2) hr hF hb (fun H hO hS => ?_) fun H e s' c => ?_
  · refine ⟨H, [.lst (ns.map .int)], rfl, Same.refl _, ?_, ?_⟩
    · have gen : ∀ l : List Int, RpL ⟨K, mg⟩ H (l.map D.int) (l.map V.int) := by
        intro l
        induction l with
        | nil => simp only [List.map_nil, RpL]
        | cons i l ih => simp only [List.map_cons, RpL, Rp]; exact ⟨_, _, rfl, rfl, ih⟩
      simp only [RpL, Rp]
      exact ⟨_, _, rfl, ⟨_, _, rfl, hS, gen ns⟩, rfl⟩
    · rw [hf ns hlen hbits]
      intro v F' H' _ _ _ _ r
      simp only [Rp] at r
      exact r
  · obtain ⟨_, _, _, _, _, _, _, _, _, _, _, _, z⟩ := c
    exact z
end Gh

set_option Elab.async false
set_option linter.all false
set_option maxRecDepth 100000
set_option maxHeartbeats 4000000
namespace Gh
open PySem PySem.Spec PyProof.Rows L2

/-! ### keys: ints and texts -/
theorem key_rp {M : Md} {F : Hp} {d : D} {k : Key} {v : V} (h : keyD d = some k) (r : Rp M F d v) : v = kV k := by
  cases d with
  | int i => cases h; simp only [Rp] at r; exact r
  | str i => cases h; simp only [Rp] at r; exact r
  | _ => cases h
theorem key_same {a b : D} {ka kb : Key} (ha : keyD a = some ka) (hb : keyD b = some kb) : sameD a b = decide (ka = kb) := by
  cases a with
  | int i =>
    cases ha
    cases b with
    | int j => cases hb; simp [sameD]
    | str j => cases hb; simp [sameD]
    | _ => cases hb
  | str i =>
    cases ha
    cases b with
    | int j => cases hb; simp [sameD]
    | str j => cases hb; simp [sameD]
    | _ => cases hb
  | _ => cases ha
def lookK (kvs : List (D × W)) (k : D) : Option W := (kvs.find? fun p => sameD p.1 k).map (·.2)
def putW (kvs : List (D × W)) (k : D) (w : W) : List (D × W) := if kvs.any (fun p => sameD p.1 k) then kvs.map (fun p => if sameD p.1 k then (p.1, w) else p) else kvs ++ [(k, w)]
def dropW (kvs : List (D × W)) (k : D) : List (D × W) := kvs.filter fun p => !sameD p.1 k
section
variable {M : Md} {F : Hp} {ι : Nat → Addr} {n : Nat} {k : D} {kk : Key}
theorem RpWK.length : ∀ {kvs : List (D × W)} {es : List (Key × V)}, RpWK M F ι n kvs es → kvs.length = es.length
  | [], es, h => by simp only [RpWK] at h; subst h; rfl
  | (k, w) :: kvs, es, h => by
    simp only [RpWK] at h
    obtain ⟨k2, x, r, rfl, _, _, h2⟩ := h
    simp [RpWK.length h2]
theorem RpWK.look (hk : keyD k = some kk) : ∀ {kvs : List (D × W)} {es : List (Key × V)}, RpWK M F ι n kvs es → (∀ w, lookK kvs k = some w → ∃ v, valV es kk = some v ∧ RpW M F ι n w v) ∧ (lookK kvs k = none → valV es kk = none)
  | [], es, h => by simp only [RpWK] at h; subst h; exact ⟨fun w e => by simp [lookK] at e, fun _ => rfl⟩
  | (k1, w1) :: kvs, es, h => by
    simp only [RpWK] at h
    obtain ⟨k2, x, r, rfl, h1, h2, h3⟩ := h
    have e := key_same h1 hk
    obtain ⟨i1, i2⟩ := RpWK.look hk h3
    by_cases c : k2 = kk
    · have e' : sameD k1 k = true := by rw [e]; exact decide_eq_true c
      have l : lookK ((k1, w1) :: kvs) k = some w1 := by simp [lookK, List.find?_cons, e']
      rw [l, valV_pos (p := (k2, x)) c]
      exact ⟨fun w q => by cases q; exact ⟨x, rfl, h2⟩, fun q => by cases q⟩
    · have e' : sameD k1 k = false := by rw [e]; exact decide_eq_false c
      have l : lookK ((k1, w1) :: kvs) k = lookK kvs k := by simp [lookK, List.find?_cons, e']
      rw [l, valV_neg (p := (k2, x)) c]
      exact ⟨i1, i2⟩
theorem RpWK.any (hk : keyD k = some kk) {kvs : List (D × W)} {es : List (Key × V)} (h : RpWK M F ι n kvs es) : kvs.any (fun p => sameD p.1 k) = es.any (fun p => decide (p.1 = kk)) := by
  induction kvs generalizing es with
  | nil => simp only [RpWK] at h; subst h; rfl
  | cons p kvs ih =>
    obtain ⟨k1, w1⟩ := p
    simp only [RpWK] at h
    obtain ⟨k2, x, r, rfl, h1, h2, h3⟩ := h
    rw [List.any_cons, List.any_cons, ih h3, key_same h1 hk]
theorem RpWK.put (hk : keyD k = some kk) {w : W} {v : V} (rv : RpW M F ι n w v) {kvs : List (D × W)} {es : List (Key × V)} (h : RpWK M F ι n kvs es) : RpWK M F ι n (putW kvs k w) (putK es kk v) := by
  have rep : ∀ {kvs : List (D × W)} {es : List (Key × V)}, RpWK M F ι n kvs es → RpWK M F ι n (kvs.map fun p => if sameD p.1 k then (p.1, w) else p) (es.map fun kv => if kv.1 = kk then (kv.1, v) else kv) := by
    intro kvs
    induction kvs with
    | nil => intro es h; simp only [RpWK] at h; subst h; simp [RpWK]
    | cons p kvs ih =>
      intro es h
      obtain ⟨k1, w1⟩ := p
      simp only [RpWK] at h
      obtain ⟨k2, x, r, rfl, h1, h2, h3⟩ := h
      have e := key_same h1 hk
      simp only [List.map_cons]
      by_cases c : k2 = kk
      · have e' : sameD k1 k = true := by rw [e]; exact decide_eq_true c
        rw [if_pos e', if_pos c]
        simp only [RpWK]
        exact ⟨k2, v, _, rfl, h1, rv, ih h3⟩
      · have e' : ¬ sameD k1 k = true := by rw [e]; simpa using c
        rw [if_neg e', if_neg c]
        simp only [RpWK]
        exact ⟨k2, x, _, rfl, h1, h2, ih h3⟩
  have app : ∀ {kvs : List (D × W)} {es : List (Key × V)}, RpWK M F ι n kvs es → RpWK M F ι n (kvs ++ [(k, w)]) (es ++ [(kk, v)]) := by
    intro kvs
    induction kvs with
    | nil => intro es h; simp only [RpWK] at h; subst h; simp only [List.nil_append, RpWK]; exact ⟨kk, v, [], rfl, hk, rv, rfl⟩
    | cons p kvs ih =>
      intro es h
      obtain ⟨k1, w1⟩ := p
      simp only [RpWK] at h
      obtain ⟨k2, x, r, rfl, h1, h2, h3⟩ := h
      simp only [List.cons_append, RpWK]
      exact ⟨k2, x, _, rfl, h1, h2, ih h3⟩
  unfold putW putK
  rw [RpWK.any hk h]
  split
  · exact rep h
  · exact app h
theorem RpWK.drop (hk : keyD k = some kk) {kvs : List (D × W)} {es : List (Key × V)} (h : RpWK M F ι n kvs es) : RpWK M F ι n (dropW kvs k) (dropK es kk) := by
  unfold dropW dropK
  induction kvs generalizing es with
  | nil => simp only [RpWK] at h; subst h; simp [RpWK]
  | cons p kvs ih =>
    obtain ⟨k1, w1⟩ := p
    simp only [RpWK] at h
    obtain ⟨k2, x, r, rfl, h1, h2, h3⟩ := h
    have e := key_same h1 hk
    by_cases c : k2 = kk
    · have e' : sameD k1 k = true := by rw [e]; exact decide_eq_true c
      rw [List.filter_cons_of_neg (by simp [e']), List.filter_cons_of_neg (by simp [c])]
      exact ih h3
    · have e' : sameD k1 k = false := by rw [e]; exact decide_eq_false c
      rw [List.filter_cons_of_pos (by simp [e']), List.filter_cons_of_pos (by simp [c])]
      simp only [RpWK]
      exact ⟨k2, x, _, rfl, h1, h2, ih h3⟩
theorem RpK.wk : ∀ {kvs : List (D × D)} {es : List (Key × V)}, RpK M F kvs es → RpWK M F ι n (kvs.map fun p => (p.1, .d p.2)) es
  | [], es, h => by simpa only [RpK, List.map_nil, RpWK] using h
  | (k, d) :: kvs, es, h => by
    simp only [RpK] at h
    obtain ⟨k2, x, r, rfl, h1, h2, h3⟩ := h
    simp only [List.map_cons, RpWK, RpW]
    exact ⟨k2, x, r, rfl, h1, h2, RpK.wk h3⟩
end
/-- a dict with such keys that is read -/
def dicW : W → Hg → Option (List (D × W))
  | .d (.dic false kvs), _ => some (kvs.map fun p => (p.1, .d p.2))
  | .ref i, G => match G[i]? with
    | some (.dic false kvs) => some kvs
    | some (.lkd false kvs) => some kvs
    | _ => none
  | _, _ => none
def keyW (w : W) : Option D := match w with
  | .d x => if (keyD x).isSome then some x else none
  | _ => none
theorem keyW_inv {w : W} {k : D} (h : keyW w = some k) : w = .d k ∧ ∃ kk, keyD k = some kk := by
  cases w with
  | d x =>
    simp only [keyW] at h
    by_cases c : (keyD x).isSome = true
    · rw [if_pos c] at h
      cases h
      exact ⟨rfl, Option.isSome_iff_exists.mp c⟩
    · rw [if_neg c] at h; cases h
  | _ => cases h
theorem Sim.dic {C : GC} {F H : Hp} {ι : Nat → Addr} {G : Hg} {w : W} {kvs : List (D × W)} {v : V} (s : Sim C F H ι G) (e : dicW w G = some kvs) (r : RpW C.m F ι G.length w v) :
    ∃ a es, v = .ref a ∧ Rd H a (.dK es) ∧ RpWK C.m F ι G.length kvs es := by
  cases w with
  | tup ws => cases e
  | d x =>
    simp only [RpW] at r
    cases x with
    | dic t ks =>
      cases t with
      | true => cases e
      | false =>
        cases e
        simp only [Rp] at r
        obtain ⟨a, od, es, rfl, h1, h2⟩ := r
        exact ⟨a, es, rfl, .inr ⟨od, s.fh _ _ h1⟩, h2.wk⟩
    | _ => cases e
  | ref i =>
    simp only [RpW] at r
    obtain ⟨hi, rfl⟩ := r
    simp only [dicW] at e
    cases q : G[i]? with
    | none => rw [q] at e; cases e
    | some o =>
      rw [q] at e
      cases o with
      | dic t ks =>
        cases t with
        | true => cases e
        | false => cases e; obtain ⟨_, _, es, h1, h2⟩ := s.live i _ q (fun z => by cases z); exact ⟨_, es, rfl, .inl h1, h2⟩
      | lkd t ks =>
        cases t with
        | true => cases e
        | false => cases e; obtain ⟨_, _, od, es, h1, h2⟩ := s.live i _ q (fun z => by cases z); exact ⟨_, es, rfl, .inr ⟨od, h1⟩, h2⟩
      | _ => cases e
/-- what a dict holds -/
theorem Sim.dget {C : GC} {F H : Hp} {ι : Nat → Addr} {G : Hg} {w u : W} {kvs : List (D × W)} {k : D} {x y : V} (s : Sim C F H ι G) (e : dicW w G = some kvs) (ek : keyW u = some k) (r : RpW C.m F ι G.length w x) (ru : RpW C.m F ι G.length u y) :
    ∃ a, x = .ref a ∧ IsD H a ∧ (∀ z, lookK kvs k = some z → ∃ v, DGet H a y (some v) ∧ RpW C.m F ι G.length z v) ∧ (lookK kvs k = none → DGet H a y none) := by
  obtain ⟨a, es, rfl, h1, h2⟩ := s.dic e r
  obtain ⟨rfl, kk, hk⟩ := keyW_inv ek
  simp only [RpW] at ru
  have ey := key_rp hk ru
  obtain ⟨l1, l2⟩ := h2.look hk
  exact ⟨a, rfl, .inl ⟨es, h1⟩, fun z hz => let ⟨v, e1, e2⟩ := l1 z hz; ⟨v, .inl ⟨es, kk, h1, ey, e1.symm⟩, e2⟩, fun hz => .inl ⟨es, kk, h1, ey, (l2 hz).symm⟩⟩

/-! ### d[k], k in d -/
def rDGetR (K : PySem.W.Frag) : R2 := fun x y H Q => ∃ a v, x = .ref a ∧ DGet H a y (some v) ∧ Q v H
theorem ix_dict {X : Cx} (hu : X.A.units + 65 < cLine) : IxR X (rDGetR X.K) := by
  intro value slice pins s σ H x y v u Q I rx ry h hs
  obtain ⟨a, z, rfl, g, q⟩ := h
  obtain rfl : v = Value.ref a := rx
  have hT := dict_typeIs I g
  have fin : wpAny (model X.prog X.w) X.A (getItem (.ref a) u) (EP X pins σ Q) X.xe s := d_getItem (by omega) I g ry fun w' s3 I3 rw' => ⟨z, H, I3, rw', q⟩
  have fin2 : wpAny (model X.prog X.w) X.A (subscripted slice false (.ref a) u) (fun r s₃ => wpAny (model X.prog X.w) X.A (letTemporaryGo value (.ref a) r >>= fun _ => pure r) (EP X pins σ Q) X.xe s₃) X.xe s := by
    rw [hs]
    exact wpAny_operating (wpAny_mono fin (fun r s₃ h₃ => wpAny_bind (wpAny_letTemporaryGo (wpAny_pure h₃))) fun _ _ x => x)
  unfold subscriptTail
  refine wpAny_bind ?_
  rw [getitemInPython_of_ne hT.not_modules]
  refine wpAny_bind (wpAny_specialOf hT PySem.F.slot_dict_getitem.lookup ?_)
  first
    | exact wpAny_pure (wpAny_bind fin2)
    | exact wpAny_bind (wpAny_pure (wpAny_bind fin2))
    | exact wpAny_bind fin2
def rIxD (K : PySem.W.Frag) : R2 := fun x y H Q => rIxA K x y H Q ∨ rDGetR K x y H Q
theorem ix_D {X : Cx} (hu : X.A.units + 65 < cLine) : IxR X (rIxD X.K) := ix_A.or (ix_dict hu)
def fIxD (w u : W) (G : Hg) : Option (W × Hg) := match dicW w G with
  | some kvs => (match keyW u with
    | some k => (lookK kvs k).map fun z => (z, G)
    | none => none)
  | none => fIx w u G
theorem og_ixD {X : Cx} : OpG X (rIxD X.K) fIxD := by
  intro C F H ι G w u x y z G' Q hK s rw_ ru e hQ
  unfold fIxD at e
  cases q : dicW w G with
  | none => rw [q] at e; exact .inl (og_ix C F H ι G w u x y z G' Q hK s rw_ ru e hQ)
  | some kvs =>
    rw [q] at e
    simp only at e
    cases q2 : keyW u with
    | none => rw [q2] at e; cases e
    | some k =>
      rw [q2] at e
      obtain ⟨t, q3, e3⟩ := map_some e
      cases e3
      obtain ⟨a, rfl, _, h1, _⟩ := s.dget q q2 rw_ ru
      obtain ⟨v, h2, h3⟩ := h1 _ q3
      exact .inr ⟨a, v, rfl, h2, hQ _ _ (out_w s h3)⟩
def rInD (K : PySem.W.Frag) (neg : Bool) : R2 := fun x y H Q => rInA K neg x y H Q ∨ ∃ a o, y = .ref a ∧ DGet H a x o ∧ Q (.bl (neg ^^ o.isSome)) H
theorem op_inD {X : Cx} (hu : X.A.units + 65 < cLine) : OpR X (compareOp .In) (rInD X.K false) := by
  intro pins s σ H x y v u Q I rx ry h
  rcases h with h | ⟨a, o, rfl, g, q⟩
  · exact op_inA hu pins s σ H x y v u Q I rx ry h
  · obtain rfl : u = Value.ref a := ry
    exact d_in (by omega) I g rx fun s' I' => ⟨.bl o.isSome, H, I', rfl, by rw [Bool.false_xor] at q; exact q⟩
theorem op_notInD {X : Cx} (hu : X.A.units + 65 < cLine) : OpR X (compareOp .NotIn) (rInD X.K true) := by
  intro pins s σ H x y v u Q I rx ry h
  rcases h with h | ⟨a, o, rfl, g, q⟩
  · exact op_notInA hu pins s σ H x y v u Q I rx ry h
  · obtain rfl : u = Value.ref a := ry
    exact d_notIn (by omega) I g rx fun s' I' => ⟨.bl (!o.isSome), H, I', rfl, by rw [Bool.true_xor] at q; exact q⟩
def fInD (neg : Bool) (w u : W) (G : Hg) : Option (W × Hg) := match dicW u G with
  | some kvs => (match keyW w with
    | some k => some (.d (.bl (neg ^^ (lookK kvs k).isSome)), G)
    | none => none)
  | none => fIn neg w u G
theorem og_inD {X : Cx} {neg : Bool} : OpG X (rInD X.K neg) (fInD neg) := by
  intro C F H ι G w u x y z G' Q hK s rw_ ru e hQ
  unfold fInD at e
  cases q : dicW u G with
  | none =>
    rw [q] at e
    exact .inl (og_in C F H ι G w u x y z G' Q hK s rw_ ru e hQ)
  | some kvs =>
    rw [q] at e
    simp only at e
    cases q2 : keyW w with
    | none => rw [q2] at e; cases e
    | some k =>
      rw [q2] at e
      cases e
      obtain ⟨a, rfl, _, h1, h2⟩ := s.dget q q2 ru rw_
      cases l : lookK kvs k with
      | none => exact .inr ⟨a, none, rfl, h2 l, hQ _ _ (out_flat s (by rw [l]; exact rpB))⟩
      | some t =>
        obtain ⟨v, h3, _⟩ := h1 t l
        exact .inr ⟨a, some v, rfl, h3, hQ _ _ (out_flat s (by rw [l]; exact rpB))⟩
/-! ### d[k] = v, xs[i] = v -/
def getDm (w : W) (G : Hg) : Option (Nat × List (D × W)) := match w with
  | .ref i => match G[i]? with
    | some (.dic false kvs) => some (i, kvs)
    | _ => none
  | _ => none
theorem getDm_inv {w : W} {G : Hg} {i : Nat} {kvs : List (D × W)} (h : getDm w G = some (i, kvs)) : w = .ref i ∧ G[i]? = some (.dic false kvs) := by
  cases w with
  | ref j =>
    simp only [getDm] at h
    cases q : G[j]? with
    | none => rw [q] at h; cases h
    | some o =>
      rw [q] at h
      cases o with
      | dic t us =>
        cases t with
        | true => cases h
        | false => cases h; exact ⟨rfl, q⟩
      | _ => cases h
  | _ => cases h
theorem out_wrD {C : GC} {F H : Hp} {ι : Nat → Addr} {G : Hg} {i : Nat} {kvs us : List (D × W)} {ys : List (Key × V)} {w : W} {v : V} (s : Sim C F H ι G) (h : G[i]? = some (.dic false kvs)) (r : RpWK C.m F ι G.length us ys) (rv : RpW C.m F ι G.length w v) :
    Out C F ι G.length w (G.set i (.dic false us)) v (upd H (ι i) (.dK ys)) := by
  have s' := s.write (o := .dK ys) (g := .dic false us) h (fun z => by cases z) ⟨ys, upd_same, r⟩
  refine ⟨F, ι, ⟨Same.refl _, fun _ _ => rfl, by simp⟩, s', ?_⟩
  rw [List.length_set]
  exact rv
theorem Sim.dicm {C : GC} {F H : Hp} {ι : Nat → Addr} {G : Hg} {i : Nat} {kvs : List (D × W)} (s : Sim C F H ι G) (h : G[i]? = some (.dic false kvs)) : ∃ es, H (ι i) = some (.dK es) ∧ RpWK C.m F ι G.length kvs es := by
  obtain ⟨_, _, es, h1, h2⟩ := s.live i _ h (fun z => by cases z)
  exact ⟨es, h1, h2⟩
def fSetD (w u v : W) (G : Hg) : Option Hg := match getDm w G with
  | some (i, kvs) => (match keyW u with
    | some k => if Nat.blt kvs.length 16777216 then some (G.set i (.dic false (putW kvs k v))) else none
    | none => none)
  | none => fSetL w u v G
def rSetD : V → V → V → Hp → (Hp → Prop) → Prop := fun o i v H Q => rSetL o i v H Q ∨ ∃ a H', o = .ref a ∧ DPut H a i v H' ∧ Q H'
theorem set_D {X : Cx} (hu : X.A.units + 65 < cLine) : PSet X rSetD := by
  intro pins s σ H o i v ov iv u Q I ro ri rv h
  rcases h with h | ⟨a, H', rfl, g, q⟩
  · exact set_list pins s σ H o i v ov iv u Q I ro ri rv h
  · obtain rfl : ov = Value.ref a := ro
    exact d_setItem (by omega) I g ri rv fun s' I' => ⟨H', I', q⟩
theorem sg_D {X : Cx} : SetG X rSetD fSetD := by
  intro C F H ι G wo wi wv o i v G' Q hK s ro ri rv e hQ
  unfold fSetD at e
  cases q : getDm wo G with
  | none => rw [q] at e; exact .inl (sg_list (X := X) C F H ι G wo wi wv o i v G' Q hK s ro ri rv e hQ)
  | some p =>
    obtain ⟨j, kvs⟩ := p
    rw [q] at e
    simp only at e
    cases q2 : keyW wi with
    | none => rw [q2] at e; cases e
    | some k =>
      rw [q2] at e
      simp only at e
      by_cases c : Nat.blt kvs.length 16777216 = true
      · rw [if_pos c] at e
        cases e
        obtain ⟨rfl, hj⟩ := getDm_inv q
        obtain ⟨rfl, kk, hk⟩ := keyW_inv q2
        simp only [RpW] at ro ri
        obtain ⟨hl, rfl⟩ := ro
        have ey := key_rp hk ri
        obtain ⟨es, h1, h2⟩ := s.dicm hj
        obtain ⟨F', ι', e1, s1, _⟩ := out_wrD (w := .d .non) (v := .non) s hj (h2.put hk rv) (by simp only [RpW, Rp])
        subst ey
        exact .inr ⟨_, _, rfl, .inl ⟨es, kk, h1, rfl, by rw [sizeLine_eq, ← h2.length]; exact Nat.le_of_ble_eq_true c, rfl⟩, hQ _ ⟨F', ι', e1, s1⟩⟩
      · rw [if_neg c] at e; cases e

/-! ### {}, d.get, d.pop, len -/
theorem out_newD {C : GC} {F H : Hp} {ι : Nat → Addr} {G : Hg} {kvs : List (D × W)} {es : List (Key × V)} {p : Addr} (s : Sim C F H ι G) (r : RpWK C.m F ι G.length kvs es) (h : H p = none) : Out C F ι G.length (.ref G.length) (G ++ [.dic false kvs]) (.ref p) (upd H p (.dK es)) := by
  obtain ⟨s', e⟩ := s.make (o := .dK es) (g := .dic false kvs) h fun ι' n' e => ⟨es, upd_same, r.mono e⟩
  refine ⟨_, _, e, s', ?_⟩
  simp only [RpW]
  exact ⟨by simp, by rw [putI_same]⟩
def allKD : List (D × W) → Option (List (D × D))
  | [] => some []
  | (k, .d x) :: r => (allKD r).map ((k, x) :: ·)
  | _ :: _ => none
theorem allKD_rp {M : Md} {F : Hp} {ι : Nat → Addr} {n : Nat} : ∀ {kvs : List (D × W)} {ds : List (D × D)} {es : List (Key × V)}, allKD kvs = some ds → RpWK M F ι n kvs es → RpK M F ds es
  | [], ds, es, h, r => by
    cases h
    simp only [RpWK] at r
    simpa only [RpK] using r
  | (k, .d x) :: kvs, ds, es, h, r => by
    simp only [allKD] at h
    obtain ⟨ds', q, rfl⟩ := map_some h
    simp only [RpWK, RpW] at r
    obtain ⟨kk, y, r', rfl, h1, h2, h3⟩ := r
    simp only [RpK]
    exact ⟨kk, y, r', rfl, h1, h2, allKD_rp q h3⟩
  | (_, .ref _) :: _, _, _, h, _ => by cases h
  | (_, .tup _) :: _, _, _, h, _ => by cases h
theorem out_dic {C : GC} {F H : Hp} {ι : Nat → Addr} {G : Hg} {ds : List (D × D)} {es : List (Key × V)} {p : Addr} (s : Sim C F H ι G) (r : RpK C.m F ds es) (h : H p = none) : ∀ od, Out C F ι G.length (.d (.dic false ds)) G (.ref p) (upd H p (.frz od (.dK es))) := fun od => by
  obtain ⟨s', e⟩ := s.lay (o := .frz od (.dK es)) h
  refine ⟨_, _, e, s', ?_⟩
  simp only [RpW, Rp]
  exact ⟨p, od, es, rfl, upd_same, r.mono e.fr⟩
/-- a new thing is locked as soon as it is there -/
theorem pe_lockRes {X : Cx} {e : Expr} {te : TE} (he : PE X e te) : PE X e (fun σ H Q => te σ H fun x H1 => Q x H1 ∨ ∃ d u, x = .ref d ∧ H1 d = some u ∧ Mut (some u) ∧ ∀ od, Q x (upd H1 d (.frz od u))) := ⟨fun pins s σ H Q I h => by
  refine thn (he.run pins s σ H _ I h) fun v s1 ⟨x, H1, I1, r1, q⟩ => ?_
  rcases q with q | ⟨d, u, rfl, h1, h2, q⟩
  · exact ⟨x, H1, I1, r1, q⟩
  · obtain ⟨od, I2⟩ := I1.lock h1 h2
    exact ⟨_, _, I2, r1, q od⟩⟩
def gDicN : GE := fun _ G => .ok (.ref G.length) (G ++ [.dic false []])
def gDicT : GE := fun _ G => .ok (.d (.dic false [])) G
section
variable {X : Cx} {o e f : Expr} {go ge gf : GE} {pos apos cpos : Pos}
theorem ge_dicN : GJE X (.Dict [] [] pos) gDicN := ⟨fun B F0 wx tk => PE.imp pe_dnewK fun σ H Q ⟨F, ι, ρ, G, s, he, hp⟩ p hpn => hp _ _ (out_newD s (by simp only [RpWK]) hpn)⟩
theorem ge_dicT : GJE X (.Dict [] [] pos) gDicT := ⟨fun B F0 wx tk => PE.imp (pe_lockRes pe_dnewK) fun σ H Q ⟨F, ι, ρ, G, s, he, hp⟩ p hpn => .inr ⟨p, _, rfl, upd_same, trivial, fun od => by
  rw [upd_upd]
  exact hp _ _ (out_dic s (by simp only [RpK]) hpn od)⟩⟩
/-- d.get(k), d.get(k, x) -/
def gGet (o a : GE) : GE := fun ρ G => (o ρ G).bind fun w G1 => if (dicW w G1).isSome then (a ρ G1).bind fun u G2 => match dicW w G2, keyW u with
  | some kvs, some k => .ok ((lookK kvs k).getD (.d .non)) G2
  | _, _ => .stuck else .stuck
def gGet2 (o a b : GE) : GE := fun ρ G => (o ρ G).bind fun w G1 => if (dicW w G1).isSome then (a ρ G1).bind fun u G2 => (b ρ G2).bind fun z G3 => match dicW w G3, keyW u with
  | some kvs, some k => .ok ((lookK kvs k).getD z) G3
  | _, _ => .stuck else .stuck
theorem isD_of {C : GC} {F H : Hp} {ι : Nat → Addr} {G : Hg} {w : W} {v : V} (s : Sim C F H ι G) (e : (dicW w G).isSome = true) (r : RpW C.m F ι G.length w v) : ∃ a, v = .ref a ∧ IsD H a := by
  obtain ⟨kvs, q⟩ := Option.isSome_iff_exists.mp e
  obtain ⟨a, es, h1, h2, _⟩ := s.dic q r
  exact ⟨a, h1, .inl ⟨es, h2⟩⟩
theorem ge_get (hu : X.A.units + 65 < cLine) (ho : GJE X o go) (he : GJE X e ge) (m : M1 X o "get" apos e cpos := by exact ⟨rfl, rfl, rfl, rfl⟩) : GJE X (.Call (.Attribute o "get" apos) [e] [] cpos) (gGet go ge) := ⟨fun B F0 wx tk => by
  refine PE.imp (pe_dget1 (by omega) (ho.run B F0 wx tk) (he.run B F0 wx tk) m) fun σ H Q ⟨F, ι, ρ, G, s, hr, hp⟩ => ?_
  refine ⟨F, ι, ρ, G, s, hr, (Post.fst hp).imp fun x H1 ⟨F1, ι1, w, G1, e1, s1, r1, p1⟩ => ?_⟩
  by_cases c : (dicW w G1).isSome = true
  · rw [if_pos c] at p1
    obtain ⟨a, rfl, hd⟩ := isD_of s1 c r1
    refine ⟨a, rfl, hd, F1, ι1, ρ, G1, s1, hr.mono e1, (Post.fst p1).imp fun y H2 ⟨F2, ι2, u, G2, e2, s2, r2, p2⟩ => ?_⟩
    split at p2
    · rename_i kvs k q q2
      obtain ⟨a', ea, _, h1, h2⟩ := s2.dget q q2 (r1.mono e2) r2
      cases ea
      cases l : lookK kvs k with
      | none => rw [l] at p2; exact ⟨none, h2 l, p2 _ H2 (out_flat s2 rpN)⟩
      | some t =>
        obtain ⟨v, h3, h4⟩ := h1 t l
        rw [l] at p2
        exact ⟨some v, h3, p2 _ H2 (out_w s2 h4)⟩
    · exact p2.elim
  · rw [if_neg c] at p1; exact p1.elim⟩
theorem ge_get2 (hu : X.A.units + 65 < cLine) (ho : GJE X o go) (he : GJE X e ge) (hf : GJE X f gf) (m : M2 X o "get" apos e f cpos := by exact ⟨rfl, rfl, rfl, rfl⟩) : GJE X (.Call (.Attribute o "get" apos) [e, f] [] cpos) (gGet2 go ge gf) := ⟨fun B F0 wx tk => by
  refine PE.imp (pe_dget2 (by omega) (ho.run B F0 wx tk) (he.run B F0 wx tk) (hf.run B F0 wx tk) m) fun σ H Q ⟨F, ι, ρ, G, s, hr, hp⟩ => ?_
  refine ⟨F, ι, ρ, G, s, hr, (Post.fst hp).imp fun x H1 ⟨F1, ι1, w, G1, e1, s1, r1, p1⟩ => ?_⟩
  by_cases c : (dicW w G1).isSome = true
  · rw [if_pos c] at p1
    obtain ⟨a, rfl, hd⟩ := isD_of s1 c r1
    refine ⟨a, rfl, hd, F1, ι1, ρ, G1, s1, hr.mono e1, (Post.fst p1).imp fun y H2 ⟨F2, ι2, u, G2, e2, s2, r2, p2⟩ => ⟨F2, ι2, ρ, G2, s2, (hr.mono e1).mono e2, (Post.fst p2).imp fun z H3 ⟨F3, ι3, t, G3, e3, s3, r3, p3⟩ => ?_⟩⟩
    split at p3
    · rename_i kvs k q q2
      obtain ⟨a', ea, _, h1, h2⟩ := s3.dget q q2 ((r1.mono e2).mono e3) (r2.mono e3)
      cases ea
      cases l : lookK kvs k with
      | none => rw [l] at p3; exact ⟨none, h2 l, p3 _ H3 (out_w s3 r3)⟩
      | some t =>
        obtain ⟨v, h3, h4⟩ := h1 t l
        rw [l] at p3
        exact ⟨some v, h3, p3 _ H3 (out_w s3 h4)⟩
    · exact p3.elim
  · rw [if_neg c] at p1; exact p1.elim⟩
/-- d.pop(k), there -/
def gPopD (o a : GE) : GE := fun ρ G => (o ρ G).bind fun w G1 => if (dicW w G1).isSome then (a ρ G1).bind fun u G2 => match getDm w G2, keyW u with
  | some (i, kvs), some k => (match lookK kvs k with
    | some z => .ok z (G2.set i (.dic false (dropW kvs k)))
    | none => .stuck)
  | _, _ => .stuck else .stuck
theorem ge_popD (ho : GJE X o go) (he : GJE X e ge) (m : M1 X o "pop" apos e cpos := by exact ⟨rfl, rfl, rfl, rfl⟩) : GJE X (.Call (.Attribute o "pop" apos) [e] [] cpos) (gPopD go ge) := ⟨fun B F0 wx tk => by
  refine PE.imp (pe_dpop1 (ho.run B F0 wx tk) (he.run B F0 wx tk) m) fun σ H Q ⟨F, ι, ρ, G, s, hr, hp⟩ => ?_
  refine ⟨F, ι, ρ, G, s, hr, (Post.fst hp).imp fun x H1 ⟨F1, ι1, w, G1, e1, s1, r1, p1⟩ => ?_⟩
  by_cases c : (dicW w G1).isSome = true
  · rw [if_pos c] at p1
    obtain ⟨a, rfl, hd⟩ := isD_of s1 c r1
    refine ⟨a, rfl, hd, F1, ι1, ρ, G1, s1, hr.mono e1, (Post.fst p1).imp fun y H2 ⟨F2, ι2, u, G2, e2, s2, r2, p2⟩ => ?_⟩
    split at p2
    · rename_i i kvs k q q2
      obtain ⟨rfl, hj⟩ := getDm_inv q
      obtain ⟨rfl, kk, hk⟩ := keyW_inv q2
      have r1' := r1.mono e2
      simp only [RpW] at r1' r2
      obtain ⟨hl, ea⟩ := r1'
      cases ea
      have ey := key_rp hk r2
      obtain ⟨es, h1, h2⟩ := s2.dicm hj
      obtain ⟨l1, _⟩ := h2.look hk
      cases l : lookK kvs k with
      | none => rw [l] at p2; exact p2.elim
      | some t =>
        rw [l] at p2
        obtain ⟨v, h3, h4⟩ := l1 t l
        exact ⟨es, kk, v, h1, ey, h3, p2 _ _ (out_wrD s2 hj (h2.drop hk) h4)⟩
    · exact p2.elim
  · rw [if_neg c] at p1; exact p1.elim⟩
end
def rLenD (K : PySem.W.Frag) : List V → Hp → VK → Prop := fun xs H Q => rLenA K xs H Q ∨ ∃ a es, xs = [.ref a] ∧ Rd H a (.dK es) ∧ Q (.int es.length) H
def fLenD : List W → Hg → Option (W × Hg)
  | [w], G => match dicW w G with
    | some kvs => some (.d (.int kvs.length), G)
    | none => fLen [w] G
  | _, _ => none
theorem call_lenD {X : Cx} : CallR X (.builtin "len") (rLenD X.K) := by
  intro pins s σ H xs us Q I r h
  rcases h with h | ⟨a, es, rfl, hd, q⟩
  · exact call_lenA pins s σ H xs us Q I r h
  · obtain ⟨u, rfl, rx⟩ := vals1 r
    obtain rfl : u = Value.ref a := rx
    exact d_len I hd fun t s' I' => ⟨.int es.length, H, I', ⟨t, rfl⟩, q⟩
theorem cg_lenD {X : Cx} : CallG X (rLenD X.K) fLenD := by
  intro C F H ι G ws xs z G' Q hK s r e hQ
  cases ws with
  | nil => cases e
  | cons w t =>
    cases t with
    | cons _ _ => cases e
    | nil =>
      simp only [fLenD] at e
      cases q : dicW w G with
      | none => rw [q] at e; exact .inl (cg_len C F H ι G [w] xs z G' Q hK s r e hQ)
      | some kvs =>
        rw [q] at e
        cases e
        obtain ⟨x, rfl, r1⟩ := r.inv1
        obtain ⟨a, es, rfl, h1, h2⟩ := s.dic q r1
        exact .inr ⟨a, es, rfl, h1, hQ _ _ (out_flat s (by rw [h2.length]; exact rpI))⟩
end Gh

set_option Elab.async false
set_option linter.all false
set_option maxRecDepth 100000
set_option maxHeartbeats 4000000
namespace Gh
open PySem PySem.Spec PyProof.Rows L2

/-! ### a statement runs while a dict is locked -/
theorem ps_lockX {X : Cx} {st : Stmt} {wx : WX} {T : WX → TS} (tk : Takes X wx) (h : ∀ wx', Takes X wx' → PS X st (T wx')) :
    PS X st (fun D σ H => ∃ d u, H d = some u ∧ Mut (some u) ∧ ∀ od, T (fun cls dd σ' H' => H' d = some (.frz od u) ∧ wx cls dd σ' (upd H' d u))
      ⟨fun σ' H' => H' d = some (.frz od u) ∧ D.nx σ' (upd H' d u), fun v H' => H' d = some (.frz od u) ∧ D.rt v (upd H' d u), fun σ' H' => H' d = some (.frz od u) ∧ D.bk σ' (upd H' d u), fun σ' H' => H' d = some (.frz od u) ∧ D.ct σ' (upd H' d u)⟩ σ (upd H d (.frz od u))) := ⟨fun pins s σ H D I ⟨d, u, hd, mu, hw⟩ => by
  have nf := I.nofrz hd mu
  obtain ⟨od, I1⟩ := I.lock hd mu
  have tk' : Takes X (fun cls dd σ' H' => H' d = some (.frz od u) ∧ wx cls dd σ' (upd H' d u)) := fun e s' ⟨a, B, sI, pins', σ', H', cls, dd, e1, I', nb, up, sky, na, os, ag, hz, hx⟩ =>
    tk e s' ⟨a, B, sI, pins', σ', upd H' d u, cls, dd, e1, I'.unlock hz nf, nb, up, sky, by rw [upd_ne (fun z => by rw [z, hz] at na; cases na)]; exact na, os, ag, hx⟩
  refine thn ((h _ tk').run pins s σ _ _ I1 (hw od)) fun f s1 q => ?_
  cases f with
  | next => obtain ⟨σ', H', I2, e, q⟩ := q; exact ⟨σ', _, I2.unlock e nf, q⟩
  | brk => obtain ⟨σ', H', I2, e, q⟩ := q; exact ⟨σ', _, I2.unlock e nf, q⟩
  | cont => obtain ⟨σ', H', I2, e, q⟩ := q; exact ⟨σ', _, I2.unlock e nf, q⟩
  | ret v => obtain ⟨x, σ', H', I2, r, e, q⟩ := q; exact ⟨x, σ', _, I2.unlock e nf, r, q⟩⟩
def unlG (i : Nat) (G : Hg) : Option Hg := match G[i]? with
  | some (.lkd t kvs) => some (G.set i (.dic t kvs))
  | _ => none
def unlS (i : Nat) : SRes → SRes
  | .stuck => .stuck
  | .exc e ρ G => match unlG i G with
    | some G' => .exc e ρ G'
    | none => .stuck
  | .nx ρ G => match unlG i G with
    | some G' => .nx ρ G'
    | none => .stuck
  | .bk ρ G => match unlG i G with
    | some G' => .bk ρ G'
    | none => .stuck
  | .ct ρ G => match unlG i G with
    | some G' => .ct ρ G'
    | none => .stuck
  | .ret w G => match unlG i G with
    | some G' => .ret w G'
    | none => .stuck
def gLock (k : Nat) (g : GS) : GS := fun ρ G => match ρ[k]? with
  | some (some (.ref i)) => (match G[i]? with
    | some (.dic t kvs) => unlS i (g ρ (G.set i (.lkd t kvs)))
    | _ => g ρ G)
  | _ => g ρ G
/-- the dict's contents as the heap has them -/
inductive DicAt : Bool → HO → Prop where
  | k (es : List (Key × V)) : DicAt false (.dK es)
  | t (es : List (List Key × V)) : DicAt true (.dT es)
theorem Sim.lkB {m : Md} {B F0 : Hp} {wx wx' : WX} {F H : Hp} {ι : Nat → Addr} {G : Hg} {i : Nat} {t : Bool} {kvs : List (D × W)} (s : Sim ⟨m, B, F0, wx⟩ F H ι G) (hi : G[i]? = some (.dic t kvs)) :
    ∃ u, H (ι i) = some u ∧ Mut (some u) ∧ DicAt t u ∧ B (ι i) = none ∧ ∀ od, Sim ⟨m, upd B (ι i) (.frz od u), F0, wx'⟩ F (upd H (ι i) (.frz od u)) ι (G.set i (.lkd t kvs)) := by
  obtain ⟨hF, hB', r⟩ := s.live i _ hi (fun z => by cases z)
  have hB := hB'.1 rfl
  have hl : i < G.length := by
    rcases Nat.lt_or_ge i G.length with z | z
    · exact z
    · rw [List.getElem?_eq_none z] at hi; cases hi
  have mk : ∀ u, H (ι i) = some u → (∀ od, RpO m F ι G.length (upd H (ι i) (.frz od u)) (ι i) (.lkd t kvs)) → ∀ od, Sim ⟨m, upd B (ι i) (.frz od u), F0, wx'⟩ F (upd H (ι i) (.frz od u)) ι (G.set i (.lkd t kvs)) := by
    intro u hu hr od
    have at_ : ∀ j g, (G.set i (.lkd t kvs))[j]? = some g → (j = i ∧ g = .lkd t kvs) ∨ (j ≠ i ∧ G[j]? = some g) := fun j g q => by
      by_cases e : i = j
      · subst e
        rw [List.getElem?_set_self hl] at q
        exact .inl ⟨rfl, (Option.some.inj q).symm⟩
      · rw [List.getElem?_set_ne e] at q
        exact .inr ⟨fun z => e z.symm, q⟩
    have ne : ∀ j g, j ≠ i → G[j]? = some g → g ≠ .dead → ι j ≠ ι i := fun j g hj q hg e => hj (s.inj j i g _ q hg hi (fun z => by cases z) e)
    refine ⟨fun b o q => by rw [upd_ne (fun e => by rw [e, hF] at q; cases q)]; exact s.fh _ _ q, fun b o q => ?_, s.ff, fun b o q => ?_, fun j g hj hg => ?_, fun j k g g2 hj hg hk hg2 e => ?_⟩
    · have q' : upd B (ι i) (.frz od u) b = some o := q
      by_cases e : b = ι i
      · rw [e, upd_same] at q' ⊢; exact q'
      · rw [upd_ne e] at q' ⊢; exact s.bh _ _ q'
    · rcases s.new b o q with z | z
      · exact .inl z
      · refine .inr ?_
        show upd B (ι i) (.frz od u) b = none
        rw [upd_ne (fun e => by rw [e, hF] at q; cases q)]
        exact z
    · rw [List.length_set]
      rcases at_ j g hj with ⟨rfl, rfl⟩ | ⟨z, q⟩
      · refine ⟨hF, ⟨(fun hL => by cases hL), fun _ z => ?_⟩, hr od⟩
        have z' : upd B (ι j) (.frz od u) (ι j) = none := z
        rw [upd_same] at z'
        cases z'
      · obtain ⟨a, b, c⟩ := s.live j g q hg
        have n := ne j g z q hg
        have e : upd B (ι i) (.frz od u) (ι j) = B (ι j) := upd_ne n
        exact ⟨a, ⟨fun hL => e.trans (b.1 hL), fun hL y => b.2 hL (e.symm.trans y)⟩, c.mono .refl fun w y => by rw [upd_ne n]; exact y⟩
    · rcases at_ j g hj with ⟨zj, _⟩ | ⟨zj, qj⟩ <;> rcases at_ k g2 hk with ⟨zk, _⟩ | ⟨zk, qk⟩
      · rw [zj, zk]
      · rw [zj] at e; exact absurd e.symm (ne k g2 zk qk hg2)
      · rw [zk] at e; exact absurd e (ne j g zj qj hg)
      · exact s.inj j k g g2 qj hg qk hg2 e
  cases t with
  | false =>
    obtain ⟨es, h1, h2⟩ := r
    exact ⟨_, h1, trivial, .k es, hB, mk _ h1 fun od => ⟨od, es, upd_same, h2⟩⟩
  | true =>
    obtain ⟨es, h1, h2⟩ := r
    exact ⟨_, h1, trivial, .t es, hB, mk _ h1 fun od => ⟨od, es, upd_same, h2⟩⟩
theorem Sim.unlkB {m : Md} {B F0 : Hp} {wx wx' : WX} {F H : Hp} {ι : Nat → Addr} {G G' : Hg} {i : Nat} {d : Addr} {u : HO} {od : Obj} {t0 : Bool} (s : Sim ⟨m, upd B d (.frz od u), F0, wx'⟩ F H ι G) (hd : ι i = d) (hB : B d = none) (hu : DicAt t0 u) (e : unlG i G = some G') :
    H d = some (.frz od u) ∧ Sim ⟨m, B, F0, wx⟩ F (upd H d u) ι G' ∧ G'.length = G.length := by
  have hH : H d = some (.frz od u) := s.bh d _ upd_same
  unfold unlG at e
  cases q : G[i]? with
  | none => rw [q] at e; cases e
  | some o =>
    rw [q] at e
    cases o with
    | lkd t kvs =>
      cases e
      obtain ⟨hF, _, r⟩ := s.live i _ q (fun z => by cases z)
      rw [hd] at hF r
      have hl : i < G.length := by
        rcases Nat.lt_or_ge i G.length with z | z
        · exact z
        · rw [List.getElem?_eq_none z] at q; cases q
      refine ⟨hH, ⟨fun b o z => by rw [upd_ne (fun e => by rw [e, hF] at z; cases z)]; exact s.fh _ _ z, fun b o z => ?_, s.ff, fun b o z => ?_, fun j g hj hg => ?_, fun j k g g2 hj hg hk hg2 ee => ?_⟩, by rw [List.length_set]⟩
      · have ne : b ≠ d := fun e => by rw [e] at z; have z' : B d = some o := z; rw [hB] at z'; cases z'
        rw [upd_ne ne]
        refine s.bh b o ?_
        show upd B d (.frz od u) b = some o
        rw [upd_ne ne]
        exact z
      · rcases s.new b o z with z1 | z1
        · exact .inl z1
        · refine .inr ?_
          have z2 : upd B d (.frz od u) b = none := z1
          rw [upd_ne (fun e => by rw [e, hF] at z; cases z)] at z2
          exact z2
      · rw [List.length_set]
        by_cases e : i = j
        · subst e
          rw [List.getElem?_set_self hl] at hj
          cases hj
          rw [hd]
          refine ⟨hF, ⟨fun _ => hB, fun z => by cases z⟩, ?_⟩
          cases t with
          | false =>
            obtain ⟨od', es, h1, h2⟩ := r
            rw [hH] at h1
            cases h1
            exact ⟨es, upd_same, h2⟩
          | true =>
            obtain ⟨od', es, h1, h2⟩ := r
            rw [hH] at h1
            cases h1
            exact ⟨es, upd_same, h2⟩
        · rw [List.getElem?_set_ne e] at hj
          obtain ⟨a, b, c⟩ := s.live j g hj hg
          have ne : ι j ≠ d := fun z => e (s.inj i j _ g q (fun z => by cases z) hj hg (by rw [hd, z]))
          have e2 : upd B d (.frz od u) (ι j) = B (ι j) := upd_ne ne
          exact ⟨a, ⟨fun hL => e2.symm.trans (b.1 hL), fun hL y => b.2 hL (e2.trans y)⟩, c.mono .refl fun w z => by rw [upd_ne ne]; exact z⟩
      · have back : ∀ (j : Nat) (g : GO), (G.set i (.dic t kvs))[j]? = some g → g ≠ .dead → ∃ g', G[j]? = some g' ∧ g' ≠ .dead := fun j g hj hg => by
          by_cases e : i = j
          · subst e; exact ⟨_, q, fun z => by cases z⟩
          · rw [List.getElem?_set_ne e] at hj; exact ⟨g, hj, hg⟩
        obtain ⟨g', a1, a2⟩ := back j g hj hg
        obtain ⟨g2', b1, b2⟩ := back k g2 hk hg2
        exact s.inj j k g' g2' a1 a2 b1 b2 ee
    | _ => cases e
theorem ps_or {X : Cx} {st : Stmt} {t u : TS} (h : PS X st t) (k : PS X st u) : PS X st (fun D σ H => t D σ H ∨ u D σ H) := ⟨fun pins s σ H D I q => by
  rcases q with q | q
  · exact h.run pins s σ H D I q
  · exact k.run pins s σ H D I q⟩
theorem gs_lock (k : Nat) {X : Cx} {st : Stmt} {g : GS} (h : GJS X st g) : GJS X st (gLock k g) := ⟨fun B F0 wx tk => by
  refine PS.imp (ps_or (h.run B F0 wx tk) (ps_lockX (T := fun wx' D σ H => ∃ B' F0', gTS (gc X B' F0' wx') g D σ H) tk fun wx' tk' => ⟨fun pins s σ H D I ⟨B', F0', q⟩ => (h.run B' F0' wx' tk').run pins s σ H D I q⟩)) fun D σ H ⟨F, ι, ρ, G, s, he, hp⟩ => ?_
  have plain : gLock k g ρ G = g ρ G → gTS (gc X B F0 wx) g D σ H := fun e => ⟨F, ι, ρ, G, s, he, by rw [← e]; exact hp⟩
  cases qk : ρ[k]? with
  | none => exact .inl (plain (by unfold gLock; rw [qk]))
  | some o =>
    cases o with
    | none => exact .inl (plain (by unfold gLock; rw [qk]))
    | some w =>
      cases w with
      | d x => exact .inl (plain (by unfold gLock; rw [qk]))
      | tup ws => exact .inl (plain (by unfold gLock; rw [qk]))
      | ref i =>
        cases qi : G[i]? with
        | none => exact .inl (plain (by unfold gLock; rw [qk]; simp only; rw [qi]))
        | some go =>
          cases go with
          | dic t kvs =>
            refine .inr ?_
            have e : gLock k g ρ G = unlS i (g ρ (G.set i (.lkd t kvs))) := by unfold gLock; rw [qk]; simp only; rw [qi]
            rw [e] at hp
            obtain ⟨u, hu, mu, du, hB, hs⟩ := Sim.lkB (wx' := fun _ _ _ _ => False) s qi
            have hl : i < G.length := by
              rcases Nat.lt_or_ge i G.length with z | z
              · exact z
              · rw [List.getElem?_eq_none z] at qi; cases qi
            refine ⟨ι i, u, hu, mu, fun od => ⟨upd B (ι i) (.frz od u), F0, F, ι, ρ, G.set i (.lkd t kvs), (hs od).wx, by rw [List.length_set]; exact he, ?_⟩⟩
            rw [List.length_set]
            cases r : g ρ (G.set i (.lkd t kvs)) with
            | stuck => rw [r] at hp; exact hp
            | exc x ρ' G2 =>
              rw [r] at hp
              simp only [unlS] at hp
              cases q : unlG i G2 with
              | none => rw [q] at hp; exact hp.elim
              | some G3 =>
                rw [q] at hp
                intro cls dd σ' H' F' ι' e1 s1 he1 xr
                obtain ⟨h1, s2, hl2⟩ := Sim.unlkB (wx := wx) s1 (e1.io i hl) hB du q
                refine ⟨h1, hp cls dd σ' (upd H' (ι i) u) F' ι' ⟨e1.fr, e1.io, by rw [hl2]; exact e1.le⟩ s2 (by rw [hl2]; exact he1) ?_⟩
                obtain ⟨Ca, x1, x2, x3, x4⟩ := xr
                refine ⟨Ca, x1, x2, x3, ?_⟩
                cases dd with
                | none => exact x4
                | some dx =>
                  obtain ⟨es, x5, x6⟩ := x4
                  exact ⟨es, x5, x6⟩
            | nx ρ' G2 =>
              rw [r] at hp
              simp only [unlS] at hp
              cases q : unlG i G2 with
              | none => rw [q] at hp; exact hp.elim
              | some G3 =>
                rw [q] at hp
                rintro σ' H' ⟨F', ι', e1, s1, he1⟩
                obtain ⟨h1, s2, hl2⟩ := Sim.unlkB (wx := wx) s1 (e1.io i hl) hB du q
                exact ⟨h1, hp σ' _ ⟨F', ι', ⟨e1.fr, e1.io, by rw [hl2]; exact e1.le⟩, s2, by rw [hl2]; exact he1⟩⟩
            | bk ρ' G2 =>
              rw [r] at hp
              simp only [unlS] at hp
              cases q : unlG i G2 with
              | none => rw [q] at hp; exact hp.elim
              | some G3 =>
                rw [q] at hp
                rintro σ' H' ⟨F', ι', e1, s1, he1⟩
                obtain ⟨h1, s2, hl2⟩ := Sim.unlkB (wx := wx) s1 (e1.io i hl) hB du q
                exact ⟨h1, hp σ' _ ⟨F', ι', ⟨e1.fr, e1.io, by rw [hl2]; exact e1.le⟩, s2, by rw [hl2]; exact he1⟩⟩
            | ct ρ' G2 =>
              rw [r] at hp
              simp only [unlS] at hp
              cases q : unlG i G2 with
              | none => rw [q] at hp; exact hp.elim
              | some G3 =>
                rw [q] at hp
                rintro σ' H' ⟨F', ι', e1, s1, he1⟩
                obtain ⟨h1, s2, hl2⟩ := Sim.unlkB (wx := wx) s1 (e1.io i hl) hB du q
                exact ⟨h1, hp σ' _ ⟨F', ι', ⟨e1.fr, e1.io, by rw [hl2]; exact e1.le⟩, s2, by rw [hl2]; exact he1⟩⟩
            | ret w G2 =>
              rw [r] at hp
              simp only [unlS] at hp
              cases q : unlG i G2 with
              | none => rw [q] at hp; exact hp.elim
              | some G3 =>
                rw [q] at hp
                rintro v H' ⟨F', ι', e1, s1, r1⟩
                obtain ⟨h1, s2, hl2⟩ := Sim.unlkB (wx := wx) s1 (e1.io i hl) hB du q
                exact ⟨h1, hp v _ ⟨F', ι', ⟨e1.fr, e1.io, by rw [hl2]; exact e1.le⟩, s2, by rw [hl2]; exact r1⟩⟩
          | _ => exact .inl (plain (by unfold gLock; rw [qk]; simp only; rw [qi]))⟩
end Gh

set_option Elab.async false
set_option linter.all false
set_option maxRecDepth 100000
set_option maxHeartbeats 4000000
namespace Gh
open PySem PySem.Spec PyProof.Rows L2

/-! ### locked dicts are walked -/
def lkW : W → Hg → Option (List (D × W))
  | .d (.dic false kvs), _ => some (kvs.map fun p => (p.1, .d p.2))
  | .ref i, G => match G[i]? with
    | some (.lkd false kvs) => some kvs
    | _ => none
  | _, _ => none
/-- where it stands: what stays there as long as B stays -/
theorem Sim.lkAtB {C : GC} {F H : Hp} {ι : Nat → Addr} {G : Hg} {w : W} {kvs : List (D × W)} {v : V} (s : Sim C F H ι G) (e : lkW w G = some kvs) (r : RpW C.m F ι G.length w v) :
    ∃ a od es, v = .ref a ∧ H a = some (.frz od (.dK es)) ∧ (F a = some (.frz od (.dK es)) ∨ C.B a = some (.frz od (.dK es))) ∧ RpWK C.m F ι G.length kvs es := by
  cases w with
  | tup ws => cases e
  | d x =>
    simp only [RpW] at r
    cases x with
    | dic t ks =>
      cases t with
      | true => cases e
      | false =>
        cases e
        simp only [Rp] at r
        obtain ⟨a, od, es, rfl, h1, h2⟩ := r
        exact ⟨a, od, es, rfl, s.fh _ _ h1, .inl h1, h2.wk⟩
    | _ => cases e
  | ref i =>
    simp only [RpW] at r
    obtain ⟨hi, rfl⟩ := r
    simp only [lkW] at e
    cases q : G[i]? with
    | none => rw [q] at e; cases e
    | some o =>
      rw [q] at e
      cases o with
      | lkd t ks =>
        cases t with
        | true => cases e
        | false =>
          cases e
          obtain ⟨_, b, od, es, h1, h2⟩ := s.live i _ q (fun z => by cases z)
          refine ⟨_, od, es, rfl, h1, .inr ?_, h2⟩
          cases hb : C.B (ι i) with
          | none => exact absurd hb (b.2 rfl)
          | some u =>
            have hu := s.bh _ _ hb
            rw [h1] at hu
            exact hu.symm ▸ rfl
      | _ => cases e
theorem RpWK.get {M : Md} {F : Hp} {ι : Nat → Addr} {n : Nat} : ∀ {kvs : List (D × W)} {es : List (Key × V)} {i : Nat} {p : D × W}, RpWK M F ι n kvs es → kvs[i]? = some p → ∃ k v, es[i]? = some (k, v) ∧ keyD p.1 = some k ∧ RpW M F ι n p.2 v
  | [], _, i, p, _, h => by simp at h
  | (k, w) :: kvs, es, 0, p, h, e => by
    simp only [RpWK] at h
    obtain ⟨kk, x, r, rfl, h1, h2, h3⟩ := h
    simp only [List.getElem?_cons_zero, Option.some.injEq] at e
    subst e
    exact ⟨kk, x, rfl, h1, h2⟩
  | (k, w) :: kvs, es, i + 1, p, h, e => by
    simp only [RpWK] at h
    obtain ⟨kk, x, r, rfl, h1, h2, h3⟩ := h
    obtain ⟨k2, v2, e2, e3, e4⟩ := RpWK.get (i := i) h3 (by simpa using e)
    exact ⟨k2, v2, by simpa using e2, e3, e4⟩
theorem key_back {M : Md} {F : Hp} {d : D} {k : Key} (h : keyD d = some k) : Rp M F d (kV k) := by
  cases d with
  | int i => cases h; simp only [Rp]; rfl
  | str i => cases h; simp only [Rp]; rfl
  | _ => cases h
inductive DicK where
  | keys | vals | items
def DicK.of : DicK → List (D × W) → List W
  | .keys, kvs => kvs.map fun p => .d p.1
  | .vals, kvs => kvs.map fun p => p.2
  | .items, kvs => kvs.map fun p => mkTup [.d p.1, p.2]
def DicK.it : DicK → Addr → Obj → List (Key × V) → It
  | .keys, d, o, es => Itk d o es
  | .vals, d, o, es => Itd d o es
  | .items, d, o, es => Iti d o es
theorem DicK.len (k : DicK) (kvs : List (D × W)) : (k.of kvs).length = kvs.length := by cases k <;> simp [DicK.of]
theorem itg_dic (k : DicK) {C0 : GC} {F : Hp} {ι : Nat → Addr} {n : Nat} {kvs : List (D × W)} {es : List (Key × V)} {d : Addr} {od : Obj} (hs : F d = some (.frz od (.dK es)) ∨ C0.B d = some (.frz od (.dK es))) (r : RpWK C0.m F ι n kvs es) :
    ItG C0.m (k.it d od es) F ι n (k.of kvs) (fun _ => true) C0.B := by
  intro C F2 H2 ι2 G2 hm hbb ee s2 _
  have hH : H2 d = some (.frz od (.dK es)) := by
    rcases hs with h | h
    · exact s2.fh _ _ (ee.fr _ _ h)
    · exact s2.bh _ _ (hbb _ _ h)
  have r2 := r.mono ee
  have hl := r.length
  cases k with
  | keys =>
    have wk := walk_keys (d := d) (o := od) (kvs := es)
    refine ⟨fun i w hi => ?_, by rw [DicK.len, hl]; exact wk.stops H2 hH⟩
    simp only [DicK.of, List.getElem?_map] at hi
    obtain ⟨p, hp, rfl⟩ := map_some hi
    obtain ⟨kk, v, e1, e2, e3⟩ := r2.get hp
    have hi' : i < es.length := (List.getElem?_eq_some_iff.mp e1).1
    refine ⟨wk.goes i H2 hi' hH, fun x H3 y => ?_⟩
    obtain ⟨rfl, k2, v2, e4, rfl⟩ := wk.yields i H2 x H3 hi' hH y
    rw [e1] at e4
    cases e4
    exact ⟨F2, .refl, s2, by simp only [RpW]; exact key_back e2⟩
  | vals =>
    have wk := walk_values (d := d) (o := od) (kvs := es)
    refine ⟨fun i w hi => ?_, by rw [DicK.len, hl]; exact wk.stops H2 hH⟩
    simp only [DicK.of, List.getElem?_map] at hi
    obtain ⟨p, hp, rfl⟩ := map_some hi
    obtain ⟨kk, v, e1, e2, e3⟩ := r2.get hp
    have hi' : i < es.length := (List.getElem?_eq_some_iff.mp e1).1
    refine ⟨wk.goes i H2 hi' hH, fun x H3 y => ?_⟩
    obtain ⟨rfl, k2, e4⟩ := wk.yields i H2 x H3 hi' hH y
    rw [e1] at e4
    cases e4
    exact ⟨F2, .refl, s2, e3⟩
  | items =>
    have wk := walk_items (d := d) (o := od) (kvs := es)
    refine ⟨fun i w hi => ?_, by rw [DicK.len, hl]; exact wk.stops H2 hH⟩
    simp only [DicK.of, List.getElem?_map] at hi
    obtain ⟨p, hp, rfl⟩ := map_some hi
    obtain ⟨kk, v, e1, e2, e3⟩ := r2.get hp
    have hi' : i < es.length := (List.getElem?_eq_some_iff.mp e1).1
    refine ⟨wk.goes i H2 hi' hH, fun x H3 y => ?_⟩
    obtain ⟨T, x1, x2, rfl, hT, rfl, h1, h2⟩ := wk.yields i H2 x H3 hi' hH y
    simp only [e1, Option.map_some, Option.some.injEq] at h1 h2
    subst h1 h2
    rw [← hm]
    refine yield_tup (ws := [.d p.1, p.2]) s2 ?_ hT
    rw [← hm] at e3
    simp only [RpWL, RpW]
    exact ⟨_, _, rfl, key_back e2, _, _, rfl, e3, rfl⟩
def gDicI (k : DicK) (a : GE) : GI := fun ρ G => (a ρ G).bind fun w G1 => match lkW w G1 with
  | some kvs => .ok (k.of kvs, fun _ => true) G1
  | none => .stuck
section
variable {X : Cx} {tg e : Expr} {ge : GE} {apos cpos tpos : Pos}
theorem gDicI_ok {k : DicK} {B F0 : Hp} {wx : WX} {σ : L2.St} {H : Hp} {R : It → Hp → Prop} (h : gTI (gc X B F0 wx) (gDicI k ge) σ H R) :
    gTE (gc X B F0 wx) ge σ H fun x H1 => ∃ d o es, x = .ref d ∧ H1 d = some (.frz o (.dK es)) ∧ R (k.it d o es) H1 := by
  obtain ⟨F, ι, ρ, G, s, he, hp⟩ := h
  refine ⟨F, ι, ρ, G, s, he, (PostI.fst hp).imp fun v H1 ⟨F1, ι1, w, G1, e1, s1, r1, p1⟩ => ?_⟩
  cases q : lkW w G1 with
  | none => rw [q] at p1; exact p1.elim
  | some kvs =>
    rw [q] at p1
    obtain ⟨a, od, es, rfl, h1, h2, h3⟩ := s1.lkAtB q r1
    exact ⟨a, od, es, rfl, h1, p1 _ H1 F1 ι1 .refl s1 (itg_dic k h2 h3)⟩
theorem gi_keys (h : GJE X e ge) : GJI X tg e (gDicI .keys ge) := ⟨fun B F0 wx tk => PI.imp (pi_keys (h.run B F0 wx tk)) fun σ H R q => by
  obtain ⟨F, ι, ρ, G, s, he, hp⟩ := gDicI_ok q
  exact ⟨F, ι, ρ, G, s, he, hp.imp fun v H1 ⟨d, o, es, h1, h2, h3⟩ => ⟨d, o, h1, .inl ⟨es, h2, h3⟩⟩⟩⟩
theorem gi_vals (h : GJE X e ge) (hbase : attributeBase e "values" X.env (eval e X.env) = eval e X.env := by rfl) (hline : (apos.endLine == cpos.line) = true := by rfl) : GJI X tg (.Call (.Attribute e "values" apos) [] [] cpos) (gDicI .vals ge) :=
  ⟨fun B F0 wx tk => PI.imp (pi_values (h.run B F0 wx tk) hbase hline) fun σ H R q => gDicI_ok q⟩
theorem gi_items {elts : List Expr} {kk : Nat} (h : GJE X e ge) (hbase : attributeBase e "items" X.env (eval e X.env) = eval e X.env := by rfl) (hline : (apos.endLine == cpos.line) = true := by rfl) : GJI X (.Tuple elts kk tpos) (.Call (.Attribute e "items" apos) [] [] cpos) (gDicI .items ge) :=
  ⟨fun B F0 wx tk => PI.imp (pi_items (h.run B F0 wx tk) hbase hline) fun σ H R q => gDicI_ok q⟩
end

/-! ### d == {}, d != {} -/
def rEqE (neg : Bool) : R2 := fun x y H Q => ∃ a b es, x = .ref a ∧ y = .ref b ∧ Rd H a (.dK es) ∧ Rd H b (.dK []) ∧ Q (.bl (neg ^^ es.isEmpty)) H
theorem op_eqE {X : Cx} (hu : X.A.units + 65 < cLine) : OpR X (compareOp .Eq) (rEqE false) := by
  intro pins s σ H x y v u Q I rx ry h
  obtain ⟨a, b, es, rfl, rfl, ea, eb, q⟩ := h
  obtain rfl : v = Value.ref a := rx
  obtain rfl : u = Value.ref b := ry
  obtain ⟨_, ya, va, ra, da⟩ := dk_rd I.hok ea
  obtain ⟨_, yb, vb, rb, db⟩ := dk_rd I.hok eb
  have hlb : vb.length = 0 := rb.length.symm
  refine PySem.W.keq_eq (knd := mixKind X.prog X.w) (r := true) ya yb da db (by omega) (fun hl => hits_all rb ra fun p hp => ?_) (fin_bl I q ?_)
  · have : es.length = 0 := by rw [ra.length, hl, hlb]
    rw [List.eq_nil_of_length_eq_zero this] at hp
    cases hp
  · have : va.length = es.length := ra.length.symm
    cases es with
    | nil => simp [hlb, this]
    | cons p r => simp [hlb, this]
theorem op_neE {X : Cx} (hu : X.A.units + 65 < cLine) : OpR X (compareOp .NotEq) (rEqE true) := by
  intro pins s σ H x y v u Q I rx ry h
  obtain ⟨a, b, es, rfl, rfl, ea, eb, q⟩ := h
  obtain rfl : v = Value.ref a := rx
  obtain rfl : u = Value.ref b := ry
  obtain ⟨_, ya, va, ra, da⟩ := dk_rd I.hok ea
  obtain ⟨_, yb, vb, rb, db⟩ := dk_rd I.hok eb
  have hlb : vb.length = 0 := rb.length.symm
  refine PySem.W.keq_ne (knd := mixKind X.prog X.w) (r := true) ya yb da db (by omega) (fun hl => hits_all rb ra fun p hp => ?_) (fin_bl I q ?_)
  · have : es.length = 0 := by rw [ra.length, hl, hlb]
    rw [List.eq_nil_of_length_eq_zero this] at hp
    cases hp
  · have : va.length = es.length := ra.length.symm
    cases es with
    | nil => simp [hlb, this]
    | cons p r => simp [hlb, this]
def fEqE (neg : Bool) (w u : W) (G : Hg) : Option (W × Hg) := match dicW w G, dicW u G with
  | some kvs, some [] => some (.d (.bl (neg ^^ kvs.isEmpty)), G)
  | some _, _ => none
  | none, _ => fEq neg w u G
theorem rEqE_of {C : GC} {F H : Hp} {ι : Nat → Addr} {G : Hg} {w u : W} {kvs : List (D × W)} {x y : V} {neg : Bool} {Q : VK} (s : Sim C F H ι G) (q : dicW w G = some kvs) (q2 : dicW u G = some []) (rw_ : RpW C.m F ι G.length w x) (ru : RpW C.m F ι G.length u y)
    (hQ : ∀ v H', Out C F ι G.length (.d (.bl (neg ^^ kvs.isEmpty))) G v H' → Q v H') : rEqE neg x y H Q := by
  obtain ⟨a, es, rfl, h1, h2⟩ := s.dic q rw_
  obtain ⟨b, es2, rfl, h3, h4⟩ := s.dic q2 ru
  simp only [RpWK] at h4
  subst h4
  refine ⟨a, b, es, rfl, rfl, h1, h3, hQ _ _ (out_flat s ?_)⟩
  have : kvs.isEmpty = es.isEmpty := by
    have hl := h2.length
    cases kvs with
    | nil => cases es with
      | nil => rfl
      | cons _ _ => simp at hl
    | cons _ _ => cases es with
      | nil => simp at hl
      | cons _ _ => rfl
  rw [this]
  exact rpB
theorem og_eqE {X : Cx} : OpG X (fun x y H Q => rEqD X.K x y H Q ∨ rEqE false x y H Q) (fEqE false) := by
  intro C F H ι G w u x y z G' Q hK s rw_ ru e hQ
  unfold fEqE at e
  split at e
  · rename_i kvs q q2
    cases e
    exact .inr (rEqE_of s q q2 rw_ ru hQ)
  · cases e
  · exact .inl (og_eq C F H ι G w u x y z G' Q hK s rw_ ru e hQ)
theorem og_neE {X : Cx} : OpG X (fun x y H Q => rNeD X.K x y H Q ∨ rEqE true x y H Q) (fEqE true) := by
  intro C F H ι G w u x y z G' Q hK s rw_ ru e hQ
  unfold fEqE at e
  split at e
  · rename_i kvs q q2
    cases e
    exact .inr (rEqE_of s q q2 rw_ ru hQ)
  · cases e
  · exact .inl (og_ne C F H ι G w u x y z G' Q hK s rw_ ru e hQ)
theorem op_eqA {X : Cx} (hu : X.A.units + 65 < cLine) : OpR X (compareOp .Eq) (fun x y H Q => rEqD X.K x y H Q ∨ rEqE false x y H Q) := (op_eqD (by omega)).or (op_eqE hu)
theorem op_neA {X : Cx} (hu : X.A.units + 65 < cLine) : OpR X (compareOp .NotEq) (fun x y H Q => rNeD X.K x y H Q ∨ rEqE true x y H Q) := (op_neD (by omega)).or (op_neE hu)

/-! ### list(d), list(d.values()) in part -/
def rListA (K : PySem.W.Frag) : List V → Hp → VK → Prop := fun xs H Q => (∃ p ys, xs = [.ref p] ∧ (SqL K H p ys ∨ SqT K H p ys) ∧ ∀ l, H l = none → Q (.ref l) (upd H l (.lst ys))) ∨ ∃ p es, xs = [.ref p] ∧ Rd H p (.dK es) ∧ ∀ l, H l = none → Q (.ref l) (upd H l (.lst (es.map fun kv => kV kv.1)))
theorem call_listD {X : Cx} (hc : X.calm = true) : CallR X (.type "list") (rListA X.K) := by
  intro pins s σ H xs us Q I r h
  rcases h with h | ⟨p, es, rfl, hd, q⟩
  · exact call_list_of pins s σ H xs us Q I r h
  · obtain ⟨u, rfl, rx⟩ := vals1 r
    obtain rfl : u = Value.ref p := rx
    obtain ⟨z, lo, vs, rk, hd'⟩ := dk_rd I.hok hd
    obtain ⟨ep, hat⟩ := hd'.dictAt
    have hl : es.length = vs.length := Paired.length rk
    refine PySem.W.kdl_call (PySem.W.kdl_dict (knd := mixKind X.prog X.w) (kvs := vs) (ep := ep) lo) (I.ok.hd hc) hat (by rw [← hl]; exact z) fun h' tk acc' c' hkeep hS hacc => ?_
    refine ⟨V.ref s.heap.objs.size, upd H s.heap.objs.size (.lst (es.map fun kv => kV kv.1)), I.laid hkeep (Nat.le_refl _) ⟨by rw [List.length_map]; exact z, acc'.toList, c', ?_, by rw [Array.toArray_toList]; exact hS⟩, rfl, q _ (I.hok.fresh (Nat.le_refl _))⟩
    have el : acc'.toList.length = acc'.size := by simp
    refine vals_of_at (by rw [List.length_map, el, hacc.1, hl]) fun j x w h1 h2 => ?_
    obtain ⟨k, y, hky, hi⟩ := hacc.2 j w (by rw [← Array.getElem?_toList]; exact h2)
    have t1 : (es.map (·.1))[j]? = some k := by rw [KV.keys rk, List.getElem?_map, hky]; rfl
    have t2 : (es.map fun kv => kV kv.1)[j]? = some (kV k) := by
      have t3 : (es.map fun kv => kV kv.1) = (es.map (·.1)).map kV := by rw [List.map_map]; rfl
      rw [t3, List.getElem?_map, t1]
      rfl
    rw [t2] at h1
    cases h1
    exact keyIs_rel hi
/-- list(x): new | a tree -/
def itemsW (w : W) (G : Hg) : Option (List W) := match dicW w G with
  | some kvs => some (kvs.map fun p => .d p.1)
  | none => (seqW w G).map (·.2)
def fListDN : List W → Hg → Option (W × Hg)
  | [w], G => (itemsW w G).map fun ws => (.ref G.length, G ++ [.lst ws])
  | _, _ => none
def fListDT : List W → Hg → Option (W × Hg)
  | [w], G => (itemsW w G).bind fun ws => (mkLst ws).map fun z => (z, G)
  | _, _ => none
theorem keys_rp {M : Md} {F : Hp} {ι : Nat → Addr} {n : Nat} : ∀ {kvs : List (D × W)} {es : List (Key × V)}, RpWK M F ι n kvs es → RpWL M F ι n (kvs.map fun p => .d p.1) (es.map fun kv => kV kv.1)
  | [], es, h => by simp only [RpWK] at h; subst h; simp only [List.map_nil, RpWL]
  | (k, w) :: kvs, es, h => by
    simp only [RpWK] at h
    obtain ⟨kk, x, r, rfl, h1, h2, h3⟩ := h
    simp only [List.map_cons, RpWL, RpW]
    exact ⟨_, _, rfl, key_back h1, keys_rp h3⟩
theorem Sim.items {X : Cx} {C : GC} {F H : Hp} {ι : Nat → Addr} {G : Hg} {w : W} {ws : List W} {x : V} {Q : VK} (hK : C.m = md X) (s : Sim C F H ι G) (e : itemsW w G = some ws) (r : RpW C.m F ι G.length w x)
    (h : ∀ ys, RpWL C.m F ι G.length ws ys → ∀ l, H l = none → Q (.ref l) (upd H l (.lst ys))) : rListA X.K [x] H Q := by
  unfold itemsW at e
  cases q : dicW w G with
  | some kvs =>
    rw [q] at e
    cases e
    obtain ⟨a, es, rfl, h1, h2⟩ := s.dic q r
    exact .inr ⟨a, es, rfl, h1, h _ (keys_rp h2)⟩
  | none =>
    rw [q] at e
    obtain ⟨p, q2, rfl⟩ := map_some e
    obtain ⟨b, us⟩ := p
    obtain ⟨a, ys, rfl, h1, h2⟩ := s.seq q2 r
    rw [hK] at h1
    exact .inl ⟨a, ys, rfl, sq_or h1, h _ h2⟩
theorem cg_listDN {X : Cx} : CallG X (rListA X.K) fListDN := by
  intro C F H ι G ws xs z G' Q hK s r e hQ
  unfold fListDN at e
  split at e
  · obtain ⟨us, q, e⟩ := map_some e
    cases e
    obtain ⟨x, rfl, r1⟩ := r.inv1
    exact s.items hK q r1 fun ys ry l hl => hQ _ _ (out_new s ry hl)
  · cases e
theorem cg_listDT {X : Cx} : CallG X (rListA X.K) fListDT := by
  intro C F H ι G ws xs z G' Q hK s r e hQ
  unfold fListDT at e
  split at e
  · rename_i w
    cases q : itemsW w G with
    | none => rw [q] at e; cases e
    | some us =>
      rw [q] at e
      obtain ⟨z', q2, e⟩ := map_some (show (mkLst us).map (fun z => (z, G)) = some (z, G') from e)
      cases e
      obtain ⟨ds, q3, rfl⟩ := map_some q2
      obtain ⟨x, rfl, r1⟩ := r.inv1
      exact s.items hK q r1 fun ys ry l hl => hQ _ _ (out_lst s (allD_rp q3 ry) hl)
  · cases e
end Gh

set_option Elab.async false
set_option linter.all false
set_option maxRecDepth 100000
set_option maxHeartbeats 4000000
namespace Gh
open PySem PySem.Spec PyProof.Rows L2

/-! ### {k: v for .. in ..}, keys ints or texts -/
theorem ps_setDc {X : Cx} {i : Nat} {y : Str} {py : Pos} {kx vx tg iter : Expr} {ifs : List Expr} {scope : Scope} {own : List (Str × Nat)} {pos spos : Pos} {wi : TI} {g : TG} {tt : TT} {tk tv : TE} (hc : X.calm = true) (hN : X.N.Nodup) (hy : X.N[i]? = some y) (hyl : X.env.scope.names.lookup y = some .local)
    (hsw : swapsWith (.DictComp kx vx [⟨tg, iter, ifs, 0⟩] scope pos) (some (.Name y py)) spos.line X.env = pure true) (hi : PI X tg iter wi) (ok : BlkOk X.N X.env.scope scope own)
    (hg : ∀ (s : Shared) (H : Hp) (C : Addr) (cl : List (Str × Addr)) (fp : List Addr), PG (X.blk s H scope (compEnvC scope cl C X.env) fp) tg g) (ht : ∀ (s : Shared) (H : Hp) (C : Addr) (cl : List (Str × Addr)) (fp : List Addr), PTs (X.blk s H scope (compEnvC scope cl C X.env) fp) ifs tt)
    (hk : ∀ (s : Shared) (H : Hp) (C : Addr) (cl : List (Str × Addr)) (fp : List Addr), PE (X.blk s H scope (compEnvC scope cl C X.env) fp) kx tk)
    (he : ∀ (s : Shared) (H : Hp) (C : Addr) (cl : List (Str × Addr)) (fp : List Addr), PE (X.blk s H scope (compEnvC scope cl C X.env) fp) vx tv) (hs : ∀ x, foldedSetIterable iter X.env x = pure x := by intro _; rfl) :
    PS X (.Assign [.Name y py] (.DictComp kx vx [⟨tg, iter, ifs, 0⟩] scope pos) spos) (tAsg (tDc wi g tt tk tv (own.map (·.2))) (gName i)) := by
  refine ⟨fun pins s σ H D I h => ?_⟩
  rw [exec_Assign_Name_used _ _ _ _ hsw]
  refine wpAny_bind (wpAny_standAt (wpAny_bind ?_))
  show wpAny _ X.A (do let _ ← comprehension (.DictComp kx vx [⟨tg, iter, ifs, 0⟩] scope pos) scope X.env (firstIterPos [⟨tg, iter, ifs, 0⟩] pos) newDict false (eval iter X.env) (some (assign (.Name y py) X.env))) _ _ s
  have h : tDc wi g tt tk tv (own.map (·.2)) σ H (fun x H1 => gName i x σ H1 D.nx) := h
  refine wpAny_bind (thn (dc_core (Qf := fun _ s' => SP X pins D .next s') hc hN I hi ok hg ht hk he hs h fun L C s' m H' I' q hn f => ?_) fun _ s' hq => wpAny_pure (wpAny_pure hq))
  show wpAny _ _ (assign (.Name y py) X.env (.ref L)) _ _ _
  refine wpAny_assign_Name (store_ok2 (v := V.ref L) I' hN hy (.inl hyl) rfl (fun s2 I2 ⟨a, sb, ha⟩ => ?_) (.inr hyl))
  obtain ⟨f0, f1, f2, f3, f4, f5⟩ := f
  have haC : C ≠ a := by
    rcases ha with z | z
    · rw [z]; exact f1
    · exact fun e => f4 y a z e.symm
  refine ⟨m, hn.sameBut sb haC, fun h3 sb3 => ?_⟩
  exact ⟨_, H', I2.turned (t' := s2.toks) (fun b o hb e => (sb3.2 b hb).trans e) f0 f1 f3 f4 f5, q⟩
def dcL (t : GTg) (tt : GT) (ek ev : GE) (ck : Hg → Bool) (ρ0 : GEnv) : List W → List (D × W) → Hg → Res (List (D × W))
  | [], acc, G => if ck G then .ok acc G else .stuck
  | w :: ws, acc, G => if ck G then (match t w ρ0 G with
    | none => .stuck
    | some (ρ', G') => match tt ρ' G' with
      | .ok true G2 => (match ek ρ' G2 with
        | .ok kw G3 => (match ev ρ' G3 with
          | .ok z G4 => (match keyW kw with
            | some k => if Nat.blt acc.length 16777216 then dcL t tt ek ev ck ρ0 ws (putW acc k z) G4 else .stuck
            | none => .stuck)
          | _ => .stuck)
        | _ => .stuck)
      | .ok false G2 => dcL t tt ek ev ck ρ0 ws acc G2
      | _ => .stuck) else .stuck
def gDcW (it : GI) (own : List Nat) (t : GTg) (tt : GT) (ek ev : GE) : GEnv → Hg → Res (List (D × W)) := fun ρ G => (it ρ G).bind fun p G1 => dcL t tt ek ev p.2 (wipeG ρ own) p.1 [] G1
/-- the end: a new dict that may be changed -/
def finDN : List (D × W) → Hg → Res W := fun kvs G1 => .ok (.ref G1.length) (G1 ++ [.dic false kvs])
theorem finDN_ok {C : GC} {F H : Hp} {ι : Nat → Addr} {G : Hg} {acc : List (D × W)} {es : List (Key × V)} {D : Addr} {σ : L2.St} {Q : VK} (s : Sim { C with B := upd C.B D (.dK es) } F H ι G) (hB : C.B D = none) (hF : F D = none) (ra : RpWK C.m F ι G.length acc es)
    (p : Post C F ι G.length σ (finDN acc G) Q) : Q (.ref D) H := by
  have hD : H D = some (.dK es) := s.bh D _ upd_same
  have t := s.unkeep hB
  have ext : Ext F ι G.length F (putI ι G.length D) (G ++ [GO.dic false acc]).length := ⟨Same.refl _, fun i hi => putI_lt hi, by simp⟩
  have at_ : ∀ i u, (G ++ [GO.dic false acc])[i]? = some u → (i < G.length ∧ G[i]? = some u) ∨ (i = G.length ∧ u = .dic false acc) := fun i u q => by
    rcases Nat.lt_or_ge i G.length with z | z
    · rw [List.getElem?_append_left z] at q
      exact .inl ⟨z, q⟩
    · rw [List.getElem?_append_right z] at q
      rcases Nat.eq_or_lt_of_le z with e | e
      · rw [← e, Nat.sub_self] at q
        exact .inr ⟨e.symm, (Option.some.inj q).symm⟩
      · rw [List.getElem?_eq_none (by simp; omega)] at q; cases q
  have np : ∀ i g, G[i]? = some g → g ≠ .dead → ι i ≠ D := s.apart (by intro _ _ z; cases z)
  refine p _ _ ⟨F, putI ι G.length D, ext, ⟨t.fh, t.bh, t.ff, t.new, fun i u hi hu => ?_, fun i j u v hi hu hj hv e => ?_⟩, by simp only [RpW]; exact ⟨by simp, by rw [putI_same]⟩⟩
  · rcases at_ i u hi with ⟨z, q⟩ | ⟨z, q⟩
    · rw [putI_lt z]
      obtain ⟨a, b, r⟩ := t.live i u q hu
      exact ⟨a, b, r.mono ext fun w q => q⟩
    · subst z q
      rw [putI_same]
      exact ⟨hF, ⟨fun _ => hB, fun z => by cases z⟩, es, hD, ra.mono ext⟩
  · rcases at_ i u hi with ⟨zi, qi⟩ | ⟨zi, qi⟩ <;> rcases at_ j v hj with ⟨zj, qj⟩ | ⟨zj, qj⟩
    · rw [putI_lt zi, putI_lt zj] at e
      exact t.inj i j u v qi hu qj hv e
    · rw [putI_lt zi, zj, putI_same] at e
      exact absurd e (np i u qi hu)
    · rw [putI_lt zj, zi, putI_same] at e
      exact absurd e.symm (np j v qj hv)
    · rw [zi, zj]
theorem gTE_dc {X : Cx} {own : List (Str × Nat)} {gi : GI} {t : GTg} {tt : GT} {ek ev : GE} {B F0 : Hp} {wx : WX} {σ : L2.St} {H : Hp} {Q : VK}
    (hh : gTE (gc X B F0 wx) (fun ρ G => (gDcW gi (own.map (·.2)) t tt ek ev ρ G).bind finDN) σ H Q) : tDc (gTI (gc X B F0 wx) gi) (lcG X (own.map (·.2)) t) (lcT X tt) (lcE X ek) (lcE X ev) (own.map (·.2)) σ H Q := by
  obtain ⟨F, ι, ρ, G, s, he, hp⟩ := hh
  refine ⟨F, ι, ρ, G, s, he, ?_⟩
  unfold gDcW at hp
  dsimp only at hp
  cases qi : gi ρ G with
  | stuck => rw [qi] at hp; exact hp
  | exc x G' => rw [qi] at hp; exact hp
  | ok p G1 =>
    obtain ⟨ws, ck⟩ := p
    rw [qi] at hp
    intro J H1 F1 ι1 e1 s1 it D hD
    have hp1 : Post (gc X B F0 wx) F1 ι1 G1.length σ ((dcL t tt ek ev ck (wipeG ρ (own.map (·.2))) ws [] G1).bind finDN) Q := Post.base e1 hp
    have hBD : B D = none := s1.freeB hD
    have hFD : F1 D = none := s1.free hD
    have hF0 : F0 D = none := s1.ff.free hFD
    have noF : ∀ {F2 H2 : Hp} {ι2 : Nat → Addr} {G2 : Hg} {o : HO}, Sim (gc X (upd B D o) F0 wx) F2 H2 ι2 G2 → F2 D = none := fun {F2 H2 ι2 G2 o} t => by
      cases q : F2 D with
      | none => rfl
      | some u =>
        rcases t.new D u q with z | z
        · have z' : F0 D = some u := z
          rw [hF0] at z'; cases z'
        · have z' : upd B D o D = none := z
          rw [upd_same] at z'; cases z'
    have he0 := (he.mono e1).wipe (own.map (·.2))
    refine ⟨fun i m H => m = ws.length - i ∧ i ≤ ws.length ∧ ∃ F2 ι2 G2 acc es, Ext F1 ι1 G1.length F2 ι2 G2.length ∧ Sim (gc X (upd B D (.dK es)) F0 wx) F2 H ι2 G2 ∧ RpWK (md X) F2 ι2 G2.length acc es ∧ Post (gc X B F0 wx) F2 ι2 G2.length σ ((dcL t tt ek ev ck (wipeG ρ (own.map (·.2))) (ws.drop i) acc G2).bind finDN) Q,
      ⟨ws.length, by simp, Nat.zero_le _, F1, ι1, G1, [], [], .refl, Sim.keep (C := gc X B F0 wx) (o := .dK []) s1 hD, by simp only [RpWK], hp1⟩, ?_⟩
    rintro i m H2 ⟨rfl, hi, F2, ι2, G2, acc, es, e2, s2, ra, p2⟩
    have hsb : Same B (upd B D (.dK es)) := fun b o q => by rw [upd_ne (ne_of_none q hBD)]; exact q
    rcases Nat.lt_or_ge i ws.length with hlt | hge
    · have hd : ws.drop i = ws[i] :: ws.drop (i + 1) := by rw [List.drop_eq_getElem_cons hlt]
      rw [hd] at p2
      simp only [dcL] at p2
      cases c : ck G2 with
      | false => rw [c] at p2; exact p2.elim
      | true =>
        rw [c, if_pos rfl] at p2
        obtain ⟨it1, it2⟩ := it (gc X (upd B D (.dK es)) F0 wx) F2 H2 ι2 G2 rfl hsb e2 s2 c
        obtain ⟨go, yl⟩ := it1 i ws[i] (List.getElem?_eq_getElem hlt)
        refine .inr ⟨go, fun H' => ∃ F3 ι3 G3 acc es, Ext F1 ι1 G1.length F3 ι3 G3.length ∧ Sim (gc X (upd B D (.dK es)) F0 wx) F3 H' ι3 G3 ∧ RpWK (md X) F3 ι3 G3.length acc es ∧ Post (gc X B F0 wx) F3 ι3 G3.length σ ((dcL t tt ek ev ck (wipeG ρ (own.map (·.2))) (ws.drop (i + 1)) acc G3).bind finDN) Q,
          fun H' h => ⟨_, by omega, rfl, hlt, h⟩, fun x H3 y => ?_⟩
        obtain ⟨F3, e3, s3, r3⟩ := yl x H3 y
        have p3 := Post.base e3 p2
        have e13 := e2.trans e3
        refine ⟨upd B D (.dK es), F0, F3, ι2, wipeG ρ (own.map (·.2)), G2, ws[i], s3.wx, he0.mono e13, r3, ?_⟩
        cases qt : t ws[i] (wipeG ρ (own.map (·.2))) G2 with
        | none => rw [qt] at p3; exact p3.elim
        | some o =>
          obtain ⟨ρ4, G4⟩ := o
          rw [qt] at p3
          rintro σ4 H4 ⟨F4, ι4, e4, s4, he4⟩ wq
          have p4 := Post.base e4 p3
          simp only at p4
          refine ⟨by rw [wq, wipe_twice], upd B D (.dK es), F0, F4, ι4, ρ4, G4, s4, he4, ?_⟩
          cases qtt : tt ρ4 G4 with
          | stuck => rw [qtt] at p4; exact p4
          | exc x G' => rw [qtt] at p4; exact p4.elim
          | ok b G5 =>
            rw [qtt] at p4
            rintro bv H5 ⟨ev', F5, ι5, e5, s5⟩
            rw [ev']
            have p5 := Post.base e5 p4
            have e15 := (e13.trans e4).trans e5
            have s5' : Sim (gc X (upd B D (.dK es)) F0 wx) F5 H5 ι5 G5 := s5.wx
            cases b with
            | false =>
              rw [if_neg Bool.false_ne_true]
              exact ⟨F5, ι5, G5, acc, es, e15, s5', ra.mono ((e3.trans e4).trans e5), p5⟩
            | true =>
              rw [if_pos rfl]
              refine ⟨upd B D (.dK es), F0, F5, ι5, ρ4, G5, s5, he4.mono e5, ?_⟩
              simp only at p5
              cases qe : ek ρ4 G5 with
              | stuck => rw [qe] at p5; exact p5
              | exc x G' => rw [qe] at p5; exact p5.elim
              | ok kw G6 =>
                rw [qe] at p5
                rintro y6 H6 ⟨F6, ι6, e6, s6, r6⟩
                have p6 := Post.base e6 p5
                simp only at p6
                refine ⟨upd B D (.dK es), F0, F6, ι6, ρ4, G6, s6, (he4.mono e5).mono e6, ?_⟩
                cases qv : ev ρ4 G6 with
                | stuck => rw [qv] at p6; exact p6
                | exc x G' => rw [qv] at p6; exact p6.elim
                | ok z G7 =>
                  rw [qv] at p6
                  rintro z7 H7 ⟨F7, ι7, e7, s7, r7⟩
                  have p7 := Post.base e7 p6
                  simp only at p7
                  have s7' : Sim (gc X (upd B D (.dK es)) F0 wx) F7 H7 ι7 G7 := s7.wx
                  cases qk : keyW kw with
                  | none => rw [qk] at p7; exact p7.elim
                  | some k =>
                    rw [qk] at p7
                    simp only at p7
                    obtain ⟨rfl, kk, hk⟩ := keyW_inv qk
                    simp only [RpW] at r6
                    cases cl : Nat.blt acc.length 16777216 with
                    | false => rw [cl] at p7; exact p7.elim
                    | true =>
                      rw [cl, if_pos rfl] at p7
                      have ra7 := ra.mono ((((e3.trans e4).trans e5).trans e6).trans e7)
                      refine ⟨es, kk, key_rp hk r6, s7'.bh D _ upd_same, by rw [sizeLine_eq, ← ra7.length]; exact Nat.le_of_ble_eq_true cl, F7, ι7, G7, putW acc k z, putK es kk z7, (e15.trans e6).trans e7, Sim.rekeep (C := gc X B F0 wx) s7' (noF s7'), ra7.put hk r7, p7⟩
    · have ei : i = ws.length := by omega
      subst ei
      rw [List.drop_length] at p2
      simp only [dcL] at p2
      cases c : ck G2 with
      | false => rw [c] at p2; exact p2.elim
      | true =>
        rw [c, if_pos rfl] at p2
        obtain ⟨_, it2⟩ := it (gc X (upd B D (.dK es)) F0 wx) F2 H2 ι2 G2 rfl hsb e2 s2 c
        exact .inl ⟨it2, finDN_ok (C := gc X B F0 wx) s2 hBD (noF s2) ra p2⟩
section
variable {X : Cx} {scope : Scope} {own : List (Str × Nat)} {tg iter kx vx : Expr} {ifs : List Expr} {pos : Pos} {gi : GI} {t : GTg} {tt : GT} {ek ev : GE}
theorem ge_dc (P : LcParts X scope own tg iter kx ifs gi t tt ek) (P2 : LcParts X scope own tg iter vx ifs gi t tt ev) (hs : ∀ x, foldedSetIterable iter X.env x = pure x := by intro _; rfl) :
    GJE X (.DictComp kx vx [⟨tg, iter, ifs, 0⟩] scope pos) (fun ρ G => (gDcW gi (own.map (·.2)) t tt ek ev ρ G).bind finDN) :=
  ⟨fun B F0 wx tk => PE.imp (pe_dc P.calm P.nd (P.it.run B F0 wx tk) P.ok P.pg P.pts P.pe P2.pe hs) fun σ H Q h => gTE_dc h⟩
theorem gs_setDc {i : Nat} {y : Str} {py spos : Pos} (P : LcParts X scope own tg iter kx ifs gi t tt ek) (P2 : LcParts X scope own tg iter vx ifs gi t tt ev) (hy : X.N[i]? = some y := by rfl) (hyl : X.env.scope.names.lookup y = some .local := by rfl)
    (hsw : swapsWith (.DictComp kx vx [⟨tg, iter, ifs, 0⟩] scope pos) (some (.Name y py)) spos.line X.env = pure true := by rfl) (hs : ∀ x, foldedSetIterable iter X.env x = pure x := by intro _; rfl) :
    GJS X (.Assign [.Name y py] (.DictComp kx vx [⟨tg, iter, ifs, 0⟩] scope pos) spos) (gAsg (fun ρ G => (gDcW gi (own.map (·.2)) t tt ek ev ρ G).bind finDN) (gNm i)) := ⟨fun B F0 wx tk => by
  refine PS.imp (ps_setDc P.calm P.nd hy hyl hsw (P.it.run B F0 wx tk) P.ok P.pg P.pts P.pe P2.pe hs) fun D σ H ⟨F, ι, ρ, G, s, he, hp⟩ => ?_
  refine gTE_dc ⟨F, ι, ρ, G, s, he, (PostS.fst he hp).imp fun v H1 ⟨F1, ι1, w, G1, e1, s1, r1, he1, p1⟩ => ?_⟩
  exact p1 _ H1 ⟨F1, ι1, .refl, s1, he1.set i r1⟩⟩
end
end Gh

set_option Elab.async false
set_option linter.all false
set_option maxRecDepth 100000
set_option maxHeartbeats 4000000
namespace Gh
open PySem PySem.Spec PyProof.Rows L2

/-! ### any, all, sum, min, max, sorted of lists -/
def intsW : List W → Option (List Int)
  | [] => some []
  | .d (.int i) :: r => (intsW r).map (i :: ·)
  | _ :: _ => none
def blsW : List W → Option (List Bool)
  | [] => some []
  | .d (.bl i) :: r => (blsW r).map (i :: ·)
  | _ :: _ => none
theorem intsW_rp {M : Md} {F : Hp} {ι : Nat → Addr} {n : Nat} : ∀ {ws : List W} {ns : List Int} {xs : List V}, intsW ws = some ns → RpWL M F ι n ws xs → xs = ns.map V.int
  | [], ns, xs, h, r => by cases h; simpa only [RpWL, List.map_nil] using r
  | .d (.int i) :: ws, ns, xs, h, r => by
    obtain ⟨ms, q, rfl⟩ := map_some (show (intsW ws).map (i :: ·) = some ns from h)
    simp only [RpWL, RpW, Rp] at r
    obtain ⟨x, t, rfl, h1, h2⟩ := r
    rw [List.map_cons, h1, intsW_rp q h2]
  | .d .non :: _, _, _, h, _ => by cases h
  | .d (.bl _) :: _, _, _, h, _ => by cases h
  | .d (.str _) :: _, _, _, h, _ => by cases h
  | .d (.tup _) :: _, _, _, h, _ => by cases h
  | .d (.lst _) :: _, _, _, h, _ => by cases h
  | .d (.dic _ _) :: _, _, _, h, _ => by cases h
  | .d (.ins _ _) :: _, _, _, h, _ => by cases h
  | .ref _ :: _, _, _, h, _ => by cases h
  | .tup _ :: _, _, _, h, _ => by cases h
theorem blsW_rp {M : Md} {F : Hp} {ι : Nat → Addr} {n : Nat} : ∀ {ws : List W} {ns : List Bool} {xs : List V}, blsW ws = some ns → RpWL M F ι n ws xs → xs = ns.map V.bl
  | [], ns, xs, h, r => by cases h; simpa only [RpWL, List.map_nil] using r
  | .d (.bl i) :: ws, ns, xs, h, r => by
    obtain ⟨ms, q, rfl⟩ := map_some (show (blsW ws).map (i :: ·) = some ns from h)
    simp only [RpWL, RpW, Rp] at r
    obtain ⟨x, t, rfl, h1, h2⟩ := r
    rw [List.map_cons, h1, blsW_rp q h2]
  | .d .non :: _, _, _, h, _ => by cases h
  | .d (.int _) :: _, _, _, h, _ => by cases h
  | .d (.str _) :: _, _, _, h, _ => by cases h
  | .d (.tup _) :: _, _, _, h, _ => by cases h
  | .d (.lst _) :: _, _, _, h, _ => by cases h
  | .d (.dic _ _) :: _, _, _, h, _ => by cases h
  | .d (.ins _ _) :: _, _, _, h, _ => by cases h
  | .ref _ :: _, _, _, h, _ => by cases h
  | .tup _ :: _, _, _, h, _ => by cases h
def lstI (w : W) (G : Hg) : Option (List Int) := match seqW w G with
  | some (true, ws) => intsW ws
  | _ => none
def lstB (w : W) (G : Hg) : Option (List Bool) := match seqW w G with
  | some (true, ws) => blsW ws
  | _ => none
theorem Sim.lstI {C : GC} {F H : Hp} {ι : Nat → Addr} {G : Hg} {w : W} {ns : List Int} {v : V} (s : Sim C F H ι G) (e : lstI w G = some ns) (r : RpW C.m F ι G.length w v) : ∃ a, v = .ref a ∧ SqL C.m.K H a (ns.map V.int) := by
  unfold Gh.lstI at e
  split at e
  · rename_i ws q
    obtain ⟨a, xs, rfl, h1, h2⟩ := s.seq q r
    rw [if_pos rfl, intsW_rp e h2] at h1
    exact ⟨a, rfl, h1⟩
  · cases e
theorem Sim.lstB {C : GC} {F H : Hp} {ι : Nat → Addr} {G : Hg} {w : W} {ns : List Bool} {v : V} (s : Sim C F H ι G) (e : lstB w G = some ns) (r : RpW C.m F ι G.length w v) : ∃ a, v = .ref a ∧ SqL C.m.K H a (ns.map V.bl) := by
  unfold Gh.lstB at e
  split at e
  · rename_i ws q
    obtain ⟨a, xs, rfl, h1, h2⟩ := s.seq q r
    rw [if_pos rfl, blsW_rp e h2] at h1
    exact ⟨a, rfl, h1⟩
  · cases e
def fAny : List W → Hg → Option (W × Hg)
  | [w], G => (lstB w G).map fun bs => (.d (.bl (bs.any id)), G)
  | _, _ => none
def fAll : List W → Hg → Option (W × Hg)
  | [w], G => (lstB w G).map fun bs => (.d (.bl (bs.all id)), G)
  | _, _ => none
def fSum : List W → Hg → Option (W × Hg)
  | [w], G => (lstI w G).map fun bs => (.d (.int bs.sum), G)
  | _, _ => none
def minI : List Int → Int
  | [] => 0
  | x :: xs => xs.foldl (fun a b => if b < a then b else a) x
def maxI : List Int → Int
  | [] => 0
  | x :: xs => xs.foldl (fun a b => if a < b then b else a) x
theorem minI_eq {m : Int} : ∀ {ns : List Int}, m ∈ ns → (∀ y ∈ ns, m ≤ y) → m = minI ns
  | [], h, _ => by cases h
  | x :: xs, h, hl => by
    have gen : ∀ (xs : List Int) (a : Int), (m = a ∨ m ∈ xs) → m ≤ a → (∀ y ∈ xs, m ≤ y) → m = xs.foldl (fun a b => if b < a then b else a) a := by
      intro xs
      induction xs with
      | nil => intro a h _ _; rcases h with h | h <;> first | exact h | cases h
      | cons y ys ih =>
        intro a h ha hy
        rw [List.foldl_cons]
        have y1 := hy y List.mem_cons_self
        have y2 : ∀ z ∈ ys, m ≤ z := fun z hz => hy z (List.mem_cons_of_mem _ hz)
        by_cases c : y < a
        · rw [if_pos c]
          refine ih y ?_ y1 y2
          rcases h with h | h
          · omega
          · rcases List.mem_cons.mp h with h | h
            · exact .inl h
            · exact .inr h
        · rw [if_neg c]
          refine ih a ?_ ha y2
          rcases h with h | h
          · exact .inl h
          · rcases List.mem_cons.mp h with h | h
            · exact .inl (by omega)
            · exact .inr h
    exact gen xs x (List.mem_cons.mp h) (hl x List.mem_cons_self) fun y hy => hl y (List.mem_cons_of_mem _ hy)
theorem maxI_eq {m : Int} : ∀ {ns : List Int}, m ∈ ns → (∀ y ∈ ns, y ≤ m) → m = maxI ns
  | [], h, _ => by cases h
  | x :: xs, h, hl => by
    have gen : ∀ (xs : List Int) (a : Int), (m = a ∨ m ∈ xs) → a ≤ m → (∀ y ∈ xs, y ≤ m) → m = xs.foldl (fun a b => if a < b then b else a) a := by
      intro xs
      induction xs with
      | nil => intro a h _ _; rcases h with h | h <;> first | exact h | cases h
      | cons y ys ih =>
        intro a h ha hy
        rw [List.foldl_cons]
        have y1 := hy y List.mem_cons_self
        have y2 : ∀ z ∈ ys, z ≤ m := fun z hz => hy z (List.mem_cons_of_mem _ hz)
        by_cases c : a < y
        · rw [if_pos c]
          refine ih y ?_ y1 y2
          rcases h with h | h
          · omega
          · rcases List.mem_cons.mp h with h | h
            · exact .inl h
            · exact .inr h
        · rw [if_neg c]
          refine ih a ?_ ha y2
          rcases h with h | h
          · exact .inl h
          · rcases List.mem_cons.mp h with h | h
            · exact .inl (by omega)
            · exact .inr h
    exact gen xs x (List.mem_cons.mp h) (hl x List.mem_cons_self) fun y hy => hl y (List.mem_cons_of_mem _ hy)
def fMin : List W → Hg → Option (W × Hg)
  | [w], G => (lstI w G).bind fun ns => if ns.isEmpty then none else some (.d (.int (minI ns)), G)
  | _, _ => none
def fMax : List W → Hg → Option (W × Hg)
  | [w], G => (lstI w G).bind fun ns => if ns.isEmpty then none else some (.d (.int (maxI ns)), G)
  | _, _ => none
/-! sorted: by insertion -/
def insI (x : Int) : List Int → List Int
  | [] => [x]
  | y :: ys => if x ≤ y then x :: y :: ys else y :: insI x ys
def sortI : List Int → List Int
  | [] => []
  | x :: xs => insI x (sortI xs)
theorem insI_perm (x : Int) : ∀ ys : List Int, (insI x ys).Perm (x :: ys)
  | [] => .refl _
  | y :: ys => by
    unfold insI
    split
    · exact .refl _
    · exact ((insI_perm x ys).cons y).trans (.swap x y ys)
theorem sortI_perm : ∀ xs : List Int, (sortI xs).Perm xs
  | [] => .refl _
  | x :: xs => (insI_perm x _).trans ((sortI_perm xs).cons x)
theorem insI_sorted (x : Int) : ∀ {ys : List Int}, ys.Pairwise (· ≤ ·) → (insI x ys).Pairwise (· ≤ ·)
  | [], _ => List.pairwise_singleton _ _
  | y :: ys, h => by
    obtain ⟨h1, h2⟩ := List.pairwise_cons.mp h
    unfold insI
    split
    · rename_i c
      refine List.pairwise_cons.mpr ⟨fun z hz => ?_, h⟩
      rcases List.mem_cons.mp hz with e | e
      · rw [e]; exact c
      · exact Int.le_trans c (h1 z e)
    · rename_i c
      refine List.pairwise_cons.mpr ⟨fun z hz => ?_, insI_sorted x h2⟩
      rcases List.mem_cons.mp ((insI_perm x ys).mem_iff.mp hz) with e | e
      · rw [e]; omega
      · exact h1 z e
theorem sortI_sorted : ∀ xs : List Int, (sortI xs).Pairwise (· ≤ ·)
  | [] => .nil
  | x :: xs => insI_sorted x (sortI_sorted xs)
theorem sorted_one : ∀ {l m : List Int}, l.Perm m → l.Pairwise (· ≤ ·) → m.Pairwise (· ≤ ·) → l = m
  | [], m, p, _, _ => (p.symm.eq_nil).symm
  | a :: l, [], p, _, _ => by cases p.eq_nil
  | a :: l, b :: m, p, h, k => by
    obtain ⟨h1, h2⟩ := List.pairwise_cons.mp h
    obtain ⟨k1, k2⟩ := List.pairwise_cons.mp k
    have e : a = b := by
      have x1 : a ≤ b := by
        rcases List.mem_cons.mp (p.mem_iff.mpr (List.mem_cons_self : b ∈ b :: m)) with z | z
        · exact Int.le_of_eq z.symm
        · exact h1 b z
      have x2 : b ≤ a := by
        rcases List.mem_cons.mp (p.mem_iff.mp (List.mem_cons_self : a ∈ a :: l)) with z | z
        · exact Int.le_of_eq z.symm
        · exact k1 a z
      omega
    subst e
    rw [sorted_one (List.Perm.cons_inv p) h2 k2]
def fSorted : List W → Hg → Option (W × Hg)
  | [w], G => (lstI w G).map fun ns => (.d (.lst ((sortI ns).map .int)), G)
  | _, _ => none
section
variable {X : Cx}
theorem cg_any : CallG X (rAny X.K) fAny := by
  intro C F H ι G ws xs z G' Q hK s r e hQ
  unfold fAny at e
  split at e
  · obtain ⟨bs, q, e⟩ := map_some e
    cases e
    obtain ⟨x, rfl, r1⟩ := r.inv1
    obtain ⟨a, rfl, h⟩ := s.lstB q r1
    rw [hK] at h
    exact ⟨a, bs, rfl, h, hQ _ _ (out_flat s rpB)⟩
  · cases e
theorem cg_all : CallG X (rAll X.K) fAll := by
  intro C F H ι G ws xs z G' Q hK s r e hQ
  unfold fAll at e
  split at e
  · obtain ⟨bs, q, e⟩ := map_some e
    cases e
    obtain ⟨x, rfl, r1⟩ := r.inv1
    obtain ⟨a, rfl, h⟩ := s.lstB q r1
    rw [hK] at h
    exact ⟨a, bs, rfl, h, hQ _ _ (out_flat s rpB)⟩
  · cases e
theorem cg_sum : CallG X (rSum X.K) fSum := by
  intro C F H ι G ws xs z G' Q hK s r e hQ
  unfold fSum at e
  split at e
  · obtain ⟨bs, q, e⟩ := map_some e
    cases e
    obtain ⟨x, rfl, r1⟩ := r.inv1
    obtain ⟨a, rfl, h⟩ := s.lstI q r1
    rw [hK] at h
    exact ⟨a, bs, rfl, h, hQ _ _ (out_flat s rpI)⟩
  · cases e
theorem cg_min : CallG X (rMin X.K) fMin := by
  intro C F H ι G ws xs z G' Q hK s r e hQ
  unfold fMin at e
  split at e
  · rename_i w
    cases q : lstI w G with
    | none => rw [q] at e; cases e
    | some ns =>
      rw [q] at e
      simp only [Option.bind_some] at e
      by_cases c : ns.isEmpty = true
      · rw [if_pos c] at e; cases e
      · rw [if_neg c] at e
        cases e
        obtain ⟨x, rfl, r1⟩ := r.inv1
        obtain ⟨a, rfl, h⟩ := s.lstI q r1
        rw [hK] at h
        refine ⟨a, ns, rfl, h, ?_, fun m h1 h2 => ?_⟩
        · cases ns with
          | nil => exact absurd rfl c
          | cons _ _ => simp
        · rw [minI_eq h1 h2]
          exact hQ _ _ (out_flat s rpI)
  · cases e
theorem cg_max : CallG X (rMax X.K) fMax := by
  intro C F H ι G ws xs z G' Q hK s r e hQ
  unfold fMax at e
  split at e
  · rename_i w
    cases q : lstI w G with
    | none => rw [q] at e; cases e
    | some ns =>
      rw [q] at e
      simp only [Option.bind_some] at e
      by_cases c : ns.isEmpty = true
      · rw [if_pos c] at e; cases e
      · rw [if_neg c] at e
        cases e
        obtain ⟨x, rfl, r1⟩ := r.inv1
        obtain ⟨a, rfl, h⟩ := s.lstI q r1
        rw [hK] at h
        refine ⟨a, ns, rfl, h, ?_, fun m h1 h2 => ?_⟩
        · cases ns with
          | nil => exact absurd rfl c
          | cons _ _ => simp
        · rw [maxI_eq h1 h2]
          exact hQ _ _ (out_flat s rpI)
  · cases e
theorem cg_sorted : CallG X (rSortedI X.K) fSorted := by
  intro C F H ι G ws xs z G' Q hK s r e hQ
  unfold fSorted at e
  split at e
  · obtain ⟨ns, q, e⟩ := map_some e
    cases e
    obtain ⟨x, rfl, r1⟩ := r.inv1
    obtain ⟨a, rfl, h⟩ := s.lstI q r1
    rw [hK] at h
    refine ⟨a, ns, rfl, h, fun ns' p hp hs hn => ?_⟩
    have e1 : ns' = sortI ns := sorted_one (hp.trans (sortI_perm ns).symm) hs (sortI_sorted ns)
    subst e1
    have gen : ∀ l : List Int, RpL C.m F (l.map D.int) (l.map V.int) := by
      intro l
      induction l with
      | nil => simp only [List.map_nil, RpL]
      | cons i l ih => simp only [List.map_cons, RpL, Rp]; exact ⟨_, _, rfl, rfl, ih⟩
    exact hQ _ _ (out_lst s (gen _) hn)
  · cases e
end
end Gh

set_option Elab.async false
set_option linter.all false
set_option maxRecDepth 100000
set_option maxHeartbeats 4000000
namespace Gh
open PySem PySem.Spec PyProof.Rows L2

/-! ### list(d.values()) -/
theorem pe_listVals {X : Cx} {e : Expr} {te : TE} {p pos apos cpos : Pos} (hc : X.calm = true) (he : PE X e te) (hg : Gl X "list") (hm : X.mg "list" = none) (hv : bootBuiltins "list" = some (.type "list")) (hbase : attributeBase e "values" X.env (eval e X.env) = eval e X.env := by rfl) (hline : (apos.endLine == cpos.line) = true := by rfl)
    (hs : starEach [.Call (.Attribute e "values" apos) [] [] cpos] X.env = (false, eval (.Call (.Attribute e "values" apos) [] [] cpos) X.env) :: starEach [] X.env := by rfl) :
    PE X (.Call (.Name "list" p) [.Call (.Attribute e "values" apos) [] [] cpos] [] pos) (fun σ H Q => te σ H fun x H1 => ∃ d es, x = .ref d ∧ Rd H1 d (.dK es) ∧ ∀ q, H1 q = none → Q (.ref q) (upd H1 q (.lst (es.map (·.2))))) := by
  refine ⟨fun pins s σ H Q I hq => ?_⟩
  refine wpAny_Call_Name_kw (ld_blt I hg hm hv ?_)
  refine PyProof.Rows.callWith_type1 ?_ hs rfl
  rw [hs]
  show wpAny _ _ (spliced ((false, eval (.Call (.Attribute e "values" apos) [] [] cpos) X.env) :: backTo pos (starEach [] X.env))) _ _ s
  refine Calls.spliced_cons ?_
  refine wpAny_Call_method (T := "dict") (id := "dict.values") hbase rfl hline PySem.F.plainAttrs_dict PySem.F.slot_dict_values PySem.F.type_dict_values (thn (he.run pins s σ H _ I hq) fun u s1 ⟨x, H1, I1, rx, d, es, ex, hd, q⟩ => ?_)
  subst ex
  obtain rfl : u = Value.ref d := rx
  obtain ⟨hz, hs0, vs, kv, hdo⟩ := dk_rd I1.hok hd
  obtain ⟨ep, hat⟩ := hdo.dictAt
  have lk : es.length = vs.length := Paired.length kv
  have I2 : Inv X pins σ H1 { s1 with heap := s1.heap.push { cls := .type "dict_values", data := .fields #[.ref d] } } := I1.kept (t' := s1.toks) fun b ob q => Heap.get?_push_of_some _ q
  refine ⟨hdo.typeIs, hdo.mapOf.noDict, ?_⟩
  show wpAny _ _ (callWith cpos (.builtin "dict.values") [.ref d] [] []) _ X.xe s1
  refine method_meetsIn PySem.F.slot_dict_values PySem.F.entry_dict_values rfl (PySem.evalArgs_none ⟨rfl, hdo.typeIs, PySem.F.args_dict_values_1 _, _, meets_dict_values (mixKind X.prog X.w) d hs0, ⟨vs, hdo⟩, ?_⟩)
  refine Calls.spliced_nil ?_
  refine PySem.W.kdl_call (PySem.W.kdl_values (knd := mixKind X.prog X.w) (kvs := vs) (ep := ep)) (I1.ok.hd hc) ⟨⟨_, Heap.get?_push_size _ rfl, rfl, rfl⟩, hat.push _⟩ (by rw [← lk]; exact hz) fun h' tk acc' c' hkeep hS hacc => ?_
  refine ⟨V.ref _, upd H1 _ (.lst (es.map (·.2))), I2.laid hkeep (Nat.le_refl _) ⟨by rw [List.length_map]; exact hz, acc'.toList, c', ?_, by rw [Array.toArray_toList]; exact hS⟩, rfl, q _ (I2.hok.fresh (Nat.le_refl _))⟩
  have el : acc'.toList.length = acc'.size := by simp
  refine vals_of_at (by rw [List.length_map, el, hacc.1, lk]) fun j x w h1 h2 => ?_
  obtain ⟨k, hky⟩ := hacc.2 j w (by rw [← Array.getElem?_toList]; exact h2)
  rw [List.getElem?_map] at h1
  obtain ⟨pr, h3, rfl⟩ := map_some h1
  obtain ⟨y, h4, h5⟩ := paired_get kv h3
  rw [hky] at h4
  cases h4
  exact h5.2
def gValsL (o : GE) (new : Bool) : GE := fun ρ G => (o ρ G).bind fun w G1 => match dicW w G1 with
  | some kvs => if new then .ok (.ref G1.length) (G1 ++ [.lst (kvs.map (·.2))]) else (match mkLst (kvs.map (·.2)) with
    | some z => .ok z G1
    | none => .stuck)
  | none => .stuck
theorem vals_rp {M : Md} {F : Hp} {ι : Nat → Addr} {n : Nat} : ∀ {kvs : List (D × W)} {es : List (Key × V)}, RpWK M F ι n kvs es → RpWL M F ι n (kvs.map (·.2)) (es.map (·.2))
  | [], es, h => by simp only [RpWK] at h; subst h; simp only [List.map_nil, RpWL]
  | (k, w) :: kvs, es, h => by
    simp only [RpWK] at h
    obtain ⟨kk, x, r, rfl, h1, h2, h3⟩ := h
    simp only [List.map_cons, RpWL]
    exact ⟨_, _, rfl, h2, vals_rp h3⟩
section
variable {X : Cx} {e : Expr} {ge : GE} {p pos apos cpos : Pos}
theorem ge_listVals (new : Bool) (hm : X.mg "list" = none) (hc : X.calm = true) (he : GJE X e ge) (hg : Gl X "list" := by rfl) (hbase : attributeBase e "values" X.env (eval e X.env) = eval e X.env := by rfl) (hline : (apos.endLine == cpos.line) = true := by rfl)
    (hs : starEach [.Call (.Attribute e "values" apos) [] [] cpos] X.env = (false, eval (.Call (.Attribute e "values" apos) [] [] cpos) X.env) :: starEach [] X.env := by rfl) :
    GJE X (.Call (.Name "list" p) [.Call (.Attribute e "values" apos) [] [] cpos] [] pos) (gValsL ge new) := ⟨fun B F0 wx tk => by
  refine PE.imp (pe_listVals hc (he.run B F0 wx tk) hg hm (by decide +kernel) hbase hline hs) fun σ H Q ⟨F, ι, ρ, G, s, hr, hp⟩ => ?_
  refine ⟨F, ι, ρ, G, s, hr, (Post.fst hp).imp fun x H1 ⟨F1, ι1, w, G1, e1, s1, r1, p1⟩ => ?_⟩
  cases q : dicW w G1 with
  | none => rw [q] at p1; exact p1.elim
  | some kvs =>
    rw [q] at p1
    simp only at p1
    obtain ⟨a, es, rfl, h1, h2⟩ := s1.dic q r1
    refine ⟨a, es, rfl, h1, fun l hl => ?_⟩
    cases new with
    | true => exact p1 _ _ (out_new s1 (vals_rp h2) hl)
    | false =>
      rw [if_neg Bool.false_ne_true] at p1
      cases q2 : mkLst (kvs.map (·.2)) with
      | none => rw [q2] at p1; exact p1.elim
      | some z =>
        rw [q2] at p1
        obtain ⟨ds, q3, rfl⟩ := map_some q2
        exact p1 _ _ (out_lst s1 (allD_rp q3 (vals_rp h2)) hl)⟩
end

/-! ### tests by None -/
section
variable {X : Cx} {a : Expr} {ga : GE} {pos : Pos}
theorem gt_isN {j pos'} (ha : GJE X a ga) : GJT X (.Compare a [.Is] [.Constant .none j pos'] pos) (gTst (gIsN false ga)) := ⟨fun B F0 wx tk => by
  refine PT.imp (pt_cmp (pc_isN (ha.run B F0 wx tk)) rfl) fun σ H Q h => ?_
  obtain ⟨F, ι, ρ, G, hs, he, hp⟩ := gTT_tst h
  refine ⟨F, ι, ρ, G, hs, he, (Post.fst hp).imp fun x H1 ⟨F1, ι1, w, G1, e1, s1, r1, p1⟩ => ?_⟩
  refine p1 _ _ (out_flat s1 ?_)
  rw [isN_v r1, Bool.false_xor]
  exact rpB⟩
theorem gt_notN {j pos'} (ha : GJE X a ga) : GJT X (.Compare a [.IsNot] [.Constant .none j pos'] pos) (gTst (gIsN true ga)) := ⟨fun B F0 wx tk => by
  refine PT.imp (pt_cmp (pc_notN (ha.run B F0 wx tk)) rfl) fun σ H Q h => ?_
  obtain ⟨F, ι, ρ, G, hs, he, hp⟩ := gTT_tst h
  refine ⟨F, ι, ρ, G, hs, he, (Post.fst hp).imp fun x H1 ⟨F1, ι1, w, G1, e1, s1, r1, p1⟩ => ?_⟩
  refine p1 _ _ (out_flat s1 ?_)
  rw [isN_v r1, Bool.true_xor]
  exact rpB⟩
/-! ### min(d) of a dict that may be changed, its keys ints -/
def keysI : List (D × W) → Option (List Int)
  | [] => some []
  | (.int i, _) :: r => (keysI r).map (i :: ·)
  | _ :: _ => none
theorem keysI_rp {M : Md} {F : Hp} {ι : Nat → Addr} {n : Nat} : ∀ {kvs : List (D × W)} {is : List Int} {es : List (Key × V)}, keysI kvs = some is → RpWK M F ι n kvs es → es.map (·.1) = is.map Sum.inl
  | [], is, es, h, r => by cases h; simp only [RpWK] at r; subst r; rfl
  | (k, w) :: kvs, is, es, h, r => by
    cases k with
    | int i =>
      obtain ⟨js, q, rfl⟩ := map_some (show (keysI kvs).map (i :: ·) = some is from h)
      simp only [RpWK] at r
      obtain ⟨kk, x, t, rfl, h1, h2, h3⟩ := r
      cases h1
      rw [List.map_cons, List.map_cons, keysI_rp q h3]
    | _ => cases h
def fMinD : List W → Hg → Option (W × Hg)
  | [w], G => match getDm w G with
    | some (_, kvs) => (keysI kvs).bind fun is => if is.isEmpty then none else some (.d (.int (minI is)), G)
    | none => fMin [w] G
  | _, _ => none
theorem cr_minD (hc : X.calm = true) : CallR X (.builtin "min") (fun xs H Q => rMin X.K xs H Q ∨ rMinK xs H Q) := by
  intro pins s σ H xs us Q I r h
  rcases h with h | h
  · exact cr_min hc pins s σ H xs us Q I r h
  · exact cr_minK hc pins s σ H xs us Q I r h
theorem cg_minD : CallG X (fun xs H Q => rMin X.K xs H Q ∨ rMinK xs H Q) fMinD := by
  intro C F H ι G ws xs z G' Q hK s r e hQ
  unfold fMinD at e
  split at e
  · rename_i w
    cases q : getDm w G with
    | none => rw [q] at e; exact .inl (cg_min C F H ι G [w] xs z G' Q hK s r e hQ)
    | some p =>
      obtain ⟨i, kvs⟩ := p
      rw [q] at e
      simp only at e
      cases q2 : keysI kvs with
      | none => rw [q2] at e; cases e
      | some is =>
        rw [q2] at e
        simp only [Option.bind_some] at e
        by_cases c : is.isEmpty = true
        · rw [if_pos c] at e; cases e
        · rw [if_neg c] at e
          cases e
          obtain ⟨rfl, hj⟩ := getDm_inv q
          obtain ⟨x, rfl, r1⟩ := r.inv1
          simp only [RpW] at r1
          obtain ⟨hl, rfl⟩ := r1
          obtain ⟨es, h1, h2⟩ := s.dicm hj
          refine .inr ⟨_, es, is, rfl, h1, keysI_rp q2 h2, fun z => c (by rw [z]; rfl), fun m h3 h4 => ?_⟩
          rw [minI_eq h3 h4]
          exact hQ _ _ (out_flat s rpI)
  · cases e
end
end Gh

set_option Elab.async false
set_option linter.all false
set_option maxRecDepth 100000
set_option maxHeartbeats 4000000
namespace Gh
open PySem PySem.Spec PyProof.Rows L2

/-! ### try .. except (several clauses, with and without names); what leaves a clause by an exception is not served -/
structure Hdl where
  k : Str → Option Bool
  i : Option Nat
  g : GS
def unS (o : Option Nat) : SRes → SRes
  | .stuck => .stuck
  | .exc _ _ _ => .stuck
  | .nx ρ G => .nx (match o with | none => ρ | some i => ρ.set i none) G
  | .bk ρ G => .bk (match o with | none => ρ | some i => ρ.set i none) G
  | .ct ρ G => .ct (match o with | none => ρ | some i => ρ.set i none) G
  | .ret w G => .ret w G
def gHds : List Hdl → Exc → GEnv → Hg → SRes
  | [], e, ρ, G => .exc e ρ G
  | h :: r, e, ρ, G => match h.k e.c with
    | none => .stuck
    | some true => unS h.i (h.g (match h.i with | none => ρ | some i => ρ.set i (some (.d (.ins e.c e.fs)))) G)
    | some false => gHds r e ρ G
def gTry (b : GS) (hs : List Hdl) : GS := fun ρ G => match b ρ G with
  | .exc e ρ' G' => gHds hs e ρ' G'
  | r => r
theorem REnv.gone {C : Md} {F : Hp} {ι : Nat → Addr} {n : Nat} {ρ : GEnv} {σ : L2.St} (h : REnv C F ι n ρ σ) (i : Nat) : REnv C F ι n (ρ.set i none) (σ.set i none) := by
  refine ⟨by simp [h.1], fun j u hj => ?_⟩
  by_cases e : i = j
  · subst e
    rw [List.getElem?_set] at hj
    split at hj
    · split at hj <;> cases hj
    · exact absurd rfl ‹_›
  · rw [List.getElem?_set_ne e] at hj
    obtain ⟨x, h1, h2⟩ := h.2 j u hj
    exact ⟨x, by rw [List.getElem?_set_ne e]; exact h1, h2⟩
/-- the class that a clause names, and which of our classes it catches -/
structure NamesK (X : Cx) (x : Str) (k : Str → Option Bool) : Prop where
  ex : ∃ c, Names X x c ∧ ∀ cl b Ca, k cl = some b → X.mg cl = some (.ref Ca) → PySem.W.exmOne X.K (.ref Ca) c = some b
inductive HdsG (X : Cx) : List ExceptHandler → List Hdl → Prop
  | nil : HdsG X [] []
  | one {x : Str} {k : Str → Option Bool} {g : GS} {b₀ : Stmt} {su : List Stmt} {np pos' : Pos} {hds : List ExceptHandler} {l : List Hdl} (hc : NamesK X x k) (hsu : ∀ a pn, GJSs (X.suite a pn) (b₀ :: su) g) (r : HdsG X hds l) :
      HdsG X (.ExceptHandler (some (.Name x np)) none (b₀ :: su) pos' :: hds) (⟨k, none, g⟩ :: l)
  | as (i : Nat) {x n : Str} {k : Str → Option Bool} {g : GS} {b₀ : Stmt} {su : List Stmt} {np pos' : Pos} {hds : List ExceptHandler} {l : List Hdl} (hN : X.N.Nodup) (hc : NamesK X x k) (hsu : ∀ a pn, GJSs (X.suite a pn) (b₀ :: su) g) (r : HdsG X hds l)
      (hi : X.N[i]? = some n := by rfl) (hl : X.env.kindOf n = some .local := by rfl) :
      HdsG X (.ExceptHandler (some (.Name x np)) (some n) (b₀ :: su) pos' :: hds) (⟨k, some i, g⟩ :: l)
theorem exh_ok {P : Program} {w : World} {H : Hp} {h : Heap} {a C : Addr} {d : Option Addr} {oe : Obj} {vs : Array Value} (h1 : h.get? a = some oe) (h2 : oe.cls = .ref C) (h3 : oe.dict = d) (h4 : oe.data = .fields vs) : ObjOk P w H h a (exh a C d) :=
  ⟨⟨oe, vs, h1, h2, h3, h4⟩, ⟨oe, h1⟩, fun _ _ ⟨o, v, q, r⟩ k => ⟨o, v, k o q, r⟩⟩
section
variable {X : Cx} {pins pn : List (Addr × Obj)} {σ : L2.St} {H : Hp} {s : Shared} {a C : Addr} {d : Option Addr} {oe : Obj}
/-- the pinned exception is tracked -/
theorem Inv.track (I : Inv (X.suite a ((a, oe) :: pn)) [] σ H s) (h2 : oe.cls = .ref C) (h3 : oe.dict = d) (h4 : ∃ vs, oe.data = .fields vs) (n0 : X.s_0.heap.get? a = none) (np : ∀ p ∈ pn, p.1 ≠ a) :
    Inv (X.suite a pn) [] σ (upd H a (exh a C d)) s := by
  obtain ⟨vs, h4⟩ := h4
  obtain ⟨at1, na, nL, nF, nc⟩ := I.pin (a, oe) (List.mem_append_left _ List.mem_cons_self)
  have ne0 : ∀ b o, X.s_0.heap.get? b = some o → b ≠ a := fun b o e z => by rw [z] at e; exact absurd (n0.symm.trans e) (by intro q; cases q)
  have neH : ∀ b o, H b = some o → b ≠ a := fun b o e z => by rw [z] at e; exact absurd (na.symm.trans e) (by intro q; cases q)
  refine ⟨⟨I.ok.mod, I.ok.kind, I.ok.glob, I.ok.blt, I.ok.above, I.ok.inj, I.ok.has, I.ok.cab, I.ok.hd, I.ok.frames, I.ok.stk, I.ok.exf, I.ok.bs, I.ok.bsz, I.ok.noex, I.ok.exfs, I.ok.funs, I.ok.frf⟩, I.os, I.bare,
    ⟨I.base.keep, I.base.slot, fun b o e n hx => ?_, I.base.there, fun b xs e => ?_, fun b o u e => ?_, fun b ps e => ?_⟩, I.loc, I.cell, ?_, fun x c e => ?_, fun p hp => ?_, ?_, I.len⟩
  · rw [upd_ne (ne0 b o e)]; exact I.base.free b o e n hx
  · have q := I.base.tups b xs e
    rw [upd_ne (neH b _ q)]; exact q
  · have q := I.base.frzs b o u e
    rw [upd_ne (neH b _ q)]; exact q
  · obtain ⟨m, q⟩ := I.base.tbls b ps e
    exact ⟨m, by rw [upd_ne (neH b _ q)]; exact q⟩
  · rw [upd_ne (fun z => nL z.symm)]; exact I.free
  · have ne : c ≠ a := fun z => by
      obtain ⟨v, o, ho, hd⟩ := I.cell x c e
      rw [z] at ho
      have at2 : s.heap.get? a = some oe := at1
      rw [at2] at ho
      cases ho
      rw [h4] at hd
      cases hd
    rw [upd_ne ne]; exact I.freeC x c e
  · have hp' : p ∈ pn := by rw [List.append_nil] at hp; exact hp
    obtain ⟨p1, p2, p3, p4, p5⟩ := I.pin p (List.mem_append_left _ (List.mem_cons_of_mem _ hp'))
    exact ⟨p1, by rw [upd_ne (np p hp')]; exact p2, p3, p4, p5⟩
  · exact I.hok.laidN (fun _ _ q => q) na (exh_ok at1 h2 h3 h4)
/-- out of a clause -/
theorem Inv.outS (I : Inv (X.suite a (X.pn ++ pins)) [] σ H s) (ok : X.Ok) : Inv X pins σ H s :=
  ⟨ok, I.os, I.bare, I.base, I.loc, I.cell, I.free, I.freeC, fun p hp => I.pin p (by rw [List.append_nil]; exact hp), I.hok, I.len⟩
end
section
variable {X : Cx} {body : List Stmt} {hds : List ExceptHandler} {l : List Hdl} {gb : GS} {pos : Pos}
def noX : WX := fun _ _ _ _ => False
theorem takes_noX {a : Addr} {pn : List (Addr × Obj)} : Takes (X.suite a pn) noX := fun u s' ⟨_, _, _, _, _, _, _, _, _, _, _, _, _, _, _, _, w⟩ => w.elim
/-- what the body's exception brings -/
def wTry (C : GC) (F : Hp) (ι : Nat → Addr) (n : Nat) (r : SRes) : WX := fun cls d σ' H' => ∃ e ρ' G' F' ι', r = .exc e ρ' G' ∧ Ext F ι n F' ι' G'.length ∧ Sim C F' H' ι' G' ∧ REnv C.m F' ι' G'.length ρ' σ' ∧ XR C F' H' e cls d
def endU (D : Ends) : Option Nat → Ends
  | none => D
  | some i => { nx := fun σ' H' => D.nx (σ'.set i none) H', rt := D.rt, bk := fun σ' H' => D.bk (σ'.set i none) H', ct := fun σ' H' => D.ct (σ'.set i none) H' }
theorem postU {C : GC} {F : Hp} {ι : Nat → Addr} {n : Nat} {r : SRes} {D : Ends} (o : Option Nat) (h : PostS C F ι n (unS o r) D) : PostS { C with wx := noX } F ι n r (endU D o) := by
  cases r with
  | stuck => exact h
  | exc e ρ G => exact h.elim
  | ret w G => cases o <;> exact fun v H' q => h v H' q.wx
  | nx ρ G =>
    cases o with
    | none => exact fun σ' H' ⟨F', ι', a, b, c⟩ => h σ' H' ⟨F', ι', a, b.wx, c⟩
    | some i => exact fun σ' H' ⟨F', ι', a, b, c⟩ => h _ H' ⟨F', ι', a, b.wx, c.gone i⟩
  | bk ρ G =>
    cases o with
    | none => exact fun σ' H' ⟨F', ι', a, b, c⟩ => h σ' H' ⟨F', ι', a, b.wx, c⟩
    | some i => exact fun σ' H' ⟨F', ι', a, b, c⟩ => h _ H' ⟨F', ι', a, b.wx, c.gone i⟩
  | ct ρ G =>
    cases o with
    | none => exact fun σ' H' ⟨F', ι', a, b, c⟩ => h σ' H' ⟨F', ι', a, b.wx, c⟩
    | some i => exact fun σ' H' ⟨F', ι', a, b, c⟩ => h _ H' ⟨F', ι', a, b.wx, c.gone i⟩
/-- the caught exception, tracked, as a tree -/
theorem rp_hot {C : GC} {F H : Hp} {e : Exc} {cls : Value} {d : Option Addr} {a Ca : Addr} (x : XR C F H e cls d) (hc : cls = .ref Ca) (na : F a = none) : Rp C.m (upd F a (exh a Ca d)) (.ins e.c e.fs) (.ref a) := by
  obtain ⟨Cb, h1, h2, h3, h4⟩ := x
  rw [hc] at h3
  cases h3
  simp only [Rp]
  cases d with
  | none => exact ⟨a, Ca, [], rfl, h1, .hot0 h2 upd_same rfl, by rw [h4]; simp only [RpF]⟩
  | some dx =>
    obtain ⟨es, h5, h6⟩ := h4
    have ne : dx ≠ a := fun z => by rw [z, na] at h5; cases h5
    exact ⟨a, Ca, es, rfl, h1, .hot dx h2 upd_same (by rw [upd_ne ne]; exact h5), h6.mono fun b o q => by rw [upd_ne (fun z => by rw [z, na] at q; cases q)]; exact q⟩
theorem gs_try {h₀ : ExceptHandler} (hs : X.stack = X.env :: X.outer) (hf : X.env.frame = some X.env.locals) (hex : X.ex = []) (hb : ∀ pn xe, PassesOwn (model X.prog X.w) X.A X.env xe → GJSs (X.tr pn xe) body gb) (hh : HdsG X (h₀ :: hds) l) :
    GJS X (.Try body (h₀ :: hds) [] [] pos) (gTry gb l) := ⟨fun B F0 wx tk => by
  refine ⟨fun pins s σ H D I ⟨F, ι, ρ, G, sm, he, hp⟩ => ?_⟩
  have ok := I.ok
  have hfr : X.A.frames = some (X.env :: X.outer) := by rw [ok.frames, hs]
  -- what is wanted of the body
  have hbody : ∀ xe, Takes (X.tr (X.pn ++ pins) xe) (wTry (gc X B F0 wx) F ι G.length (gb ρ G)) → PassesOwn (model X.prog X.w) X.A X.env xe → wpAny (model X.prog X.w) X.A (execs body X.env) (SP (X.tr (X.pn ++ pins) xe) [] D) xe s := fun xe tkx po => by
    refine ((hb _ xe po).run B F0 _ tkx).run [] s σ H D (I.toTry _) ⟨F, ι, ρ, G, sm.wx, he, ?_⟩
    unfold gTry at hp
    cases q : gb ρ G with
    | exc e ρ' G' => exact fun cls d σ' H' F' ι' a b c x => ⟨e, ρ', G', F', ι', rfl, a, b.wx, c, x⟩
    | stuck => rw [q] at hp; exact hp
    | nx ρ' G' => rw [q] at hp; exact fun σ' H' ⟨F', ι', a, b, c⟩ => hp σ' H' ⟨F', ι', a, b.wx, c⟩
    | bk ρ' G' => rw [q] at hp; exact fun σ' H' ⟨F', ι', a, b, c⟩ => hp σ' H' ⟨F', ι', a, b.wx, c⟩
    | ct ρ' G' => rw [q] at hp; exact fun σ' H' ⟨F', ι', a, b, c⟩ => hp σ' H' ⟨F', ι', a, b.wx, c⟩
    | ret w G' => rw [q] at hp; exact fun v H' q => hp v H' q.wx
  refine wpAny_Try_except ?_
  refine wpAny_mono (hbody (fun e s₁ => wpAny (model X.prog X.w) X.A (noteFrame e X.env) (fun _ s₂ => wpAny (model X.prog X.w) X.A (setFlight e none) (fun _ s₃ => wpAny (model X.prog X.w) X.A (handleBy e X.env (h₀ :: hds)) (SP X pins D) X.xe s₃) X.xe s₂) X.xe s₁) (fun u s' xx => ?_) PassesOwn.looking) (fun f s1 hsp => ?_) (fun e s1 he => he)
  · -- an exception arrives
    obtain ⟨a, Bg, sI, pins', σ', H', cls, d, rfl, J', nb, up, sky, na, os, ag, wt⟩ := xx
    have J : Inv X pins σ' H' sI := J'.ofTry ok
    have sky1 : Sky Bg (X.env :: X.outer) a (Zc cls d) X.env.locals s'.heap := by rw [← hs]; exact sky
    obtain ⟨e, ρ', G', F', ι', qe, ee, s1, re, xr⟩ := wt
    unfold gTry at hp
    rw [qe] at hp
    have hp1 : PostS (gc X B F0 wx) F' ι' G'.length (gHds l e ρ' G') D := PostS.base ee hp
    show wpAny (model X.prog X.w) X.A (noteFrame (.ref a) X.env) _ _ _
    refine Sky.land Zc.steady hfr hf sky1 fun h3 fl3 up3 => ?_
    have J3 : Inv X pins σ' H' { s' with heap := h3 } := J.landed nb fl3.1 (up.trans up3) os ag
    obtain ⟨oe3, vs3, he3, hz3, hd3⟩ := fl3.there
    have notFr : ∀ {h : Heap} {o : Obj} {vs : Array Value}, h.FunFrames Bg (X.env :: X.outer) → h.get? a = some o → o.data = .fields vs → a ∉ frs (X.env :: X.outer) := fun {h o vs} ff q1 dd hm => by
      obtain ⟨_, o2, q2, hnf⟩ := ff.mem hm
      exact hnf vs (by rw [q1] at q2; cases q2; exact dd)
    have nfr := notFr fl3.2.2.1 he3 hd3
    have nL : a ≠ X.env.locals := fun z => nfr (List.mem_filterMap.mpr ⟨X.env, List.mem_cons_self, by rw [hf, ← z]⟩)
    have nF : a ∉ X.fs := fun hm => by
      obtain ⟨e', h1, h2⟩ := List.mem_filterMap.mp hm
      exact nfr (List.mem_filterMap.mpr ⟨e', List.mem_cons_of_mem _ h1, h2⟩)
    have nB : Bg.get? a = none := fl3.2.1
    have noI : ∀ o, sI.heap.get? a = some o → False := fun o q => by
      have z := nb a o q (by rw [hs]; exact nfr)
      exact absurd (nB.symm.trans z) (by intro q; cases q)
    have n0 : X.s_0.heap.get? a = none := by
      cases q : X.s_0.heap.get? a with
      | none => rfl
      | some o =>
        obtain ⟨o', q'⟩ := J.base.there a o q (by rw [hex]; exact fun z => nomatch z)
        exact (noI o' q').elim
    have np : ∀ p ∈ X.pn ++ pins, p.1 ≠ a := fun p hm z => by
      have q := (J.pin p hm).1
      rw [z] at q
      exact noI _ q
    obtain ⟨Ca, x1, x2, x3, x4⟩ := id xr
    have S3 := J3.suite he3 hd3 na nL nF
    have go : ∀ {hds' : List ExceptHandler} {l' : List Hdl}, HdsG X hds' l' → PostS (gc X B F0 wx) F' ι' G'.length (gHds l' e ρ' G') D → wpAny (model X.prog X.w) X.A (handleBy (.ref a) X.env hds') (SP X pins D) X.xe { s' with heap := h3 } := by
      intro hds' l' hk
      -- a clause's suite, its name stored
      have run : ∀ {g : GS} {su : List Stmt} (o : Option Nat) (σ5 : L2.St) (s5 : Shared) (ρ5 : GEnv) (oe5 : Obj), Zc cls d oe5 → (∃ vs, oe5.data = .fields vs) → Inv (X.suite a ((a, oe5) :: (X.pn ++ pins))) [] σ5 H' s5 →
          REnv (md X) (upd F' a (exh a Ca d)) ι' G'.length ρ5 σ5 → (∀ a pn, GJSs (X.suite a pn) su g) → PostS (gc X B F0 wx) F' ι' G'.length (unS o (g ρ5 G')) D →
          wpAny (model X.prog X.w) (X.suite a (X.pn ++ pins)).A (execs su X.env) (SP (X.suite a (X.pn ++ pins)) [] (endU D o)) (fun _ _ => False) s5 := by
        intro g su o σ5 s5 ρ5 oe5 z5 d5 I5 r5 hsu p5
        have I6 := Inv.track (C := Ca) (d := d) I5 (by rw [z5.1, x3]) z5.2 d5 n0 np
        obtain ⟨s6, e6⟩ := s1.lay (o := exh a Ca d) na
        exact ((hsu a _).run B F0 noX takes_noX).run [] s5 σ5 _ (endU D o) I6 ⟨_, ι', ρ5, G', s6.wx, r5, postU o (PostS.base e6 p5)⟩
      induction hk with
      | nil =>
        intro w
        refine wpAny_handleBy_nil ?_
        obtain ⟨k1, k2, k3, oe, vs, T, oT, ts', q1, q2, q3, q4, q5⟩ := id fl3
        unfold PySem.passOn
        refine wpAny_bind (wpAny_field q1 q3 q4 ?_)
        rw [if_neg (show ¬ ((Value.ref T == Value.none) = true) from by simp)]
        have fin : wpAny (model X.prog X.w) X.A (setFlight (.ref a) X.env.frame) (fun _ s4 => wpAny (model X.prog X.w) X.A (throw (.ref a) : Sem Flow) (SP X pins D) X.xe s4) X.xe { s' with heap := h3 } := by
          rw [hf]
          refine HandSPX.setFlight_upZ fl3 fun h4 hh4 up4 => wpAny_throw (tk _ _ ?_)
          exact ⟨a, Bg, sI, pins, σ', H', cls, d, rfl, J, nb, (up.trans up3).trans up4, .inr (.inr (by rw [hs]; exact hh4)), na, os, ag, w cls d σ' H' F' ι' .refl s1 re xr⟩
        first | exact wpAny_bind (wpAny_pure (wpAny_bind fin)) | exact wpAny_bind fin
      | @one x k g b₀ su np' pos' hds2 l2 hc hsu r ih =>
        intro w
        obtain ⟨c, hn, hk⟩ := hc.ex
        unfold gHds at w
        cases qk : k e.c with
        | none => simp only [qk] at w; exact w.elim
        | some b =>
          simp only [qk] at w
          have hb1 := hk _ _ _ qk x1
          refine wpAny_handleBy_cons (codeAny_handlers_test ?_) (by intro q; cases q)
          have LT : PySem.W.Looks (model X.prog X.w) h3 (typeOf (.ref a)) (.ref Ca) := fun A Q E s k q => wpAny_typeOf_ref (k _ _ he3) (by rw [hz3.1, x3]; exact q)
          have LM := PySem.W.exm_one (M := model X.prog X.w) (J3.kIn) LT hb1
          have test : ∀ {Q : Value → Shared → Prop} {E : Value → Shared → Prop}, Q c { s' with heap := h3 } → wpAny (model X.prog X.w) (X.A.mark (some (.ref a))) (eval (.Name x np') X.env) Q E { s' with heap := h3 } := fun {Q E} q => by
            obtain ⟨hg, hdbg, hm | ⟨hm, hv, hnn⟩⟩ := hn
            · exact ld_glob (X := X.suite a ((a, oe3) :: (X.pn ++ pins))) S3 hg hm q hdbg
            · exact ld_blt (X := X.suite a ((a, oe3) :: (X.pn ++ pins))) S3 hg hm hv q hnn hdbg
          refine test (LM.here ?_)
          cases b with
          | false => exact ih w
          | true =>
            refine codeAny_handlers_suite ?_
            refine HandSPX.lands_againZ fl3 fun h4 fl4 up4 => ?_
            have J4 : Inv X pins σ' H' { s' with heap := h4 } := J.landed nb fl4.1 ((up.trans up3).trans up4) os ag
            obtain ⟨oe4, vs4, he4, hz4, hd4⟩ := fl4.there
            refine wpAny_mono (run (su := b₀ :: su) none σ' _ ρ' oe4 hz4 ⟨_, hd4⟩ (J4.suite he4 hd4 na nL nF) (re.mono (s1.lay (o := exh a Ca d) na).2) hsu w) (fun f s6 hsp => ?_) (fun _ _ z => z.elim)
            cases f with
            | next => obtain ⟨σ6, H6, S6, q6⟩ := hsp; exact ⟨_, _, Inv.outS S6 ok, q6⟩
            | brk => obtain ⟨σ6, H6, S6, q6⟩ := hsp; exact ⟨_, _, Inv.outS S6 ok, q6⟩
            | cont => obtain ⟨σ6, H6, S6, q6⟩ := hsp; exact ⟨_, _, Inv.outS S6 ok, q6⟩
            | ret u => obtain ⟨v6, σ6, H6, S6, r6, q6⟩ := hsp; exact ⟨_, _, _, Inv.outS S6 ok, r6, q6⟩
      | @as i x n k g b₀ su np' pos' hds2 l2 hN hc hsu r hi hln ih =>
        intro w
        obtain ⟨c, hn, hk⟩ := hc.ex
        unfold gHds at w
        cases qk : k e.c with
        | none => simp only [qk] at w; exact w.elim
        | some b =>
          simp only [qk] at w
          have hb1 := hk _ _ _ qk x1
          refine wpAny_handleBy_cons (codeAny_handlers_test ?_) (by intro q; cases q)
          have LT : PySem.W.Looks (model X.prog X.w) h3 (typeOf (.ref a)) (.ref Ca) := fun A Q E s k q => wpAny_typeOf_ref (k _ _ he3) (by rw [hz3.1, x3]; exact q)
          have LM := PySem.W.exm_one (M := model X.prog X.w) (J3.kIn) LT hb1
          have test : ∀ {Q : Value → Shared → Prop} {E : Value → Shared → Prop}, Q c { s' with heap := h3 } → wpAny (model X.prog X.w) (X.A.mark (some (.ref a))) (eval (.Name x np') X.env) Q E { s' with heap := h3 } := fun {Q E} q => by
            obtain ⟨hg, hdbg, hm | ⟨hm, hv, hnn⟩⟩ := hn
            · exact ld_glob (X := X.suite a ((a, oe3) :: (X.pn ++ pins))) S3 hg hm q hdbg
            · exact ld_blt (X := X.suite a ((a, oe3) :: (X.pn ++ pins))) S3 hg hm hv q hnn hdbg
          refine test (LM.here ?_)
          cases b with
          | false => exact ih w
          | true =>
            refine codeAny_handlers_suite_as ?_
            refine HandSPX.lands_againZ fl3 fun h4 fl4 up4 => ?_
            have J4 : Inv X pins σ' H' { s' with heap := h4 } := J.landed nb fl4.1 ((up.trans up3).trans up4) os ag
            obtain ⟨oe4, vs4, he4, hz4, hd4⟩ := fl4.there
            have S4 := J4.suite he4 hd4 na nL nF
            have hloc : Loc X.env.scope n := .inl hln
            refine store_ok (X := X.suite a ((a, oe4) :: (X.pn ++ pins))) (v := .ref a) S4 hN hi hloc rfl (fun s5 S5 => ?_) (.inr hln)
            have r5 : REnv (md X) (upd F' a (exh a Ca d)) ι' G'.length (ρ'.set i (some (.d (.ins e.c e.fs)))) (σ'.set i (some (.ref a))) :=
              (re.mono (s1.lay (o := exh a Ca d) na).2).set i (by simp only [RpW]; exact rp_hot xr x3 (s1.free na))
            have gone : ∀ {σ6 : L2.St} {H6 : Hp} {s6 : Shared} {Q : Shared → Prop}, Inv (X.suite a (X.pn ++ pins)) [] σ6 H6 s6 → (∀ s7, Inv X pins (σ6.set i none) H6 s7 → Q s7) →
                wpAny (model X.prog X.w) X.A (do bindName X.env n .none; unbindBehindTheSuite X.env n pos') (fun _ s7 => Q s7) X.xe s6 := fun {σ6 H6 s6 Q} S6 hq => gone_ok (Inv.outS S6 ok) hN hi hln hq
            refine wpAny_mono (run (su := b₀ :: su) (some i) _ s5 _ oe4 hz4 ⟨_, hd4⟩ S5 r5 hsu w) (fun f s6 hsp => ?_) (fun _ _ z => z.elim)
            cases f with
            | next => obtain ⟨σ6, H6, S6, q6⟩ := hsp; exact gone S6 fun s7 J7 => ⟨_, _, J7, q6⟩
            | brk => obtain ⟨σ6, H6, S6, q6⟩ := hsp; exact gone S6 fun s7 J7 => ⟨_, _, J7, q6⟩
            | cont => obtain ⟨σ6, H6, S6, q6⟩ := hsp; exact gone S6 fun s7 J7 => ⟨_, _, J7, q6⟩
            | ret u => obtain ⟨v6, σ6, H6, S6, r6, q6⟩ := hsp; exact gone S6 fun s7 J7 => ⟨_, _, _, J7, r6, q6⟩
    exact go hh hp1
  · cases f with
    | next => obtain ⟨σ6, H6, J6, q6⟩ := hsp; exact wpAny_execs_nil ⟨σ6, H6, J6.ofTry ok, q6⟩
    | brk => obtain ⟨σ6, H6, J6, q6⟩ := hsp; exact ⟨σ6, H6, J6.ofTry ok, q6⟩
    | cont => obtain ⟨σ6, H6, J6, q6⟩ := hsp; exact ⟨σ6, H6, J6.ofTry ok, q6⟩
    | ret u => obtain ⟨v6, σ6, H6, J6, r6, q6⟩ := hsp; exact ⟨v6, σ6, H6, J6.ofTry ok, r6, q6⟩⟩
end
end Gh

set_option Elab.async false
set_option linter.all false
set_option maxRecDepth 100000
set_option maxHeartbeats 4000000
namespace Gh
open PySem PySem.Spec PyProof.Rows L2

/-! ### repr -/
def okR (d : PyData) : Bool := SeqAt.shaped d && (d.showable && small d.shown.length)
def rRepr (K : PySem.W.Frag) : List V → Hp → VK → Prop := fun xs H Q => ∃ x d, xs = [x] ∧ Q (.str d.shown) H ∧ ((Dp K H x d ∧ okR d = true) ∨ (d = .dict [] ∧ ∃ a, x = .ref a ∧ Rd H a (.dK [])))
theorem lay_noDict : ∀ d : PyData, d.canLay0 = true → d.hasDict = false
  | .none, _ => rfl
  | .bool _, _ => rfl
  | .int _, _ => rfl
  | .str _, _ => rfl
  | .list xs, h => by simp only [PyData.canLay0] at h; simp only [PyData.hasDict]; exact go xs h
  | .tuple xs, h => by simp only [PyData.canLay0] at h; simp only [PyData.hasDict]; exact go xs h
  | .dict _, h => by simp [PyData.canLay0] at h
where go : ∀ xs : List PyData, PyData.canLayAll0 xs = true → PyData.hasDictAll xs = false
  | [], _ => rfl
  | x :: xs, h => by
    simp only [PyData.canLayAll0, Bool.and_eq_true] at h
    simp only [PyData.hasDictAll, lay_noDict x h.1, go xs h.2, Bool.or_false]
theorem call_reprA {X : Cx} (hg : X.A.guards = some []) (hu : X.A.units + 65 < cLine) : CallR X (.builtin "repr") (rRepr X.K) := by
  intro pins s σ H xs us Q I r h
  obtain ⟨x, d, rfl, q, h⟩ := h
  obtain ⟨u, rfl, rx⟩ := vals1 r
  have fin : ∀ {h' : Heap} {u' : Tok} {tk : Nat}, (∀ b o, s.heap.get? b = some o → h'.get? b = some o) → EP X pins σ Q (.str d.shown u') { s with heap := h', toks := tk } := fun {h' u' tk} k => ⟨.str d.shown, H, I.kept k, ⟨_, rfl⟩, q⟩
  rcases h with ⟨hd, ok⟩ | ⟨rfl, a, rfl, hd⟩
  · unfold okR at ok
    simp only [Bool.and_eq_true] at ok
    obtain ⟨o1, o2, o3⟩ := ok
    have dp := SeqAt.depth_of_shaped o1
    have nd := lay_noDict d (SeqAt.canLay_of_shaped o1)
    obtain ⟨as, rd⟩ := Dp.reads I d x u hd rx
    have heap : ∀ a, u = .ref a → wpAny (model X.prog X.w) X.A (call (.builtin "repr") [u]) (EP X pins σ Q) X.xe s := fun a e => by
      subst e
      exact repr_of_reads' rd o2 (fun z => by rw [nd] at z; cases z) hg (by omega) (fun _ _ z => z) (fun h' u' tk k => fin k) (small_le o3)
    cases rd with
    | none => exact PySem.P.repr_of_none (fin fun _ _ z => z)
    | bool b => exact PySem.P.repr_of_bool (fin fun _ _ z => z)
    | int i t => exact PySem.P.repr_of_int (by simpa [PyData.showable] using o2) (fin fun _ _ z => z)
    | str i t => exact PySem.P.repr_of_str (fin fun _ _ z => z) (small_le o3)
    | list h1 h2 h3 h4 => exact heap _ rfl
    | tuple h1 h2 h3 h4 => exact heap _ rfl
    | dict h1 h2 h3 h4 h5 => exact heap _ rfl
  · obtain rfl : u = Value.ref a := rx
    obtain ⟨z, lo, vs, rk, o, es, ep, ho, ex, hdat, ko, pr, nd⟩ := dk_rd I.hok hd
    cases rk
    have ees : es.toList = [] := by
      cases hl : es.toList with
      | nil => rfl
      | cons e l => rw [hl] at pr; cases pr
    have rd : Reads s.heap (.ref a) (.dict []) (a :: [] ++ []) := .dict ho ex.1 hdat (by rw [ees]; exact .nil) (by rw [ees]; exact .nil)
    exact repr_of_reads' rd rfl (fun _ hm => by simp only [List.append_nil, List.mem_singleton] at hm; rw [← hm] at lo; simp at lo) hg (by simp only [PyData.depth, PyData.depthKv]; omega) (fun _ _ z => z) (fun h' u' tk k => fin k) (by decide +kernel)
def fRepr : List W → Hg → Option (W × Hg) := fun ws G => match ws with
  | [w] => match snap w G with
    | some (.dic false []) => some (.d (.str "{}"), G)
    | some d => if okR (toPy d) then some (.d (.str (toPy d).shown), G) else none
    | none => none
  | _ => none
theorem shown_e : PyData.shown (.dict []) = "{}" := by decide +kernel
theorem cg_repr {X : Cx} : CallG X (rRepr X.K) fRepr := by
  intro C F H ι G ws xs z G' Q hK s rw_ e hQ
  unfold fRepr at e
  split at e
  · rename_i w
    simp only [RpWL] at rw_
    obtain ⟨x, r, rfl, h1, rfl⟩ := rw_
    split at e
    · rename_i q
      cases e
      have hr := s.snap q h1
      simp only [Rp] at hr
      obtain ⟨a, od, es, rfl, h2, h3⟩ := hr
      simp only [RpK] at h3
      subst h3
      exact ⟨_, .dict [], rfl, hQ _ _ (out_flat s (by rw [shown_e]; exact rpS)), .inr ⟨rfl, a, rfl, .inr ⟨od, h2⟩⟩⟩
    · rename_i d hne q
      by_cases c : okR (toPy d) = true
      · rw [if_pos c] at e
        cases e
        have c1 : SeqAt.shaped (toPy d) = true := by unfold okR at c; exact (band c).1
        have e1 := Rp.dp (SeqAt.canLay_of_shaped c1) (s.snap q h1)
        rw [hK] at e1
        exact ⟨_, toPy d, rfl, hQ _ _ (out_flat s rpS), .inl ⟨e1, c⟩⟩
      · rw [if_neg c] at e; cases e
    · cases e
  · cases e

/-! ### == of two texts, without a look at their form -/
def fEqS (neg : Bool) (w u : W) (G : Hg) : Option (W × Hg) := match w, u with
  | .d (.str x), .d (.str y) => some (.d (.bl (neg ^^ decide (x = y))), G)
  | _, _ => fEqE neg w u G
theorem dec_strV {i j : Str} : decide (V.str i = V.str j) = decide (i = j) := by
  rw [Bool.eq_iff_iff]
  simp
theorem og_eqS {X : Cx} : OpG X (fun x y H Q => (rEqD X.K x y H Q ∨ rEqE false x y H Q) ∨ rEq x y H Q) (fEqS false) := by
  intro C F H ι G w u x y z G' Q hK s rw_ ru e hQ
  unfold fEqS at e
  split at e
  · rename_i a b
    cases e
    simp only [RpW, Rp] at rw_ ru
    subst rw_ ru
    exact .inr ⟨rfl, hQ _ _ (out_flat s (by rw [dec_strV, Bool.false_xor]; exact rpB))⟩
  · exact .inl (og_eqE C F H ι G _ _ x y z G' Q hK s rw_ ru e hQ)
theorem og_neS {X : Cx} : OpG X (fun x y H Q => (rNeD X.K x y H Q ∨ rEqE true x y H Q) ∨ rNe x y H Q) (fEqS true) := by
  intro C F H ι G w u x y z G' Q hK s rw_ ru e hQ
  unfold fEqS at e
  split at e
  · rename_i a b
    cases e
    simp only [RpW, Rp] at rw_ ru
    subst rw_ ru
    exact .inr ⟨rfl, hQ _ _ (out_flat s (by rw [dec_strV, Bool.true_xor]; exact rpB))⟩
  · exact .inl (og_neE C F H ι G _ _ x y z G' Q hK s rw_ ru e hQ)
theorem op_eqS {X : Cx} (hu : X.A.units + 65 < cLine) : OpR X (compareOp .Eq) (fun x y H Q => (rEqD X.K x y H Q ∨ rEqE false x y H Q) ∨ rEq x y H Q) := (op_eqA hu).or op_eq
theorem op_neS {X : Cx} (hu : X.A.units + 65 < cLine) : OpR X (compareOp .NotEq) (fun x y H Q => (rNeD X.K x y H Q ∨ rEqE true x y H Q) ∨ rNe x y H Q) := (op_neA hu).or op_ne

/-! ### dict(pairs), dict(d) -/
def pairW (G : Hg) (w : W) : Option (D × W) := match seqW w G with
  | some (false, [k, v]) => (keyW k).map fun d => (d, v)
  | _ => none
def mergeW (kvs more : List (D × W)) : List (D × W) := more.foldl (fun acc p => putW acc p.1 p.2) kvs
def pairsW (w : W) (G : Hg) : Option (List (D × W)) := match dicW w G with
  | some kvs => some kvs
  | none => match seqW w G with
    | some (true, ws) => (mapO (pairW G) ws).map (mergeW [])
    | _ => none
def rDictC (K : PySem.W.Frag) : List V → Hp → VK → Prop := fun xs H Q => (∃ (a : Addr) (ps : List Addr) (kvs : List (Key × V)), xs = [.ref a] ∧ SqL K H a (ps.map V.ref) ∧ Paired (fun p kv => SqT K H p [kV kv.1, kv.2]) ps kvs ∧ ∀ p, H p = none → Q (.ref p) (upd H p (.dK (mergeK [] kvs)))) ∨
  ∃ (a : Addr) (kvs : List (Key × V)), xs = [.ref a] ∧ Rd H a (.dK kvs) ∧ ∀ p, H p = none → Q (.ref p) (upd H p (.dK kvs))
theorem call_dictC {X : Cx} (hc : X.calm = true) : CallR X (.type "dict") (rDictC X.K) := by
  intro pins s σ H xs us Q I r h
  rcases h with h | h
  · exact call_dictP hc pins s σ H xs us Q I r h
  · exact call_dictD pins s σ H xs us Q I r h
theorem merge_rp {M : Md} {F : Hp} {ι : Nat → Addr} {n : Nat} : ∀ {more : List (D × W)} {ms : List (Key × V)} {kvs : List (D × W)} {es : List (Key × V)}, RpWK M F ι n more ms → RpWK M F ι n kvs es → RpWK M F ι n (mergeW kvs more) (mergeK es ms)
  | [], ms, kvs, es, h, k => by simp only [RpWK] at h; subst h; exact k
  | (d, w) :: more, ms, kvs, es, h, k => by
    simp only [RpWK] at h
    obtain ⟨kk, x, r, rfl, h1, h2, h3⟩ := h
    exact merge_rp (kvs := putW kvs d w) (es := putK es kk x) h3 (k.put h1 h2)
theorem Sim.pairs {C : GC} {F H : Hp} {ι : Nat → Addr} {G : Hg} (s : Sim C F H ι G) : ∀ {ws : List W} {ps : List (D × W)} {xs : List V}, mapO (pairW G) ws = some ps → RpWL C.m F ι G.length ws xs →
    ∃ (as : List Addr) (kvs : List (Key × V)), xs = as.map V.ref ∧ Paired (fun p kv => SqT C.m.K H p [kV kv.1, kv.2]) as kvs ∧ RpWK C.m F ι G.length ps kvs
  | [], ps, xs, h, r => by
    cases h
    simp only [RpWL] at r
    exact ⟨[], [], r, .nil, by simp only [RpWK]⟩
  | w :: ws, ps, xs, h, r => by
    obtain ⟨p, ps', h1, h2, rfl⟩ := mapO_cons h
    simp only [RpWL] at r
    obtain ⟨x, r', rfl, r1, r2⟩ := r
    obtain ⟨as, kvs, rfl, pr, rk⟩ := s.pairs h2 r2
    unfold pairW at h1
    split at h1
    · rename_i k v q
      obtain ⟨d, q2, rfl⟩ := map_some h1
      obtain ⟨a, ys, rfl, hq, rq⟩ := s.seq q r1
      rw [if_neg Bool.false_ne_true] at hq
      obtain ⟨rfl, kk, q3⟩ := keyW_inv q2
      simp only [RpWL, RpW] at rq
      obtain ⟨y1, _, rfl, rk1, y2, _, rfl, rk2, rfl⟩ := rq
      have e1 := key_rp q3 rk1
      subst e1
      exact ⟨a :: as, (kk, y2) :: kvs, rfl, .cons hq pr, by simp only [RpWK]; exact ⟨kk, y2, kvs, rfl, q3, rk2, rk⟩⟩
    · cases h1
def gDictC (new : Bool) (a : GE) : GE := fun ρ G => (a ρ G).bind fun w G1 => match pairsW w G1 with
  | some kvs => if new then .ok (.ref G1.length) (G1 ++ [.dic false kvs]) else (match allKD kvs with
    | some ds => .ok (.d (.dic false ds)) G1
    | none => .stuck)
  | none => .stuck
section
variable {X : Cx} {e : Expr} {ge : GE} {p pos : Pos}
theorem dictC_end {C : GC} {F H : Hp} {ι : Nat → Addr} {G : Hg} {kvs : List (D × W)} {es : List (Key × V)} {σ : L2.St} {Q : VK} {new : Bool} (s : Sim C F H ι G) (r : RpWK C.m F ι G.length kvs es)
    (p : Post C F ι G.length σ (if new then .ok (.ref G.length) (G ++ [.dic false kvs]) else (match allKD kvs with | some ds => .ok (.d (.dic false ds)) G | none => .stuck) : Res W) Q) :
    ∀ l, H l = none → Q (.ref l) (upd H l (.dK es)) ∨ ∃ d u, V.ref l = .ref d ∧ upd H l (.dK es) d = some u ∧ Mut (some u) ∧ ∀ od, Q (.ref l) (upd (upd H l (.dK es)) d (.frz od u)) := fun l hl => by
  cases new with
  | true => rw [if_pos rfl] at p; exact .inl (p _ _ (out_newD s r hl))
  | false =>
    rw [if_neg Bool.false_ne_true] at p
    cases q : allKD kvs with
    | none => rw [q] at p; exact p.elim
    | some ds =>
      rw [q] at p
      exact .inr ⟨l, _, rfl, upd_same, trivial, fun od => by rw [upd_upd]; exact p _ _ (out_dic s (allKD_rp q r) hl od)⟩
theorem ge_dictC (new : Bool) (hm : X.mg "dict" = none) (hc : X.calm = true) (he : GJE X e ge) (hg : Gl X "dict" := by rfl) (hs : starEach [e] X.env = (false, eval e X.env) :: starEach [] X.env := by rfl) (hpl : (backTo pos (starEach [] X.env)).any (·.1) = false := by rfl) :
    GJE X (.Call (.Name "dict" p) [e] [] pos) (gDictC new ge) := ⟨fun B F0 wx tk => by
  refine PE.imp (pe_lockRes (pe_callTy (call_dictC hc) hg hm (by decide +kernel) (pa_cons (he.run B F0 wx tk) pa_nil hs) (by decide) (by decide) hs hpl)) fun σ H Q ⟨F, ι, ρ, G, s, hr, hp⟩ => ?_
  refine ⟨F, ι, ρ, G, s, hr, (Post.fst hp).imp fun x H1 ⟨F1, ι1, w, G1, e1, s1, r1, p1⟩ => ?_⟩
  cases q : pairsW w G1 with
  | none => rw [q] at p1; exact p1.elim
  | some kvs =>
    rw [q] at p1
    simp only at p1
    unfold pairsW at q
    split at q
    · rename_i kvs' q2
      cases q
      obtain ⟨a, es, rfl, h1, h2⟩ := s1.dic q2 r1
      exact .inr ⟨a, es, rfl, h1, dictC_end s1 h2 p1⟩
    · split at q
      · rename_i ws q2
        obtain ⟨ps, q3, rfl⟩ := map_some q
        obtain ⟨a, xs, rfl, h1, h2⟩ := s1.seq q2 r1
        rw [if_pos rfl] at h1
        obtain ⟨as, ms, rfl, h3, h4⟩ := s1.pairs q3 h2
        exact .inl ⟨a, as, ms, rfl, h1, h3, dictC_end s1 (merge_rp h4 (by simp only [RpWK])) p1⟩
      · cases q⟩
end
end Gh

set_option Elab.async false
set_option linter.all false
set_option maxRecDepth 100000
set_option maxHeartbeats 4000000
namespace Gh
open PySem PySem.Spec PyProof.Rows L2

/-! ### list(range(..)) -/
def rgD (a b : Int) : List D := (List.range (b - a).toNat).map fun (i : Nat) => D.int (a + (i : Int))
def rgOk (a b : Int) : Bool := decide (-(2 ^ 62) ≤ a) && (decide (a < 2 ^ 62) && (decide (-(2 ^ 62) ≤ b) && (decide (b < 2 ^ 62) && Nat.ble (b - a).toNat 16777216)))
theorem rgOk_ok {a b : Int} (h : rgOk a b = true) : RgOk a b := by
  unfold rgOk at h
  simp only [Bool.and_eq_true, decide_eq_true_eq] at h
  exact ⟨h.1, h.2.1, h.2.2.1, h.2.2.2.1, Nat.le_of_ble_eq_true h.2.2.2.2⟩
theorem rpL_ints {M : Md} {F : Hp} (f : Nat → Int) : ∀ l : List Nat, RpL M F (l.map fun i => D.int (f i)) (l.map fun i => V.int (f i))
  | [] => by simp only [List.map_nil, RpL]
  | i :: l => by simp only [List.map_cons, RpL, Rp]; exact ⟨_, _, rfl, rfl, rpL_ints f l⟩
def lstRg (new : Bool) (a b : Int) (G : Hg) : Res W := if rgOk a b then (if new then .ok (.ref G.length) (G ++ [.lst ((rgD a b).map .d)]) else .ok (.d (.lst (rgD a b))) G) else .stuck
def gListRg1 (new : Bool) (a : GE) : GE := fun ρ G => (a ρ G).bind fun w G1 => match w with
  | .d (.int n) => lstRg new 0 n G1
  | _ => .stuck
def gListRg2 (new : Bool) (a b : GE) : GE := fun ρ G => (a ρ G).bind fun w G1 => (b ρ G1).bind fun u G2 => match w, u with
  | .d (.int m), .d (.int n) => lstRg new m n G2
  | _, _ => .stuck
theorem lstRg_ok {C : GC} {F H : Hp} {ι : Nat → Addr} {G : Hg} {new : Bool} {a b : Int} {σ : L2.St} {Q : VK} (s : Sim C F H ι G) (p : Post C F ι G.length σ (lstRg new a b G) Q) : RgOk a b ∧ ∀ q, H q = none → Q (.ref q) (upd H q (.lst (rgV a b))) := by
  unfold lstRg at p
  cases c : rgOk a b with
  | false => rw [c] at p; exact p.elim
  | true =>
    rw [c, if_pos rfl] at p
    refine ⟨rgOk_ok c, fun q hq => ?_⟩
    have r : RpL C.m F (rgD a b) (rgV a b) := rpL_ints (fun i => a + (i : Int)) _
    cases new with
    | true => rw [if_pos rfl] at p; exact p _ _ (out_new s r.wl hq)
    | false => rw [if_neg Bool.false_ne_true] at p; exact p _ _ (out_lst s r hq)
section
variable {X : Cx} {e f : Expr} {ge gf : GE} {p p2 pos pos2 : Pos}
theorem ge_listRg1 (new : Bool) (hm : X.mg "list" = none) (hm2 : X.mg "range" = none) (hc : X.calm = true) (he : GJE X e ge) (hg : Gl X "list" := by rfl) (hg2 : Gl X "range" := by rfl) (na : starEach [e] X.env = (false, eval e X.env) :: starEach [] X.env := by rfl)
    (nb : starEach [.Call (.Name "range" p2) [e] [] pos2] X.env = (false, eval (.Call (.Name "range" p2) [e] [] pos2) X.env) :: starEach [] X.env := by rfl) :
    GJE X (.Call (.Name "list" p) [.Call (.Name "range" p2) [e] [] pos2] [] pos) (gListRg1 new ge) := ⟨fun B F0 wx tk => by
  refine PE.imp (pe_listRg hc hg hm (prg_1 hg2 hm2 (he.run B F0 wx tk) na) nb) fun σ H Q ⟨F, ι, ρ, G, s, hr, hp⟩ => ?_
  refine ⟨F, ι, ρ, G, s, hr, (Post.fst hp).imp fun x H1 ⟨F1, ι1, w, G1, e1, s1, r1, p1⟩ => ?_⟩
  split at p1
  · simp only [RpW, Rp] at r1
    exact ⟨_, r1, lstRg_ok s1 p1⟩
  · exact p1.elim⟩
theorem ge_listRg2 (new : Bool) (hm : X.mg "list" = none) (hm2 : X.mg "range" = none) (hc : X.calm = true) (he : GJE X e ge) (hf : GJE X f gf) (hg : Gl X "list" := by rfl) (hg2 : Gl X "range" := by rfl)
    (na : starEach [e, f] X.env = (false, eval e X.env) :: starEach [f] X.env := by rfl) (nf : starEach [f] X.env = (false, eval f X.env) :: starEach [] X.env := by rfl) (hpl : (backTo pos2 (starEach [f] X.env)).any (·.1) = false := by rfl)
    (nb : starEach [.Call (.Name "range" p2) [e, f] [] pos2] X.env = (false, eval (.Call (.Name "range" p2) [e, f] [] pos2) X.env) :: starEach [] X.env := by rfl) :
    GJE X (.Call (.Name "list" p) [.Call (.Name "range" p2) [e, f] [] pos2] [] pos) (gListRg2 new ge gf) := ⟨fun B F0 wx tk => by
  refine PE.imp (pe_listRg hc hg hm (prg_2 hg2 hm2 (he.run B F0 wx tk) (hf.run B F0 wx tk) na nf hpl) nb) fun σ H Q ⟨F, ι, ρ, G, s, hr, hp⟩ => ?_
  refine ⟨F, ι, ρ, G, s, hr, (Post.fst hp).imp fun x H1 ⟨F1, ι1, w, G1, e1, s1, r1, p1⟩ => ⟨F1, ι1, ρ, G1, s1, hr.mono e1, (Post.fst p1).imp fun y H2 ⟨F2, ι2, u, G2, e2, s2, r2, p2⟩ => ?_⟩⟩
  split at p2
  · simp only [RpW, Rp] at r1 r2
    exact ⟨_, _, r1, r2, lstRg_ok s2 p2⟩
  · exact p2.elim⟩
end

/-! ### the classes that except clauses name: facts of the text -/
structure NamesF (K : PySem.W.Frag) (mg : Str → Option Value) (x : Str) (k : Str → Option Bool) : Prop where
  ex : ∃ c, (mg x = some c ∨ (mg x = none ∧ bootBuiltins x = some c ∧ x ≠ "__name__")) ∧ ∀ cl b Ca, k cl = some b → mg cl = some (.ref Ca) → PySem.W.exmOne K (.ref Ca) c = some b
theorem NamesF.k {X : Cx} {x : Str} {k : Str → Option Bool} (n : NamesF X.K X.mg x k) (hg : Gl X x := by rfl) (hd : (x == ("__debug__" : Str)) = false := by decide) : NamesK X x k := by
  obtain ⟨c, h1, h2⟩ := n.ex
  exact ⟨⟨c, ⟨hg, hd, h1⟩, h2⟩⟩
def namesb (K : PySem.W.Frag) (x : Str) (l : List (Str × Bool)) : Bool := He.eqO (PySem.W.nsIn K mainGlobals x) (some (some (.ref (He.ga K x)))) &&
  (l.all fun p => He.eqO (PySem.W.nsIn K mainGlobals p.1) (some (some (.ref (He.ga K p.1)))) && decide (PySem.W.exmOne K (.ref (He.ga K p.1)) (.ref (He.ga K x)) = some p.2))
theorem namesb_ok {K : PySem.W.Frag} {h : Heap} {mg : Str → Option Value} (X : K.In h) (G : h.Ns mainGlobals mg) {x : Str} {l : List (Str × Bool)} (b : namesb K x l = true) : NamesF K mg x (fun c => l.lookup c) := by
  obtain ⟨h1, h2⟩ := band b
  refine ⟨⟨_, .inl (PySem.W.mg_of X G (He.eqO_ok h1)), fun cl b Ca hl hc => ?_⟩⟩
  have z := List.all_eq_true.mp h2 _ (look_mem hl)
  obtain ⟨z1, z2⟩ := band z
  have e := PySem.W.mg_of X G (He.eqO_ok z1)
  rw [e] at hc
  cases hc
  exact of_decide_eq_true z2
end Gh

set_option Elab.async false
set_option linter.all false
set_option maxRecDepth 100000
set_option maxHeartbeats 4000000
namespace Gh
open PySem PySem.Spec PyProof.Rows L2
/-! ### the module's constants: flat ones, tuples and lists of such -/
def constV (K : PySem.W.Frag) : Nat → D → Value → Bool
  | 0, _, _ => false
  | k + 1, d, u => match d, u with
    | .non, .none => true
    | .bl b, .bool c => b == c
    | .int i, .int j _ => decide (i = j)
    | .str x, .str y _ => decide (x = y)
    | .tup ds, .ref a => (match K.lookup a with
      | some ⟨.type "tuple", _, .seq its _, _⟩ => Nat.ble its.size 16777216 && (ds.length == its.toList.length && (ds.zip its.toList).all fun p => constV K k p.1 p.2)
      | _ => false)
    | .lst ds, .ref a => (match K.lookup a with
      | some ⟨.type "list", none, .seq its _, _⟩ => Nat.ble its.size 16777216 && (ds.length == its.toList.length && (ds.zip its.toList).all fun p => constV K k p.1 p.2)
      | _ => false)
    | _, _ => false
theorem constL_ok {K : PySem.W.Frag} {mg : Str → Option Value} {f : D → Value → Bool} (h : ∀ d u, f d u = true → ∃ v, RelV v u ∧ ∀ F, Rp ⟨K, mg⟩ F d v) : ∀ (ds : List D) (us : List Value), ds.length = us.length → (ds.zip us).all (fun p => f p.1 p.2) = true → ∃ xs, Vals xs us ∧ ∀ F, RpL ⟨K, mg⟩ F ds xs
  | [], [], _, _ => ⟨[], .nil, fun F => by simp only [RpL]⟩
  | [], _ :: _, e, _ => by simp at e
  | _ :: _, [], e, _ => by simp at e
  | d :: ds, u :: us, e, a => by
    simp only [List.zip_cons_cons, List.all_cons, Bool.and_eq_true] at a
    obtain ⟨v, r, p⟩ := h d u a.1
    obtain ⟨xs, rs, ps⟩ := constL_ok h ds us (by simpa using e) a.2
    exact ⟨v :: xs, .cons r rs, fun F => by simp only [RpL]; exact ⟨v, xs, rfl, p F, ps F⟩⟩
theorem constV_ok {K : PySem.W.Frag} {mg : Str → Option Value} : ∀ (k : Nat) (d : D) (u : Value), constV K k d u = true → ∃ v, RelV v u ∧ ∀ F, Rp ⟨K, mg⟩ F d v
  | 0, _, _, h => by cases h
  | k + 1, d, u, h => by
    unfold constV at h
    split at h
    · exact ⟨.non, rfl, fun F => by simp only [Rp]⟩
    · rename_i b c
      have e : b = c := by simpa using h
      subst e
      exact ⟨.bl b, rfl, fun F => by simp only [Rp]⟩
    · rename_i i j t
      have e : i = j := of_decide_eq_true h
      subst e
      exact ⟨.int i, ⟨t, rfl⟩, fun F => by simp only [Rp]⟩
    · rename_i i j t
      have e : i = j := of_decide_eq_true h
      subst e
      exact ⟨.str i, ⟨t, rfl⟩, fun F => by simp only [Rp]⟩
    · rename_i ds a
      split at h
      · rename_i dd its n sl q
        simp only [Bool.and_eq_true] at h
        obtain ⟨h1, h2, h3⟩ := h
        obtain ⟨xs, rs, ps⟩ := constL_ok (constV_ok k) ds its.toList (by simpa using h2) h3
        exact ⟨.ref a, rfl, fun F => by
          simp only [Rp]
          exact ⟨a, xs, rfl, .inr ⟨_, its, n, q, rfl, rfl, by rw [sizeLine_eq]; exact Nat.le_of_ble_eq_true h1, rs⟩, ps F⟩⟩
      · cases h
    · rename_i ds a
      split at h
      · rename_i its n sl q
        simp only [Bool.and_eq_true] at h
        obtain ⟨h1, h2, h3⟩ := h
        obtain ⟨xs, rs, ps⟩ := constL_ok (constV_ok k) ds its.toList (by simpa using h2) h3
        exact ⟨.ref a, rfl, fun F => by
          simp only [Rp]
          exact ⟨a, xs, rfl, .inr ⟨_, its, n, q, rfl, rfl, rfl, by rw [sizeLine_eq]; exact Nat.le_of_ble_eq_true h1, rs⟩, ps F⟩⟩
      · cases h
    · cases h
def globb (K : PySem.W.Frag) (x : Str) (d : D) : Bool := match PySem.W.nsIn K mainGlobals x with
  | some (some u) => constV K 9 d u
  | _ => false
theorem globb_ok {K : PySem.W.Frag} {h : Heap} {mg : Str → Option Value} (X : K.In h) (G : h.Ns mainGlobals mg) {x : Str} {d : D} (b : globb K x d = true) : GlobD K mg x d := by
  unfold globb at b
  split at b
  · rename_i u e
    obtain ⟨v, r, p⟩ := constV_ok (mg := mg) 9 d u b
    exact ⟨⟨u, v, PySem.W.mg_of X G e, r, p⟩⟩
  · cases b
end Gh

set_option Elab.async false
set_option linter.all false
set_option maxRecDepth 100000
set_option maxHeartbeats 4000000
namespace Gh
open PySem PySem.Spec PyProof.Rows L2

/-! ### denotations stepped by simp, from left to right -/
theorem bind_ok {α β : Type} {a : α} {G : Hg} {k : α → Hg → Res β} : (Res.ok a G).bind k = k a G := rfl
theorem bind_exc {α β : Type} {e : Exc} {G : Hg} {k : α → Hg → Res β} : (Res.exc e G : Res α).bind k = .exc e G := rfl
theorem bind_cong {α β : Type} {r r' : Res α} {k : α → Hg → Res β} (h : r = r') : r.bind k = r'.bind k := by rw [h]
theorem toS_ok {α : Type} {ρ : GEnv} {a : α} {G : Hg} {k : α → Hg → SRes} : (Res.ok a G).toS ρ k = k a G := rfl
theorem toS_exc {α : Type} {ρ : GEnv} {e : Exc} {G : Hg} {k : α → Hg → SRes} : (Res.exc e G : Res α).toS ρ k = .exc e ρ G := rfl
theorem toS_cong {α : Type} {ρ : GEnv} {r r' : Res α} {k : α → Hg → SRes} (h : r = r') : r.toS ρ k = r'.toS ρ k := by rw [h]
def optR {α : Type} : Option (α × Hg) → Res α
  | none => .stuck
  | some (a, G) => .ok a G
theorem optR_some {α : Type} {a : α} {G : Hg} : optR (some (a, G)) = .ok a G := rfl
theorem lift_eq {α : Type} {o : Option (α × Hg)} : lift o = optR o := by cases o <;> rfl
def optP {α : Type} (G : Hg) : Option α → Res α
  | none => .stuck
  | some a => .ok a G
theorem optP_some {α : Type} {a : α} {G : Hg} : optP G (some a) = .ok a G := rfl
theorem liftP_eq {α : Type} {o : Option α} {G : Hg} : liftP o G = optP G o := by cases o <;> rfl
def optS : Option (GEnv × Hg) → SRes
  | none => .stuck
  | some (ρ, G) => .nx ρ G
theorem optS_some {ρ : GEnv} {G : Hg} : optS (some (ρ, G)) = .nx ρ G := rfl
def ooW (G : Hg) : Option (Option W) → Res W
  | some (some w) => .ok w G
  | _ => .stuck
theorem oo_some {G : Hg} {w : W} : ooW G (some (some w)) = .ok w G := rfl
def seqS (b : GS) : SRes → SRes
  | .nx ρ G => b ρ G
  | r => r
theorem seqS_nx {b : GS} {ρ : GEnv} {G : Hg} : seqS b (.nx ρ G) = b ρ G := rfl
theorem seqS_ret {b : GS} {w : W} {G : Hg} : seqS b (.ret w G) = .ret w G := rfl
theorem seqS_exc {b : GS} {e : Exc} {ρ : GEnv} {G : Hg} : seqS b (.exc e ρ G) = .exc e ρ G := rfl
theorem seqS_cong {b : GS} {r r' : SRes} (h : r = r') : seqS b r = seqS b r' := by rw [h]
section
variable {ρ : GEnv} {G : Hg} {a b c o : GE} {s t : GS} {as : GEs} {tt uu : GT}
theorem e_var {i : Nat} : gVar i ρ G = ooW G ρ[i]? := by unfold gVar ooW; rfl
theorem e_C {x : D} : gC x ρ G = .ok (.d x) G := rfl
theorem e_bin {f : W → W → Hg → Option (W × Hg)} : gBin f a b ρ G = (a ρ G).bind fun x G1 => (b ρ G1).bind fun y G2 => optR (f x y G2) := by unfold gBin; simp only [lift_eq]
theorem e_call {f : List W → Hg → Option (W × Hg)} : gCall f as ρ G = (as ρ G).bind fun xs G1 => optR (f xs G1) := by unfold gCall; simp only [lift_eq]
theorem e_nilA : gNilA ρ G = .ok [] G := rfl
theorem e_consA : gConsA a as ρ G = (a ρ G).bind fun x G1 => (as ρ G1).bind fun xs G2 => .ok (x :: xs) G2 := rfl
theorem e_tst : gTst a ρ G = (a ρ G).bind fun x G1 => optP G1 (asB x) := by unfold gTst; simp only [liftP_eq]
theorem e_and : gAnd tt uu ρ G = (tt ρ G).bind fun x G1 => bif x then uu ρ G1 else .ok false G1 := by unfold gAnd; congr; funext x G1; cases x <;> rfl
theorem e_or : gOr tt uu ρ G = (tt ρ G).bind fun x G1 => bif x then .ok true G1 else uu ρ G1 := by unfold gOr; congr; funext x G1; cases x <;> rfl
theorem e_not : gNot tt ρ G = (tt ρ G).bind fun x G1 => .ok (!x) G1 := rfl
def oB (r : Bool → Res W) : Option Bool → Res W
  | none => .stuck
  | some k => r k
theorem oB_some {r : Bool → Res W} {k : Bool} : oB r (some k) = r k := rfl
theorem e_andV : gAndV a b ρ G = (a ρ G).bind fun x G1 => oB (fun k => bif k then b ρ G1 else .ok (.d (.bl false)) G1) (asB x) := by
  unfold gAndV; congr; funext x G1; cases asB x with | none => rfl | some k => cases k <;> rfl
theorem e_orV : gOrV a b ρ G = (a ρ G).bind fun x G1 => oB (fun k => bif k then .ok (.d (.bl true)) G1 else b ρ G1) (asB x) := by
  unfold gOrV; congr; funext x G1; cases asB x with | none => rfl | some k => cases k <;> rfl
theorem e_notV : gNotV a ρ G = (a ρ G).bind fun x G1 => oB (fun k => .ok (.d (.bl (!k))) G1) (asB x) := by
  unfold gNotV; refine congrArg _ (funext fun x => funext fun G1 => ?_); cases asB x with | none => rfl | some k => rfl
theorem e_ifE : gIfE tt a b ρ G = (tt ρ G).bind fun x G1 => bif x then a ρ G1 else b ρ G1 := by unfold gIfE; congr; funext x G1; cases x <;> rfl
theorem e_seq : gSeq s t ρ G = seqS t (s ρ G) := by unfold gSeq seqS; cases s ρ G <;> rfl
theorem e_nil : gNil ρ G = .nx ρ G := rfl
theorem e_expr : gExpr a ρ G = (a ρ G).toS ρ fun _ G' => .nx ρ G' := rfl
theorem e_ret : gRet a ρ G = (a ρ G).toS ρ fun w G' => .ret w G' := rfl
theorem e_retN : gRetN ρ G = .ret (.d .non) G := rfl
theorem e_if : gIf tt s t ρ G = (tt ρ G).toS ρ fun k G' => bif k then s ρ G' else t ρ G' := by unfold gIf; congr; funext x G1; cases x <;> rfl
theorem e_asg {tg : GTg} : gAsg a tg ρ G = (a ρ G).toS ρ fun w G' => optS (tg w ρ G') := by
  unfold gAsg; refine congrArg _ (funext fun w => funext fun G1 => ?_); cases tg w ρ G1 <;> rfl
theorem e_nm {i : Nat} {w : W} : gNm i w ρ G = some (ρ.set i (some w), G) := rfl
def sb2 (f : W → W → W → Hg → Option Hg) (wo v : W) (ρ : GEnv) : Res W → Option (GEnv × Hg)
  | .ok wi G2 => (f wo wi v G2).map fun G3 => (ρ, G3)
  | _ => none
theorem sb2_ok {f : W → W → W → Hg → Option Hg} {wo v wi : W} : sb2 f wo v ρ (.ok wi G) = (f wo wi v G).map fun G3 => (ρ, G3) := rfl
def sb1 (k : W → Hg → Option (GEnv × Hg)) : Res W → Option (GEnv × Hg)
  | .ok wo G1 => k wo G1
  | _ => none
theorem sb1_ok {k : W → Hg → Option (GEnv × Hg)} {w : W} : sb1 k (.ok w G) = k w G := rfl
theorem sb1_cong {k : W → Hg → Option (GEnv × Hg)} {r r' : Res W} (h : r = r') : sb1 k r = sb1 k r' := by rw [h]
theorem e_sb {f : W → W → W → Hg → Option Hg} {v : W} : gSb o a f v ρ G = sb1 (fun wo G1 => sb2 f wo v ρ (a ρ G1)) (o ρ G) := by
  unfold gSb sb1
  cases o ρ G with
  | ok wo G1 => (simp only [sb2]) <;> (cases a ρ G1 <;> rfl)
  | _ => rfl
theorem e_fnS {n : Nat} {f : List W → Hg → Res W} : gFnS n f as ρ G = (as ρ G).bind fun ws G1 => bif ws.length == n then f ws G1 else .stuck := by
  unfold gFnS; congr; funext ws G1
  by_cases h : ws.length = n
  · rw [if_pos h, h, beq_self_eq_true, cond_true]
  · rw [if_neg h, beq_eq_false_iff_ne.mpr h, cond_false]
theorem e_fI {f : Int → Int → Option D} {i j : Int} : fI f (.d (.int i)) (.d (.int j)) G = (f i j).map fun d => (.d d, G) := by unfold fI; rfl
theorem e_add {i j : Int} : fAdd (.d (.int i)) (.d (.int j)) G = some (.d (.int (i + j)), G) := rfl
theorem e_int {i : Int} : fInt [.d (.int i)] G = some (.d (.int i), G) := rfl
theorem e_intb {i : Bool} : fInt [.d (.bl i)] G = some (.d (.int (if i then 1 else 0)), G) := by cases i <;> rfl
/-- what is done with the object at i -/
def ixO (k : Int) (G : Hg) : Option GO → Option (W × Hg)
  | some (.lst ws) => (atI ws k).map fun z => (z, G)
  | some (.dic false kvs) => (lookK kvs (.int k)).map fun z => (z, G)
  | some (.lkd false kvs) => (lookK kvs (.int k)).map fun z => (z, G)
  | _ => none
theorem e_ixR {i : Nat} {k : Int} : fIxD (.ref i) (.d (.int k)) G = ixO k G G[i]? := by
  unfold fIxD dicW fIx seqW ixO keyW
  cases q : G[i]? with
  | none => simp only [q]
  | some o => cases o with
    | dic t kvs => cases t <;> (simp only [q]; try rfl)
    | lkd t kvs => cases t <;> (simp only [q]; try rfl)
    | _ => simp only [q]
theorem ixO_lst {k : Int} {ws : List W} : ixO k G (some (.lst ws)) = (atI ws k).map fun z => (z, G) := rfl
theorem e_ixL {ds : List D} {k : Int} : fIxD (.d (.lst ds)) (.d (.int k)) G = (atI (ds.map .d) k).map fun z => (z, G) := rfl
theorem e_ixT {ds : List D} {k : Int} : fIxD (.d (.tup ds)) (.d (.int k)) G = (atI (ds.map .d) k).map fun z => (z, G) := rfl
theorem e_ixTW {ws : List W} {k : Int} : fIxD (.tup ws) (.d (.int k)) G = (atI ws k).map fun z => (z, G) := rfl
def setO (i : Nat) (k : Int) (v : W) (G : Hg) : Option GO → Option Hg
  | some (.lst ws) => (ixN ws.length k).map fun j => G.set i (.lst (ws.set j v))
  | some (.dic false kvs) => if Nat.blt kvs.length 16777216 then some (G.set i (.dic false (putW kvs (.int k) v))) else none
  | _ => none
theorem e_setR {i : Nat} {k : Int} {v : W} : fSetD (.ref i) (.d (.int k)) v G = setO i k v G G[i]? := by
  unfold fSetD getDm fSetL getL setO keyW
  cases q : G[i]? with
  | none => simp only [q]
  | some o => cases o with
    | dic t kvs => cases t <;> (simp only [q]; try rfl)
    | _ => simp only [q]
theorem setO_lst {i : Nat} {k : Int} {v : W} {ws : List W} : setO i k v G (some (.lst ws)) = (ixN ws.length k).map fun j => G.set i (.lst (ws.set j v)) := rfl
end
theorem atI_0 {α : Type} {x : α} {l : List α} : atI (x :: l) 0 = some x := by simp [atI, ixN]
theorem atI_1 {α : Type} {x y : α} {l : List α} : atI (x :: y :: l) 1 = some y := by
  have h : ixN (x :: y :: l).length 1 = some 1 := by
    unfold ixN
    rw [if_pos (by decide), if_pos (by simp only [List.length_cons]; omega)]
    rfl
  unfold atI
  rw [h]
  rfl
theorem atI_2 {α : Type} {x y z : α} {l : List α} : atI (x :: y :: z :: l) 2 = some z := by
  have h : ixN (x :: y :: z :: l).length 2 = some 2 := by
    unfold ixN
    rw [if_pos (by decide), if_pos (by simp only [List.length_cons]; omega)]
    rfl
  unfold atI
  rw [h]
  rfl
theorem ixN0 {n : Nat} : ixN (n + 1) 0 = some 0 := by
  unfold ixN
  rw [if_pos (by decide), if_pos (by omega)]
  rfl
theorem ixN1 {n : Nat} : ixN (n + 1 + 1) 1 = some 1 := by
  unfold ixN
  rw [if_pos (by decide), if_pos (by omega)]
  rfl
theorem ixN2 {n : Nat} : ixN (n + 1 + 1 + 1) 2 = some 2 := by
  unfold ixN
  rw [if_pos (by decide), if_pos (by omega)]
  rfl
theorem endS_same {n : Nat} {w : W} {G : Hg} (h : G.length = n) : endS n w G = .ok w G := by
  unfold endS cutG
  split
  · subst h
    rw [List.take_length]
    split
    · rename_i q
      split at q
      · cases q; rfl
      · cases q
    · rfl
  · rfl
local macro_rules | `(tactic| walk_at "gs") => `(tactic| simp only [*, e_ixR, ixO_lst, e_setR, setO_lst, decide_true, decide_false, ixN0, ixN2, List.length_cons, List.length_nil, List.length_set, List.getElem?_set, if_true, bind_ok, bind_exc, toS_ok, toS_exc, optR_some, optP_some, optS_some, oo_some, seqS_nx, seqS_ret, seqS_exc, e_var, e_C, e_bin, e_call, e_nilA, e_consA, e_tst, e_and, e_or, e_not, oB_some, e_andV, e_orV, e_notV, e_ifE, e_seq, e_nil, e_expr, e_ret, e_retN, e_if,
  e_asg, e_nm, sb2_ok, sb1_ok, e_sb, e_fnS, e_fI, e_add, e_int, e_intb, e_ixL, e_ixT, e_ixTW, atI_0, atI_1, atI_2, ixN1, asB, iSub, iAdd, iCmp, List.getElem?_cons_zero, List.getElem?_cons_succ, List.set_cons_zero, List.set_cons_succ, List.map_cons, List.map_nil, Option.map_some, Option.bind_some, cond_true, cond_false])

/-! ### the laws' source of draws -/
structure SrcOk (ws : List W) : Prop where
  ex : ∃ a b c : Int, ws = [.d (.int a), .d (.int b), .d (.int c)] ∧ 0 ≤ a ∧ 0 ≤ b ∧ b < 2147483647 ∧ 0 ≤ c
def gsSource : GS := gSeq (gAsg (gIfE (gTst (gBin (fI (iCmp fun i j => decide (j ≤ i))) (gVar 0) (gC (.int 0)))) (gVar 0) (gBin (fI iSub) (gBin (fI iSub) (gC (.int 0)) (gBin (fI iMul) (gC (.int 3)) (gVar 0))) (gC (.int 1)))) (gNm 0)) (gRet (gNew (gConsA (gBin (fI iMul) (gVar 0) (gCall fInt (gConsA (gBin (fI (iCmp fun i j => decide (j ≤ i))) (gVar 0) (gBin (fI iPow) (gC (.int 10)) (gC (.int 18)))) (gNilA)))) (gConsA (gBin (fI iMod) (gCall fInt (gConsA (gVar 0) (gNilA))) (gC (.int 2147483647))) (gConsA (gC (.int 0)) (gNilA))))))
def gsNext : GS := gSeq (gIf (gTst (gBin (fI (iCmp fun i j => decide (j < i))) (gBin fIxD (gVar 0) (gC (.int 0))) (gC (.int 0)))) (gSeq (gAsg (gBin (fI iMod) (gCall fInt (gConsA (gBin fIxD (gVar 0) (gC (.int 0))) (gNilA))) (gVar 1)) (gNm 4)) (gSeq (gAsg (gBin (fI iDiv) (gBin fIxD (gVar 0) (gC (.int 0))) (gVar 1)) (gSb (gVar 0) (gC (.int 0)) fSetD)) (gRet (gVar 4)))) (gNil)) (gSeq (gAsg (gBin fAdd (gBin fIxD (gVar 0) (gC (.int 2))) (gC (.int 1))) (gSb (gVar 0) (gC (.int 2)) fSetD)) (gSeq (gAsg (gC (.int 2147483647)) (gNm 2)) (gSeq (gAsg (gBin (fI iMod) (gCall fInt (gConsA (gBin fAdd (gBin fAdd (gBin fIxD (gVar 0) (gC (.int 1))) (gBin (fI iMul) (gC (.int 104729)) (gBin fIxD (gVar 0) (gC (.int 2))))) (gC (.int 7919))) (gNilA))) (gVar 2)) (gNm 3)) (gSeq (gAsg (gBin (fI iMod) (gCall fInt (gConsA (gBin (fI iMul) (gVar 3) (gC (.int 48271))) (gNilA))) (gVar 2)) (gNm 3)) (gSeq (gAsg (gBin (fI iMod) (gCall fInt (gConsA (gBin (fI iMul) (gVar 3) (gBin fAdd (gBin (fI iDiv) (gVar 3) (gC (.int 1009))) (gC (.int 69621)))) (gNilA))) (gVar 2)) (gNm 3)) (gSeq (gAsg (gBin (fI iMod) (gCall fInt (gConsA (gBin (fI iMul) (gVar 3) (gBin fAdd (gBin (fI iDiv) (gVar 3) (gC (.int 2003))) (gC (.int 40692)))) (gNilA))) (gC (.int 2147483399))) (gNm 3)) (gRet (gBin (fI iMod) (gCall fInt (gConsA (gBin (fI iDiv) (gVar 3) (gC (.int 7))) (gNilA))) (gVar 1)))))))))
def fNext : List W → Hg → Res W := runS 5 gsNext
theorem iMod_ok {i j : Int} (h : 0 < j) : iMod i j = some (.int (i % j)) := if_pos h
theorem iDiv_ok {i j : Int} (h : 0 < j) (h2 : j < 1073741824) : iDiv i j = some (.int (i / j)) := if_pos ⟨h, h2⟩
theorem iMul_okL {i j : Int} (h : -(2 ^ 64) < i ∧ i < 2 ^ 64) : iMul i j = some (.int (i * j)) := if_pos (.inl h)
theorem iMul_okR {i j : Int} (h : -(2 ^ 64) < j ∧ j < 2 ^ 64) : iMul i j = some (.int (i * j)) := if_pos (.inr h)
theorem runS_ret {N : Nat} {g : GS} {ws : List W} {G G' : Hg} {w : W} (h : g (envS N ws) G = .ret w G') (hl : G'.length = G.length) : runS N g ws G = .ok w G' := by
  unfold runS
  rw [h]
  exact endS_same hl
theorem next_ok {G : Hg} {i : Nat} {src : List W} {m : Int} (h : G[i]? = some (.lst src)) (hs : SrcOk src) (h0 : 0 < m) (h1 : m < 1073741824) :
    ∃ r src', 0 ≤ r ∧ r < m ∧ SrcOk src' ∧ fNext [.ref i, .d (.int m)] G = .ok (.d (.int r)) (G.set i (.lst src')) := by
  obtain ⟨a, b, c, rfl, ha, hb, hb2, hc⟩ := hs.ex
  have hi : i < G.length := (List.getElem?_eq_some_iff.mp h).1
  have e : envS 5 [.ref i, .d (.int m)] = [some (.ref i), some (.d (.int m)), none, none, none] := rfl
  have m1 : ∀ j, iMod j m = some (.int (j % m)) := fun j => iMod_ok h0
  have m2 : ∀ j, iDiv j m = some (.int (j / m)) := fun j => iDiv_ok h0 h1
  by_cases h2 : 0 < a
  · refine ⟨a % m, [.d (.int (a / m)), .d (.int b), .d (.int c)], Int.emod_nonneg _ (by omega), Int.emod_lt_of_pos _ h0, ⟨_, _, _, rfl, Int.ediv_nonneg ha (by omega), hb, hb2, hc⟩, ?_⟩
    refine runS_ret ?_ (by simp)
    unfold gsNext
    walk_at "gs"
  · have k1 : ∀ j, iMul 104729 j = some (.int (104729 * j)) := fun j => iMul_okL (by decide)
    have k2 : ∀ j, iMul j 48271 = some (.int (j * 48271)) := fun j => iMul_okR (by decide)
    have k3 : ∀ j, iMod j 2147483647 = some (.int (j % 2147483647)) := fun j => iMod_ok (by decide)
    have k4 : ∀ j, iMod j 2147483399 = some (.int (j % 2147483399)) := fun j => iMod_ok (by decide)
    have k5 : ∀ j, iDiv j 1009 = some (.int (j / 1009)) := fun j => iDiv_ok (by decide) (by decide)
    have k6 : ∀ j, iDiv j 2003 = some (.int (j / 2003)) := fun j => iDiv_ok (by decide) (by decide)
    have k7 : ∀ j, iDiv j 7 = some (.int (j / 7)) := fun j => iDiv_ok (by decide) (by decide)
    have k8 : ∀ j k, iMul (j % 2147483647) k = some (.int (j % 2147483647 * k)) := fun j k => iMul_okL ⟨by omega, by omega⟩
    have key : ∃ z : Int, gsNext (envS 5 [.ref i, .d (.int m)]) G = .ret (.d (.int (z % m))) (G.set i (.lst [.d (.int a), .d (.int b), .d (.int (c + 1))])) := ⟨_, by
      unfold gsNext
      walk_at "gs"
      rfl⟩
    obtain ⟨z, hz⟩ := key
    exact ⟨z % m, [.d (.int a), .d (.int b), .d (.int (c + 1))], Int.emod_nonneg _ (by omega), Int.emod_lt_of_pos _ h0, ⟨_, _, _, rfl, ha, hb, hb2, by omega⟩, runS_ret hz (by simp)⟩
end Gh

set_option Elab.async false
set_option linter.all false
set_option maxRecDepth 100000
set_option maxHeartbeats 4000000
namespace Gh
open PySem PySem.Spec PyProof.Rows L2
/-! ### more steps -/
def iffR {α : Type} (r : Res α) (b : Bool) : Res α := bif b then r else .stuck
theorem iffR_t {α : Type} {r : Res α} : iffR r true = r := rfl
section
variable {ρ : GEnv} {G : Hg} {a b c o : GE} {s t : GS} {as : GEs} {tt uu : GT}
theorem e_new : gNew as ρ G = (as ρ G).bind fun ws G1 => iffR (.ok (.ref G1.length) (G1 ++ [.lst ws])) (small ws.length) := by
  unfold gNew iffR; refine congrArg _ (funext fun w => funext fun G1 => ?_); cases small w.length <;> rfl
def lstW (G : Hg) : Option (List D) → Res W
  | some ds => .ok (.d (.lst ds)) G
  | none => .stuck
theorem lstW_some {ds : List D} : lstW G (some ds) = .ok (.d (.lst ds)) G := rfl
theorem e_lst : gLst as ρ G = (as ρ G).bind fun ws G1 => iffR (lstW G1 (allD ws)) (small ws.length) := by
  unfold gLst iffR lstW; refine congrArg _ (funext fun w => funext fun G1 => ?_); cases small w.length <;> cases allD w <;> rfl
theorem e_tup : gTup as ρ G = (as ρ G).bind fun ws G1 => iffR (.ok (mkTup ws) G1) (small ws.length) := by
  unfold gTup iffR; refine congrArg _ (funext fun w => funext fun G1 => ?_); cases small w.length <;> rfl
theorem e_mt {t : Ty} {f : W → List W → Hg → Option (W × Hg)} : gMt t f o as ρ G = (o ρ G).bind fun w G1 => iffR ((as ρ G1).bind fun ws G2 => optR (f w ws G2)) (decide (tyW w G1 = some t) && noDic w G1) := by
  unfold gMt iffR; refine congrArg _ (funext fun w => funext fun G1 => ?_)
  by_cases h : tyW w G1 = some t
  · by_cases h2 : noDic w G1 = true
    · rw [if_pos ⟨h, h2⟩, decide_eq_true h, h2]; simp only [lift_eq, Bool.and_self, cond_true]
    · rw [if_neg (fun z => h2 z.2), Bool.eq_false_iff.mpr h2, Bool.and_false, cond_false]
  · rw [if_neg (fun z => h z.1), decide_eq_false h, Bool.false_and, cond_false]
end
theorem allD_nil : allD [] = some [] := rfl
theorem allD_cons {x : D} {r : List W} : allD (.d x :: r) = (allD r).map (x :: ·) := rfl
theorem allD_map : ∀ ds : List D, allD (ds.map .d) = some ds
  | [] => rfl
  | d :: ds => by rw [List.map_cons, allD_cons, allD_map ds]; rfl
theorem mkTup_d {ds : List D} : mkTup (ds.map .d) = .d (.tup ds) := by unfold mkTup; rw [allD_map]
theorem sml {n : Nat} (h : n ≤ 16777216) : small n = true := Nat.ble_eq_true_of_le h
/-! ### lists on the heap -/
section
variable {G : Hg} {i : Nat} {ws : List W}
theorem ty_lst (h : G[i]? = some (.lst ws)) : tyW (.ref i) G = some .lst := by unfold tyW; simp only [h]
theorem noDic_lst (h : G[i]? = some (.lst ws)) : noDic (.ref i) G = true := by unfold noDic; simp only [h]
theorem app_ok {u : W} (h : G[i]? = some (.lst ws)) (hl : ws.length < 16777216) : fAppend (.ref i) [u] G = some (.d .non, G.set i (.lst (ws ++ [u]))) := by
  unfold fAppend getL
  simp only [h]
  rw [if_pos (Nat.blt_eq.mpr hl)]
theorem popAt_ok {k : Int} {w : W} (h : G[i]? = some (.lst ws)) (h0 : 0 ≤ k) (h1 : k < ws.length) (hl : ws.length ≤ 16777216) (hw : ws[k.toNat]? = some w) : fPop (.ref i) [.d (.int k)] G = some (w, G.set i (.lst (ws.eraseIdx k.toNat))) := by
  unfold fPop getL
  have f : fit62 k = true := by unfold fit62; simp only [Bool.and_eq_true, decide_eq_true_eq]; omega
  have s : seqIndex? k ws.length = some k.toNat := by
    unfold seqIndex?
    have e : ¬ k < 0 := by omega
    simp only [e, if_false]
    rw [if_pos (by simp only [Bool.and_eq_true, decide_eq_true_eq]; omega)]
  simp only [h, f, if_true, s, hw, Option.map_some]
end
/-! ### == with [] -/
structure OkE (d : D) : Prop where
  c : (toPy d).canLay0 = true
  p : (toPy d).depth ≤ 60
theorem okE_int {i : Int} : OkE (.int i) := ⟨by simp [toPy, PyData.canLay0], by simp [toPy, PyData.depth]⟩
theorem okE_non : OkE .non := ⟨by simp [toPy, PyData.canLay0], by simp [toPy, PyData.depth]⟩
theorem okE_bl {i : Bool} : OkE (.bl i) := ⟨by simp [toPy, PyData.canLay0], by simp [toPy, PyData.depth]⟩
theorem lay_all : ∀ {ds : List D}, (∀ d ∈ ds, OkE d) → PyData.canLayAll0 (toPyL ds) = true
  | [], _ => rfl
  | d :: ds, h => by
    simp only [toPyL, PyData.canLayAll0, Bool.and_eq_true]
    exact ⟨(h d List.mem_cons_self).c, lay_all fun x hx => h x (List.mem_cons_of_mem _ hx)⟩
theorem dep_all : ∀ {ds : List D}, (∀ d ∈ ds, OkE d) → PyData.depthAll (toPyL ds) ≤ 60
  | [], _ => by simp [toPyL, PyData.depthAll]
  | d :: ds, h => by
    have h1 := (h d List.mem_cons_self).p
    have h2 := dep_all fun x hx => h x (List.mem_cons_of_mem d hx)
    simp only [toPyL, PyData.depthAll]
    omega
theorem okD_lst {ds : List D} (h : ∀ d ∈ ds, OkE d) : okD (.lst ds) = true := by
  unfold okD SeqAt.shaped
  have := dep_all h
  simp only [toPy, PyData.canLay0, PyData.depth, Bool.and_eq_true, decide_eq_true_eq]
  exact ⟨lay_all h, by omega⟩
theorem okD_tup {ds : List D} (h : ∀ d ∈ ds, OkE d) : okD (.tup ds) = true := by
  unfold okD SeqAt.shaped
  have := dep_all h
  simp only [toPy, PyData.canLay0, PyData.depth, Bool.and_eq_true, decide_eq_true_eq]
  exact ⟨lay_all h, by omega⟩
theorem eqD_nil {ds : List D} : eqD (.lst ds) (.lst []) = ds.isEmpty := by
  unfold eqD
  cases ds with
  | nil => simp [toPy, toPyL, PyData.eqv, PyData.eqvAll]
  | cons d ds => simp [toPy, toPyL, PyData.eqv, PyData.eqvAll]
theorem neNil_ok {G : Hg} {i : Nat} {ds : List D} (h : G[i]? = some (.lst (ds.map .d))) (hd : ∀ d ∈ ds, OkE d) : fEqS true (.ref i) (.d (.lst [])) G = some (.d (.bl (!ds.isEmpty)), G) := by
  unfold fEqS fEqE dicW fEq Gh.snap
  simp only [h, allD_map, Option.map_some, okD_lst hd, okD_lst (ds := []) (by simp), eqD_nil, Bool.and_self, if_true, Bool.true_xor]
/-! ### what stays -/
/-- no dict is locked -/
def NoL (G : Hg) : Prop := G.any GO.isL = false
theorem NoL.set {G : Hg} (h : NoL G) (i : Nat) {o : GO} (ho : o.isL = false) : NoL (G.set i o) := by
  unfold NoL at h ⊢
  rw [List.any_eq_false] at h ⊢
  intro x hx
  rcases List.mem_or_eq_of_mem_set hx with z | rfl
  · exact h x z
  · simp [ho]
theorem NoL.app {G : Hg} (h : NoL G) {o : GO} (ho : o.isL = false) : NoL (G ++ [o]) := by
  unfold NoL at h ⊢
  rw [List.any_append, h]
  simp [ho]
structure Fr (m : List Nat) (G G' : Hg) : Prop where
  le : G.length ≤ G'.length
  eq : ∀ j, j < G.length → j ∉ m → G'[j]? = G[j]?
  nl : NoL G → NoL G'
theorem Fr.refl {m : List Nat} {G : Hg} : Fr m G G := ⟨Nat.le_refl _, fun _ _ _ => rfl, id⟩
theorem Fr.trans {m : List Nat} {G G' G'' : Hg} (a : Fr m G G') (b : Fr m G' G'') : Fr m G G'' := ⟨Nat.le_trans a.le b.le, fun j h1 h2 => (b.eq j (Nat.lt_of_lt_of_le h1 a.le) h2).trans (a.eq j h1 h2), fun h => b.nl (a.nl h)⟩
theorem Fr.set {m : List Nat} {G : Hg} {i : Nat} {o : GO} (h : i ∈ m) (ho : o.isL = false := by rfl) : Fr m G (G.set i o) := ⟨by simp, fun j h1 h2 => List.getElem?_set_ne fun e => h2 (by rw [← e]; exact h), fun z => z.set i ho⟩
theorem Fr.mono {m m' : List Nat} {G G' : Hg} (a : Fr m G G') (h : ∀ i ∈ m, i ∈ m') : Fr m' G G' := ⟨a.le, fun j h1 h2 => a.eq j h1 fun z => h2 (h j z), a.nl⟩
theorem Fr.app {m : List Nat} {G : Hg} {o : GO} (ho : o.isL = false := by rfl) : Fr m G (G ++ [o]) := ⟨by simp, fun j h1 _ => List.getElem?_append_left h1, fun z => z.app ho⟩
theorem Fr.at {m : List Nat} {G G' : Hg} {i : Nat} {o : GO} (a : Fr m G G') (h : G[i]? = some o) (n : i ∉ m) : G'[i]? = some o := (a.eq i (List.getElem?_eq_some_iff.mp h).1 n).trans h
/-- outside what is new -/
theorem Fr.newOnly {m m' : List Nat} {G G' : Hg} (a : Fr m G G') (h : ∀ i ∈ m, i ∈ m' ∨ G.length ≤ i) : Fr m' G G' := ⟨a.le, fun j h1 h2 => a.eq j h1 fun z => by
  rcases h j z with q | q
  · exact h2 q
  · omega, a.nl⟩

/-! ### _law_one, _law_mixed -/
local macro_rules | `(tactic| walk_at "gs") => `(tactic| simp only [*, e_ixR, ixO_lst, e_setR, setO_lst, decide_true, decide_false, ixN0, ixN2, List.length_cons, List.length_nil, List.length_set, List.getElem?_set, if_true, bind_ok, bind_exc, toS_ok, toS_exc, optR_some, optP_some, optS_some, oo_some, seqS_nx, seqS_ret, seqS_exc, e_var, e_C, e_bin, e_call, e_nilA, e_consA, e_tst, e_and, e_or, e_not, oB_some, e_andV, e_orV, e_notV, e_ifE, e_seq, e_nil, e_expr, e_ret, e_retN, e_if,
  e_asg, e_nm, sb2_ok, sb1_ok, e_sb, e_fnS, e_fI, e_add, e_int, e_intb, e_ixL, e_ixT, e_ixTW, atI_0, atI_1, atI_2, ixN1, asB, iSub, iAdd, iCmp, List.getElem?_cons_zero, List.getElem?_cons_succ, List.set_cons_zero, List.set_cons_succ, List.map_cons, List.map_nil, Option.map_some, Option.bind_some, cond_true, cond_false,
  e_new, e_lst, lstW_some, e_tup, e_mt, iffR_t, allD_nil, allD_cons, beq_self_eq_true, Bool.and_self])
theorem whileN_t {c : GT} {body : GS} {n : Nat} {ρ ρ2 : GEnv} {G G1 G2 : Hg} (hc : c ρ G = .ok true G1) (hb : body ρ G1 = .nx ρ2 G2) : whileN c body (n + 1) ρ G = whileN c body n ρ2 G2 := by
  conv => lhs; unfold whileN
  rw [hc, toS_ok, if_pos rfl]
  simp only [hb]
theorem whileN_f {c : GT} {body : GS} {n : Nat} {ρ : GEnv} {G G1 : Hg} (hc : c ρ G = .ok false G1) : whileN c body (n + 1) ρ G = .nx ρ G1 := by
  conv => lhs; unfold whileN
  rw [hc, toS_ok, if_neg Bool.false_ne_true]
def gsMixC : GT := gTst (gBin (fEqS true) (gVar 2) (gLst (gNilA)))
def gsMixB : GS := gExpr (gMt .lst fAppend (gVar 3) (gConsA (gMt .lst fPop (gVar 2) (gConsA (gFnS 2 fNext (gConsA (gVar 0) (gConsA (gCall fLenD (gConsA (gVar 2) (gNilA))) (gNilA)))) (gNilA))) (gNilA)))
def gsMixed : GS := gSeq (gAsg (gCall fListDN (gConsA (gVar 1) (gNilA))) (gNm 2)) (gSeq (gAsg (gNew (gNilA)) (gNm 3)) (gSeq (whileN (gsMixC) (gsMixB) 1000000) (gRet (gVar 3))))
def fMixed : List W → Hg → Res W := runS 4 gsMixed
theorem lenR_ok {G : Hg} {i : Nat} {ws : List W} (h : G[i]? = some (.lst ws)) : fLenD [.ref i] G = some (.d (.int ws.length), G) := by
  unfold fLenD dicW fLen fLen1 strOf
  simp only [h]
  simp [fLen, fLen1, strOf, seqW, h]
theorem erase_map {α β : Type} (f : α → β) : ∀ (l : List α) (k : Nat), (l.map f).eraseIdx k = (l.eraseIdx k).map f
  | [], _ => rfl
  | _ :: _, 0 => rfl
  | x :: l, k + 1 => by simp [erase_map f l k]
theorem erase_perm {α : Type} : ∀ {l : List α} {k : Nat} (h : k < l.length), (l[k] :: l.eraseIdx k).Perm l
  | [], _, h => by simp at h
  | x :: l, 0, _ => by simp
  | x :: l, k + 1, h => by
    have ih := erase_perm (l := l) (k := k) (by simpa using h)
    simp only [List.getElem_cons_succ, List.eraseIdx_cons_succ]
    exact (List.Perm.swap _ _ _).trans (ih.cons x)
theorem mixB_ok {i l f : Nat} {k r : Int} {z w0 : W} {G G1 G2 G3 : Hg} (t5 : fLenD [.ref l] G = some (.d (.int k), G)) (hn : fNext [.ref i, .d (.int k)] G = .ok (.d (.int r)) G1) (hp : fPop (.ref l) [.d (.int r)] G1 = some (z, G2)) (ha : fAppend (.ref f) [z] G2 = some (.d .non, G3))
    (t1 : tyW (.ref f) G = some Ty.lst) (t2 : noDic (.ref f) G = true) (t3 : tyW (.ref l) G = some Ty.lst) (t4 : noDic (.ref l) G = true) : gsMixB [some (.ref i), some w0, some (.ref l), some (.ref f)] G = .nx [some (.ref i), some w0, some (.ref l), some (.ref f)] G3 := by
  unfold gsMixB
  walk_at "gs"
theorem mixW {w0 : W} {i l f : Nat} (hil : i ≠ l) (hif : i ≠ f) (hlf : l ≠ f) : ∀ (n : Nat) (left : List D) (found : List W) (src : List W) (G : Hg), left.length < n → left.length + found.length ≤ 16777216 → (∀ d ∈ left, OkE d) → G[i]? = some (.lst src) → SrcOk src →
    G[l]? = some (.lst (left.map .d)) → G[f]? = some (.lst found) → left.length < 1073741824 →
    ∃ (src' : List W) (p : List D) (G' : Hg), SrcOk src' ∧ p.Perm left ∧ whileN gsMixC gsMixB n [some (.ref i), some w0, some (.ref l), some (.ref f)] G = .nx [some (.ref i), some w0, some (.ref l), some (.ref f)] G' ∧
      G'[i]? = some (.lst src') ∧ G'[l]? = some (.lst []) ∧ G'[f]? = some (.lst (found ++ p.map .d)) ∧ Fr [i, l, f] G G' ∧ G'.length = G.length
  | 0, left, found, src, G, hn, _, _, _, _, _, _, _ => by omega
  | n + 1, left, found, src, G, hn, hsz, hok, hi, hs, hl, hf, hbig => by
    have hc : gsMixC [some (.ref i), some w0, some (.ref l), some (.ref f)] G = .ok (!left.isEmpty) G := by
      have e := neNil_ok hl hok
      have s0 : small 0 = true := rfl
      unfold gsMixC
      walk_at "gs"
    cases left with
    | nil => exact ⟨src, [], G, hs, .nil, whileN_f hc, hi, hl, by simpa using hf, .refl, rfl⟩
    | cons d0 rest =>
      obtain ⟨r, src1, r0, r1, hs1, hnx⟩ := next_ok (m := ((d0 :: rest).length : Nat)) hi hs (by simp only [List.length_cons]; omega) (by omega)
      have hl1 : (G.set i (.lst src1))[l]? = some (.lst ((d0 :: rest).map .d)) := by rw [List.getElem?_set_ne hil]; exact hl
      have hf1 : (G.set i (.lst src1))[f]? = some (.lst found) := by rw [List.getElem?_set_ne hif]; exact hf
      have hlt : r.toNat < (d0 :: rest).length := by omega
      have hget : ((d0 :: rest).map W.d)[r.toNat]? = some (.d ((d0 :: rest)[r.toNat]'hlt)) := by rw [List.getElem?_map, List.getElem?_eq_getElem hlt]; rfl
      have hpop := popAt_ok hl1 r0 (by rw [List.length_map]; exact r1) (by rw [List.length_map]; omega) hget
      have hf2 : ((G.set i (.lst src1)).set l (.lst (((d0 :: rest).map W.d).eraseIdx r.toNat)))[f]? = some (.lst found) := by rw [List.getElem?_set_ne hlf]; exact hf1
      have happ := app_ok (u := .d ((d0 :: rest)[r.toNat]'hlt)) hf2 (by simp only [List.length_cons] at hsz; omega)
      have t1 := ty_lst hf
      have t2 := noDic_lst hf
      have t3 := ty_lst hl
      have t4 := noDic_lst hl
      have t5 := lenR_ok hl
      rw [List.length_map] at t5
      have hb : gsMixB [some (.ref i), some w0, some (.ref l), some (.ref f)] G = .nx [some (.ref i), some w0, some (.ref l), some (.ref f)] (((G.set i (.lst src1)).set l (.lst (((d0 :: rest).map W.d).eraseIdx r.toNat))).set f (.lst (found ++ [.d ((d0 :: rest)[r.toNat]'hlt)]))) := mixB_ok t5 hnx hpop happ t1 t2 t3 t4
      have hlen : ((d0 :: rest).eraseIdx r.toNat).length = rest.length := by rw [List.length_eraseIdx_of_lt hlt]; rfl
      have hi2 : i < G.length := (List.getElem?_eq_some_iff.mp hi).1
      have hl2 : l < G.length := (List.getElem?_eq_some_iff.mp hl).1
      have hf3 : f < G.length := (List.getElem?_eq_some_iff.mp hf).1
      obtain ⟨src', p, G', a1, a2, a3, a4, a5, a6, a7, a8⟩ := mixW hil hif hlf n ((d0 :: rest).eraseIdx r.toNat) (found ++ [.d ((d0 :: rest)[r.toNat]'hlt)]) src1 (((G.set i (.lst src1)).set l (.lst (((d0 :: rest).map W.d).eraseIdx r.toNat))).set f (.lst (found ++ [.d ((d0 :: rest)[r.toNat]'hlt)]))) (by simp only [List.length_cons] at hn; omega)
        (by rw [hlen, List.length_append]; simp only [List.length_cons] at hsz; simp only [List.length_cons, List.length_nil]; omega) (fun d hd => hok d (List.mem_of_mem_eraseIdx hd))
        (by rw [List.getElem?_set_ne (Ne.symm hif), List.getElem?_set_ne (Ne.symm hil), List.getElem?_set_self hi2]) hs1 
        (by rw [List.getElem?_set_ne (Ne.symm hlf), List.getElem?_set_self (by simpa using hl2), erase_map]) (by rw [List.getElem?_set_self (by simpa using hf3)]) (by rw [hlen]; simp only [List.length_cons] at hbig; omega)
      refine ⟨src', (d0 :: rest)[r.toNat]'hlt :: p, G', a1, ?_, (whileN_t hc hb).trans a3, a4, a5, ?_, ?_, ?_⟩
      · exact (List.Perm.cons _ a2).trans (erase_perm hlt)
      · rw [a6, List.map_cons, List.append_assoc]; rfl
      · exact ((Fr.set (by simp)).trans ((Fr.set (by simp)).trans (Fr.set (by simp)))).trans a7
      · rw [a8]; simp
/-- the items of a list that is read: a tree or a list on the heap -/
theorem mixed_ok {G : Hg} {i : Nat} {w : W} {ds : List D} {src : List W} (h : G[i]? = some (.lst src)) (hs : SrcOk src) (hw : itemsW w G = some (ds.map .d)) (hok : ∀ d ∈ ds, OkE d) (hn : ds.length < 1000000) :
    ∃ (src' : List W) (p : List D) (G' : Hg), SrcOk src' ∧ p.Perm ds ∧ fMixed [.ref i, w] G = .ok (.ref (G.length + 1)) G' ∧ G'[i]? = some (.lst src') ∧ G'[G.length + 1]? = some (.lst (p.map .d)) ∧ Fr [i] G G' ∧ G'.length = G.length + 2 := by
  have hi : i < G.length := (List.getElem?_eq_some_iff.mp h).1
  obtain ⟨src', p, G', a1, a2, a3, a4, a5, a6, a7, a8⟩ := mixW (w0 := w) (i := i) (l := G.length) (f := G.length + 1) (by omega) (by omega) (by omega) 1000000 ds [] src (G ++ [.lst (ds.map .d)] ++ [.lst []]) hn (by simp only [List.length_nil]; omega) hok
    (by rw [List.getElem?_append_left (by simp; omega), List.getElem?_append_left hi]; exact h) hs (by rw [List.getElem?_append_left (by simp), List.getElem?_append_right (Nat.le_refl _), Nat.sub_self]; rfl)
    (by rw [List.getElem?_append_right (by simp)]; simp) (by omega)
  have fr : Fr [i] G G' := (((Fr.app (o := .lst (ds.map .d))).trans (Fr.app (o := .lst []))).trans (a7.mono (m' := [i, G.length, G.length + 1]) fun j hj => hj)).newOnly fun j hj => by
    simp only [List.mem_cons, List.not_mem_nil, or_false] at hj
    rcases hj with rfl | rfl | rfl
    · exact .inl (by simp)
    · exact .inr (Nat.le_refl _)
    · exact .inr (by omega)
  have e : envS 4 [.ref i, w] = [some (.ref i), some w, none, none] := rfl
  have e2 : fListDN [w] G = some (.ref G.length, G ++ [.lst (ds.map .d)]) := by
    show (itemsW w G).map _ = _
    rw [hw]
    rfl
  have s0 : small 0 = true := rfl
  have hl : (G ++ [GO.lst (ds.map .d)]).length = G.length + 1 := by simp
  have key : gsMixed (envS 4 [.ref i, w]) G = .ret (.ref (G.length + 1)) G' := by
    unfold gsMixed
    walk_at "gs"
  refine ⟨src', p, G', a1, a2, ?_, a4, by simpa using a6, fr, by rw [a8]; simp⟩
  show runS 4 gsMixed _ _ = _
  unfold runS
  rw [key]
  unfold endS
  have nb : belowW G.length (.ref (G.length + 1)) = false := by simp [belowW]
  simp only [nb, Bool.false_eq_true, if_false]
/-! ### the cell's source -/
def fSource : List W → Hg → Res W := runS 1 gsSource
theorem source_ok {G : Hg} (n : Int) : ∃ src : List W, SrcOk src ∧ fSource [.d (.int n)] G = .ok (.ref G.length) (G ++ [.lst src]) := by
  have p1 : iPow 10 18 = some (.int 1000000000000000000) := by
    unfold iPow
    rw [if_pos (by decide)]
    rfl
  have p2 : ∀ j, iMul 3 j = some (.int (3 * j)) := fun j => iMul_okL (by decide)
  have p3 : ∀ j, iMod j 2147483647 = some (.int (j % 2147483647)) := fun j => iMod_ok (by decide)
  have p4 : ∀ (j : Int) (b : Bool), iMul j (if b = true then 1 else 0) = some (.int (j * if b = true then 1 else 0)) := fun j b => iMul_okR (by cases b <;> decide)
  have s3 : small (0 + 1 + 1 + 1) = true := rfl
  have nb : belowW G.length (.ref G.length) = false := by simp [belowW]
  by_cases h : 0 ≤ n
  · have e : envS 1 [.d (.int n)] = [some (.d (.int n))] := rfl
    have key : gsSource (envS 1 [.d (.int n)]) G = .ret (.ref G.length) (G ++ [.lst [.d (.int (n * if decide (1000000000000000000 ≤ n) = true then 1 else 0)), .d (.int (n % 2147483647)), .d (.int 0)]]) := by
      unfold gsSource
      walk_at "gs"
    refine ⟨[.d (.int (n * if decide (1000000000000000000 ≤ n) = true then 1 else 0)), .d (.int (n % 2147483647)), .d (.int 0)], ⟨_, _, _, rfl, ?_, by omega, by omega, Int.le_refl _⟩, ?_⟩
    rotate_left
    · show runS 1 gsSource _ _ = _
      unfold runS
      rw [key]
      unfold endS
      simp only [nb, Bool.false_eq_true, if_false]
    · split <;> omega
  · have e : envS 1 [.d (.int n)] = [some (.d (.int n))] := rfl
    have key : gsSource (envS 1 [.d (.int n)]) G = .ret (.ref G.length) (G ++ [.lst [.d (.int ((0 - 3 * n - 1) * if decide (1000000000000000000 ≤ 0 - 3 * n - 1) = true then 1 else 0)), .d (.int ((0 - 3 * n - 1) % 2147483647)), .d (.int 0)]]) := by
      unfold gsSource
      walk_at "gs"
    refine ⟨[.d (.int ((0 - 3 * n - 1) * if decide (1000000000000000000 ≤ 0 - 3 * n - 1) = true then 1 else 0)), .d (.int ((0 - 3 * n - 1) % 2147483647)), .d (.int 0)], ⟨_, _, _, rfl, ?_, by omega, by omega, Int.le_refl _⟩, ?_⟩
    rotate_left
    · show runS 1 gsSource _ _ = _
      unfold runS
      rw [key]
      unfold endS
      simp only [nb, Bool.false_eq_true, if_false]
    · split <;> omega
/-! ### _law_one -/
def gsOne : GS := gRet (gBin fIxD (gVar 1) (gFnS 2 fNext (gConsA (gVar 0) (gConsA (gCall fLenD (gConsA (gVar 1) (gNilA))) (gNilA)))))
def fOne : List W → Hg → Res W := runS 2 gsOne
theorem lenL_ok {G : Hg} {ds : List D} : fLenD [.d (.lst ds)] G = some (.d (.int ds.length), G) := by
  unfold fLenD dicW fLen fLen1 strOf
  simp [fLen1, strOf, seqW]
theorem atI_nat {α : Type} {l : List α} {k : Int} {x : α} (h0 : 0 ≤ k) (h : l[k.toNat]? = some x) : atI l k = some x := by
  have hl : k.toNat < l.length := (List.getElem?_eq_some_iff.mp h).1
  unfold atI ixN
  rw [if_pos h0, if_pos (by omega)]
  exact h
theorem one_ok {G : Hg} {i : Nat} {ds : List D} {src : List W} (h : G[i]? = some (.lst src)) (hs : SrcOk src) (h0 : ds ≠ []) (h1 : ds.length < 1073741824) :
    ∃ src' d, d ∈ ds ∧ SrcOk src' ∧ fOne [.ref i, .d (.lst ds)] G = .ok (.d d) (G.set i (.lst src')) := by
  have hl : 0 < ds.length := List.length_pos_iff.mpr h0
  obtain ⟨r, src', r0, r1, hs1, hnx⟩ := next_ok (m := (ds.length : Nat)) h hs (by omega) (by omega)
  have hlt : r.toNat < ds.length := by omega
  refine ⟨src', ds[r.toNat], List.getElem_mem hlt, hs1, runS_ret ?_ (by simp)⟩
  have e : envS 2 [.ref i, .d (.lst ds)] = [some (.ref i), some (.d (.lst ds))] := rfl
  have t := lenL_ok (G := G) (ds := ds)
  have a : atI (ds.map W.d) r = some (.d ds[r.toNat]) := atI_nat r0 (by rw [List.getElem?_map, List.getElem?_eq_getElem hlt]; rfl)
  unfold gsOne
  walk_at "gs"
end Gh

set_option Elab.async false
set_option linter.all false
set_option maxRecDepth 100000
set_option maxHeartbeats 4000000
namespace Gh
open PySem PySem.Spec PyProof.Rows L2
/-! ### loops over lists -/
section
variable {t : GTg} {b : GS} {ck : Hg → Bool} {w : W} {ws : List W} {ρ ρ1 ρ2 : GEnv} {G G1 G2 : Hg}
theorem forL_t (h : ck G = true) (ht : t w ρ G = some (ρ1, G1)) (hb : b ρ1 G1 = .nx ρ2 G2) : forL t b ck (w :: ws) ρ G = forL t b ck ws ρ2 G2 := by
  conv => lhs; unfold forL
  rw [h, if_pos rfl, ht]
  simp only [hb]
theorem forL_c (h : ck G = true) (ht : t w ρ G = some (ρ1, G1)) (hb : b ρ1 G1 = .ct ρ2 G2) : forL t b ck (w :: ws) ρ G = forL t b ck ws ρ2 G2 := by
  conv => lhs; unfold forL
  rw [h, if_pos rfl, ht]
  simp only [hb]
theorem forL_b (h : ck G = true) (ht : t w ρ G = some (ρ1, G1)) (hb : b ρ1 G1 = .bk ρ2 G2) : forL t b ck (w :: ws) ρ G = .nx ρ2 G2 := by
  conv => lhs; unfold forL
  rw [h, if_pos rfl, ht]
  simp only [hb]
theorem forL_x {e : Exc} (h : ck G = true) (ht : t w ρ G = some (ρ1, G1)) (hb : b ρ1 G1 = .exc e ρ2 G2) : forL t b ck (w :: ws) ρ G = .exc e ρ2 G2 := by
  conv => lhs; unfold forL
  rw [h, if_pos rfl, ht]
  simp only [hb]
theorem forL_r {z : W} (h : ck G = true) (ht : t w ρ G = some (ρ1, G1)) (hb : b ρ1 G1 = .ret z G2) : forL t b ck (w :: ws) ρ G = .ret z G2 := by
  conv => lhs; unfold forL
  rw [h, if_pos rfl, ht]
  simp only [hb]
theorem forL_nil (h : ck G = true) : forL t b ck [] ρ G = .nx ρ G := by unfold forL; rw [h, if_pos rfl]
theorem forL_inv {I : GEnv → Hg → Prop} {P : W → Prop} (hck : ∀ ρ G, I ρ G → ck G = true) (hs : ∀ w ρ G, P w → I ρ G → ∃ ρ1 G1 ρ2 G2, t w ρ G = some (ρ1, G1) ∧ b ρ1 G1 = .nx ρ2 G2 ∧ I ρ2 G2) :
    ∀ (ws : List W) (ρ : GEnv) (G : Hg), (∀ w ∈ ws, P w) → I ρ G → ∃ ρ2 G2, forL t b ck ws ρ G = .nx ρ2 G2 ∧ I ρ2 G2
  | [], ρ, G, _, i => ⟨ρ, G, forL_nil (hck _ _ i), i⟩
  | w :: ws, ρ, G, hp, i => by
    obtain ⟨ρ1, G1, ρ2, G2, h1, h2, h3⟩ := hs w ρ G (hp w List.mem_cons_self) i
    obtain ⟨ρ3, G3, h4, h5⟩ := forL_inv hck hs ws ρ2 G2 (fun x hx => hp x (List.mem_cons_of_mem _ hx)) h3
    exact ⟨ρ3, G3, (forL_t (hck _ _ i) h1 h2).trans h4, h5⟩
end
/-! ### comprehensions -/
section
variable {t : GTg} {tt : GT} {e : GE} {ck : Hg → Bool} {ρ0 : GEnv}
theorem lcL_inv {I : Hg → Prop} {P : W → Prop} {R : W → W → Prop} (hck : ∀ G, I G → ck G = true) (hs : ∀ w G, P w → I G → ∃ ρ' z G3, t w ρ0 G = some (ρ', G) ∧ tt ρ' G = .ok true G ∧ e ρ' G = .ok z G3 ∧ R w z ∧ I G3) :
    ∀ (ws acc : List W) (G : Hg), (∀ w ∈ ws, P w) → I G → acc.length + ws.length ≤ 16777216 → ∃ zs G', lcL t tt e ck ρ0 ws acc G = .ok (acc ++ zs) G' ∧ Paired R ws zs ∧ I G'
  | [], acc, G, _, i, _ => ⟨[], G, by unfold lcL; rw [hck _ i, if_pos rfl, List.append_nil], .nil, i⟩
  | w :: ws, acc, G, hp, i, hl => by
    obtain ⟨ρ', z, G3, h1, h2, h3, h4, h5⟩ := hs w G (hp w List.mem_cons_self) i
    simp only [List.length_cons] at hl
    obtain ⟨zs, G', h6, h7, h8⟩ := lcL_inv hck hs ws (acc ++ [z]) G3 (fun x hx => hp x (List.mem_cons_of_mem _ hx)) h5 (by rw [List.length_append]; simp only [List.length_cons, List.length_nil]; omega)
    refine ⟨z :: zs, G', ?_, .cons h4 h7, h8⟩
    conv => lhs; unfold lcL
    rw [hck _ i, if_pos rfl, h1]
    simp only [h2, h3]
    rw [if_pos (Nat.blt_eq.mpr (by omega)), h6, List.append_assoc]
    rfl
/-- elements that change nothing -/
theorem lcL_pure {G : Hg} (f : W → Option W) (hck : ck G = true) (hs : ∀ w, ∃ ρ', t w ρ0 G = some (ρ', G) ∧ ((f w = none ∧ tt ρ' G = .ok false G) ∨ ∃ z, f w = some z ∧ tt ρ' G = .ok true G ∧ e ρ' G = .ok z G)) :
    ∀ (ws acc : List W), acc.length + ws.length ≤ 16777216 → lcL t tt e ck ρ0 ws acc G = .ok (acc ++ ws.filterMap f) G
  | [], acc, _ => by unfold lcL; rw [hck, if_pos rfl]; simp
  | w :: ws, acc, hl => by
    simp only [List.length_cons] at hl
    obtain ⟨ρ', h1, h⟩ := hs w
    conv => lhs; unfold lcL
    rw [hck, if_pos rfl, h1]
    rcases h with ⟨h2, h3⟩ | ⟨z, h2, h3, h4⟩
    · simp only [h3]
      rw [lcL_pure f hck hs ws acc (by omega), List.filterMap_cons, h2]
    · simp only [h3, h4]
      rw [if_pos (Nat.blt_eq.mpr (by omega)), lcL_pure f hck hs ws (acc ++ [z]) (by rw [List.length_append]; simp only [List.length_cons, List.length_nil]; omega), List.filterMap_cons, h2, List.append_assoc]
      rfl
/-- the same where only the items at hand are known -/
theorem lcL_on {G : Hg} (f : W → Option W) (hck : ck G = true) : ∀ (ws acc : List W), (∀ w ∈ ws, ∃ ρ', t w ρ0 G = some (ρ', G) ∧ ((f w = none ∧ tt ρ' G = .ok false G) ∨ ∃ z, f w = some z ∧ tt ρ' G = .ok true G ∧ e ρ' G = .ok z G)) →
    acc.length + ws.length ≤ 16777216 → lcL t tt e ck ρ0 ws acc G = .ok (acc ++ ws.filterMap f) G
  | [], acc, _, _ => by unfold lcL; rw [hck, if_pos rfl]; simp
  | w :: ws, acc, hs, hl => by
    simp only [List.length_cons] at hl
    obtain ⟨ρ', h1, h⟩ := hs w List.mem_cons_self
    have hs' := fun x hx => hs x (List.mem_cons_of_mem _ hx)
    conv => lhs; unfold lcL
    rw [hck, if_pos rfl, h1]
    rcases h with ⟨h2, h3⟩ | ⟨z, h2, h3, h4⟩
    · simp only [h3]
      rw [lcL_on f hck ws acc hs' (by omega), List.filterMap_cons, h2]
    · simp only [h3, h4]
      rw [if_pos (Nat.blt_eq.mpr (by omega)), lcL_on f hck ws (acc ++ [z]) hs' (by rw [List.length_append]; simp only [List.length_cons, List.length_nil]; omega), List.filterMap_cons, h2, List.append_assoc]
      rfl
end
/-! ### repr -/
structure OkR (d : D) : Prop extends OkE d where
  s : (toPy d).showable = true
  l : (toPy d).leavesShort 13 = true
  b : (toPy d).bulk ≤ 1000
theorem okR_all : ∀ {ds : List D}, (∀ d ∈ ds, OkR d) → PyData.showableAll (toPyL ds) = true ∧ PyData.leavesShortAll 13 (toPyL ds) = true ∧ PyData.bulkAll (toPyL ds) ≤ 1001 * ds.length
  | [], _ => ⟨rfl, rfl, by simp [toPyL, PyData.bulkAll]⟩
  | d :: ds, h => by
    have h1 := h d List.mem_cons_self
    obtain ⟨a, b, c⟩ := okR_all fun x hx => h x (List.mem_cons_of_mem d hx)
    have h2 := h1.b
    simp only [toPyL, PyData.showableAll, PyData.leavesShortAll, PyData.bulkAll, Bool.and_eq_true, List.length_cons]
    exact ⟨⟨h1.s, a⟩, ⟨h1.l, b⟩, by omega⟩
theorem okR_of {d : D} (h : OkE d) (s : (toPy d).showable = true) (l : (toPy d).leavesShort 13 = true) (b : (toPy d).bulk ≤ 1048576) : okR (toPy d) = true := by
  have z := PyData.shown_fits_bulk (B := 13) (by decide) (by decide) l (Nat.le_trans b (by decide))
  rw [sizeLine_eq] at z
  unfold okR SeqAt.shaped
  simp only [Bool.and_eq_true, decide_eq_true_eq]
  exact ⟨⟨h.c, by have := h.p; omega⟩, s, sml (by omega)⟩
theorem okR_lst {ds : List D} (h : ∀ d ∈ ds, OkR d) (hl : ds.length ≤ 1000) : okR (toPy (.lst ds)) = true := by
  obtain ⟨a, b, c⟩ := okR_all h
  have z := PyData.shown_fits_bulk (B := 13) (d := toPy (.lst ds)) (by decide) (by decide) (by simpa only [toPy, PyData.leavesShort] using b) (Nat.le_trans (by simpa only [toPy, PyData.bulk] using c) (Nat.le_trans (Nat.mul_le_mul_left 1001 hl) (by decide)))
  rw [sizeLine_eq] at z
  have o := okD_lst (ds := ds) fun d hd => (h d hd).toOkE
  unfold okR
  unfold okD at o
  simp only [Bool.and_eq_true]
  exact ⟨o, by simpa only [toPy, PyData.showable] using a, sml (by omega)⟩
theorem repr_ok {G : Hg} {d : D} (h : okR (toPy d) = true) (hn : d ≠ .dic false []) : fRepr [.d d] G = some (.d (.str (toPy d).shown), G) := by
  unfold fRepr
  have e : Gh.snap (.d d) G = some d := rfl
  simp only [e, h, if_true]
/-! ### slices from the front -/
theorem cut_to {ws : List W} {k : Nat} : cutW ws none (some (k : Int)) = ws.take k := by
  unfold cutW
  rw [HT.sIx_none, HT.sIx_nat, Nat.sub_zero, List.drop_zero]
  rcases Nat.le_total k ws.length with h | h
  · rw [Nat.min_eq_left h]
  · rw [Nat.min_eq_right h, List.take_length, List.take_of_length_le h]
theorem cut_from {ws : List W} {k : Nat} : cutW ws (some (k : Int)) none = ws.drop k := by
  unfold cutW
  rw [HT.sIx_none, HT.sIx_nat]
  rcases Nat.le_total k ws.length with h | h
  · rw [Nat.min_eq_left h, List.take_of_length_le (by simp)]
  · rw [Nat.min_eq_right h, Nat.sub_self, List.take_zero, List.drop_of_length_le h]
theorem mkLst_d {ds : List D} : mkLst (ds.map .d) = some (.d (.lst ds)) := by unfold mkLst; rw [allD_map]; rfl
theorem slice_toL {G : Hg} {ds : List D} {k : Nat} : sliceEnd (.d (.lst ds)) none (some (k : Int)) G = .ok (.d (.lst (ds.take k))) G := by
  unfold sliceEnd seqW
  simp only [cut_to, ← List.map_take, mkLst_d]
theorem slice_fromL {G : Hg} {ds : List D} {k : Nat} : sliceEnd (.d (.lst ds)) (some (k : Int)) none G = .ok (.d (.lst (ds.drop k))) G := by
  unfold sliceEnd seqW
  simp only [cut_from, ← List.map_drop, mkLst_d]
theorem slice_toR {G : Hg} {i : Nat} {ds : List D} {k : Nat} (h : G[i]? = some (.lst (ds.map .d))) : sliceEnd (.ref i) none (some (k : Int)) G = .ok (.d (.lst (ds.take k))) G := by
  unfold sliceEnd seqW
  simp only [h, cut_to, ← List.map_take, mkLst_d]
theorem addL_ok {G : Hg} {ds es : List D} (h : ds.length + es.length ≤ 16777216) : fAdd (.d (.lst ds)) (.d (.lst es)) G = some (.d (.lst (ds ++ es)), G) := by
  have e : fAdd (.d (.lst ds)) (.d (.lst es)) G = fAddS (.d (.lst ds)) (.d (.lst es)) G := by unfold fAdd; rfl
  rw [e]
  unfold fAddS seqW
  simp only [List.length_map]
  rw [if_pos (sml h), ← List.map_append, mkLst_d]
  rfl
/-! ### calls of pure defs, in -/
def pR (G : Hg) : PRes → Res W
  | .stuck => .stuck
  | .exc e => .exc e G
  | .ok d => .ok (.d d) G
theorem pR_ok {G : Hg} {d : D} : pR G (.ok d) = .ok (.d d) G := rfl
theorem pR_exc {G : Hg} {e : Exc} : pR G (.exc e) = .exc e G := rfl
def fnP (n : Nat) (f : List D → PRes) (ws : List W) (G : Hg) : Res W := if ws.length = n then (match allD ws with
    | some ds => pR G (f ds)
    | none => match mapO (fun w => Gh.snap w G) ws with
      | some ds => (match f ds with
        | .ok d => if flat d then .ok (.d d) G else .stuck
        | _ => .stuck)
      | none => .stuck) else .stuck
section
variable {ρ : GEnv} {G : Hg} {as : GEs} {f : List D → PRes}
theorem e_fnP {n : Nat} : gFnP n f as ρ G = (as ρ G).bind fun ws G1 => fnP n f ws G1 := by
  unfold gFnP fnP
  refine congrArg _ (funext fun ws => funext fun G1 => ?_)
  by_cases h : ws.length = n
  · rw [if_pos h, if_pos h]
    cases allD ws with
    | none => rfl
    | some ds => simp only; cases f ds <;> rfl
  · rw [if_neg h, if_neg h]
theorem fnP_d {n : Nat} {ws : List W} {ds : List D} (h : allD ws = some ds) (hl : ws.length = n) : fnP n f ws G = pR G (f ds) := by
  unfold fnP
  rw [if_pos hl]
  simp only [h]
theorem fnP_1 {a : D} : fnP 1 f [.d a] G = pR G (f [a]) := rfl
theorem fnP_2 {a b : D} : fnP 2 f [.d a, .d b] G = pR G (f [a, b]) := rfl
theorem fnP_3 {a b c : D} : fnP 3 f [.d a, .d b, .d c] G = pR G (f [a, b, c]) := rfl
theorem fnP_4 {a b c d : D} : fnP 4 f [.d a, .d b, .d c, .d d] G = pR G (f [a, b, c, d]) := rfl
theorem inL_ok {neg : Bool} {x : D} {ds : List D} (h1 : OkE x) (h2 : ∀ d ∈ ds, OkE d) : fInD neg (.d x) (.d (.lst ds)) G = some (.d (.bl (neg ^^ inD x ds)), G) := by
  have e1 : okD x = true := by unfold okD SeqAt.shaped; simp only [Bool.and_eq_true, decide_eq_true_eq]; exact ⟨h1.c, by have := h1.p; omega⟩
  have e2 : okL ds = true := lay_all h2
  unfold fInD dicW fIn Gh.snap
  simp only [Option.bind_some, seqD, e1, e2, Bool.and_self, if_true]
theorem inT_ok {neg : Bool} {x : D} {ds : List D} (h1 : OkE x) (h2 : ∀ d ∈ ds, OkE d) : fInD neg (.d x) (.d (.tup ds)) G = some (.d (.bl (neg ^^ inD x ds)), G) := by
  have e1 : okD x = true := by unfold okD SeqAt.shaped; simp only [Bool.and_eq_true, decide_eq_true_eq]; exact ⟨h1.c, by have := h1.p; omega⟩
  have e2 : okL ds = true := lay_all h2
  unfold fInD dicW fIn Gh.snap
  simp only [Option.bind_some, seqD, e1, e2, Bool.and_self, if_true]
theorem inR_ok {neg : Bool} {x : D} {i : Nat} {ds : List D} (h : G[i]? = some (.lst (ds.map .d))) (h1 : OkE x) (h2 : ∀ d ∈ ds, OkE d) : fInD neg (.d x) (.ref i) G = some (.d (.bl (neg ^^ inD x ds)), G) := by
  have e1 : okD x = true := by unfold okD SeqAt.shaped; simp only [Bool.and_eq_true, decide_eq_true_eq]; exact ⟨h1.c, by have := h1.p; omega⟩
  have e2 : okL ds = true := lay_all h2
  unfold fInD dicW fIn Gh.snap
  simp only [h, allD_map, Option.map_some, Option.bind_some, seqD, e1, e2, Bool.and_self, if_true]
end
theorem eqD_int {i j : Int} : eqD (.int i) (.int j) = (i == j) := by simp [eqD, toPy, PyData.eqv]
theorem eqD_strint {x : Str} {j : Int} : eqD (.str x) (.int j) = false := by simp [eqD, toPy, PyData.eqv]
theorem eqD_str {x y : Str} : eqD (.str x) (.str y) = (x == y) := by simp [eqD, toPy, PyData.eqv]
theorem eqD_bl {x y : Bool} : eqD (.bl x) (.bl y) = (x == y) := by simp [eqD, toPy, PyData.eqv]
theorem okE_str {x : Str} (h : PyData.strOk x = true) : OkE (.str x) := ⟨by simpa [toPy, PyData.canLay0] using h, by simp [toPy, PyData.depth]⟩
theorem okE_tup {ds : List D} (h : ∀ d ∈ ds, OkE d) (h2 : ∀ d ∈ ds, (toPy d).depth ≤ 50) : OkE (.tup ds) := by
  have dp : ∀ {ds : List D}, (∀ d ∈ ds, (toPy d).depth ≤ 50) → PyData.depthAll (toPyL ds) ≤ 50 := fun {ds} h => by
    induction ds with
    | nil => simp [toPyL, PyData.depthAll]
    | cons d ds ih =>
      have h1 := h d List.mem_cons_self
      have h2 := ih fun x hx => h x (List.mem_cons_of_mem d hx)
      simp only [toPyL, PyData.depthAll]
      omega
  exact ⟨by simp only [toPy, PyData.canLay0]; exact lay_all h, by have := dp h2; simp only [toPy, PyData.depth]; omega⟩
/-! ### == -/
theorem eq_ok {neg : Bool} {G : Hg} {x y : D} (hx : okD x = true) (hy : okD y = true) (nx : ∀ kvs, x ≠ .dic false kvs) (ny : ∀ kvs, y ≠ .dic false kvs) (ns : ∀ a b, ¬ (x = .str a ∧ y = .str b)) : fEqS neg (.d x) (.d y) G = some (.d (.bl (neg ^^ eqD x y)), G) := by
  have e1 : dicW (.d x) G = none := by
    unfold dicW
    split
    · rename_i q; cases q; exact absurd rfl (nx _)
    · rename_i q; cases q
    · rfl
  unfold fEqS
  split
  · rename_i q1 q2; cases q1; cases q2; exact absurd ⟨rfl, rfl⟩ (ns _ _)
  · unfold fEqE
    rw [e1]
    unfold fEq Gh.snap
    simp only [hx, hy, Bool.and_self, if_true]
theorem eq_str {neg : Bool} {G : Hg} {x y : Str} : fEqS neg (.d (.str x)) (.d (.str y)) G = some (.d (.bl (neg ^^ decide (x = y))), G) := rfl
end Gh
namespace Gh
open PySem PySem.Spec PyProof.Rows L2
/-! ### slots that stay -/
structure Ag (m : List Nat) (ρ ρ' : GEnv) : Prop where
  le : ρ'.length = ρ.length
  eq : ∀ j, j ∉ m → ρ'[j]? = ρ[j]?
theorem Ag.refl {m : List Nat} {ρ : GEnv} : Ag m ρ ρ := ⟨rfl, fun _ _ => rfl⟩
theorem Ag.trans {m : List Nat} {ρ ρ1 ρ2 : GEnv} (a : Ag m ρ ρ1) (b : Ag m ρ1 ρ2) : Ag m ρ ρ2 := ⟨b.le.trans a.le, fun j h => (b.eq j h).trans (a.eq j h)⟩
theorem Ag.set {m : List Nat} {ρ : GEnv} {i : Nat} {x : Option W} (h : i ∈ m) : Ag m ρ (ρ.set i x) := ⟨by simp, fun j hj => List.getElem?_set_ne fun e => hj (by rw [← e]; exact h)⟩
theorem Ag.mono {m m' : List Nat} {ρ ρ' : GEnv} (a : Ag m ρ ρ') (h : ∀ i ∈ m, i ∈ m') : Ag m' ρ ρ' := ⟨a.le, fun j hj => a.eq j fun z => hj (h j z)⟩
theorem Ag.at {m : List Nat} {ρ ρ' : GEnv} {i : Nat} {x : Option W} (a : Ag m ρ ρ') (h : ρ[i]? = some x) (n : i ∉ m := by decide) : ρ'[i]? = some x := (a.eq i n).trans h
theorem set_at {ρ : GEnv} {i : Nat} {x : Option W} (h : i < ρ.length) : (ρ.set i x)[i]? = some x := List.getElem?_set_self h
theorem e_for {it : GI} {t : GTg} {b : GS} {ρ : GEnv} {G : Hg} : gFor it t b ρ G = (it ρ G).toS ρ fun p G' => forL t b p.2 p.1 ρ G' := rfl
theorem e_seqI {a : GE} {ρ : GEnv} {G : Hg} {w : W} {G1 : Hg} {b : Bool} {ws : List W} (h : a ρ G = .ok w G1) (hs : seqW w G1 = some (b, ws)) : gSeqI a ρ G = .ok (ws, ckW w ws) G1 := by unfold gSeqI; rw [h, bind_ok, hs]
theorem e_slice {a : GE} {l h : GO1} {ρ : GEnv} {G : Hg} : gSlice a l h ρ G = (a ρ G).bind fun w G1 => (l ρ G1).bind fun lo G2 => (h ρ G2).bind fun hi G3 => sliceEnd w lo hi G3 := id rfl
theorem e_noP {ρ : GEnv} {G : Hg} : gNoP ρ G = .ok none G := id rfl
def ptW (w : W) (G : Hg) : Res (Option Int) := match w with
  | .d (.int i) => .ok (some i) G
  | _ => .stuck
theorem ptW_int {i : Int} {G : Hg} : ptW (.d (.int i)) G = .ok (some i) G := id rfl
theorem e_pt {e : GE} {ρ : GEnv} {G : Hg} : gPt e ρ G = (e ρ G).bind ptW := id rfl
def okRb (d : D) : Bool := (toPy d).canLay0 && (decide ((toPy d).depth ≤ 60) && ((toPy d).showable && ((toPy d).leavesShort 13 && decide ((toPy d).bulk ≤ 1000))))
theorem okRb_ok {d : D} (h : okRb d = true) : OkR d := by
  unfold okRb at h
  simp only [Bool.and_eq_true, decide_eq_true_eq] at h
  exact ⟨⟨h.1, h.2.1⟩, h.2.2.1, h.2.2.2.1, h.2.2.2.2⟩
theorem okD_E {d : D} (h : OkE d) : okD d = true := by unfold okD SeqAt.shaped; simp only [Bool.and_eq_true, decide_eq_true_eq]; exact ⟨h.c, by have := h.p; omega⟩
theorem eqD_self {d : D} (h : OkE d) : eqD d d = true := PySem.SeqAt.eqv_refl _ h.c
theorem rep_end {G : Hg} {ds : List D} {k : Nat} (h : ds.length * k ≤ 16777216) (hk : k < 1000000000) : repEnd (ds.map .d) (.d (.int (k : Int))) G = .ok (.d (.lst (List.replicate k ds).flatten)) G := by
  unfold repEnd
  simp only [allD_map, List.length_map, Int.toNat_natCast]
  rw [if_pos (by simp only [Bool.and_eq_true, decide_eq_true_eq]; exact ⟨⟨by omega, by omega⟩, sml h⟩)]
theorem e_rep {a : GEs} {k : GE} {ρ : GEnv} {G : Hg} : gRep a k ρ G = (a ρ G).bind fun ws G1 => iffR ((k ρ G1).bind (repEnd ws)) (small ws.length) := by
  unfold gRep iffR; refine congrArg _ (funext fun w => funext fun G1 => ?_); cases small w.length <;> rfl
end Gh

set_option Elab.async false
set_option linter.all false
set_option maxRecDepth 100000
set_option maxHeartbeats 8000000
namespace K41
open PySem PySem.Spec PyProof.Rows L2 Gh

def top (i : Nat) : Stmt := PySem.Challenge.pw_leastmarks_k41_writes_and_spares_refused.main.body.getD i (.Pass ⟨0, 0, 0, 0⟩)
def inCls (i j : Nat) : Stmt := match top i with
  | .ClassDef _ _ _ b _ _ _ _ _ _ _ => b.getD j (.Pass ⟨0, 0, 0, 0⟩)
  | _ => .Pass ⟨0, 0, 0, 0⟩
/-! the names of values -/
def kb_int : List (Ty × Bool) := [(.non, false), (.bl, true), (.int, true), (.str, false), (.tup, false), (.lst, false), (.dic, false)]
def ko_int : List (Str × Bool) := [("MarkError", false), ("NoStops", false), ("NoWrites", false), ("NoSpare", false)]
def ku_int : List Cn := [.b "int"]
abbrev k_int : Tc → Option Bool := tcf kb_int ko_int
def kb_bool : List (Ty × Bool) := [(.non, false), (.bl, true), (.int, false), (.str, false), (.tup, false), (.lst, false), (.dic, false)]
def ko_bool : List (Str × Bool) := [("MarkError", false), ("NoStops", false), ("NoWrites", false), ("NoSpare", false)]
def ku_bool : List Cn := [.b "bool"]
abbrev k_bool : Tc → Option Bool := tcf kb_bool ko_bool
def kb_tuple : List (Ty × Bool) := [(.non, false), (.bl, false), (.int, false), (.str, false), (.tup, true), (.lst, false), (.dic, false)]
def ko_tuple : List (Str × Bool) := [("MarkError", false), ("NoStops", false), ("NoWrites", false), ("NoSpare", false)]
def ku_tuple : List Cn := [.b "tuple"]
abbrev k_tuple : Tc → Option Bool := tcf kb_tuple ko_tuple
def kb_str : List (Ty × Bool) := [(.non, false), (.bl, false), (.int, false), (.str, true), (.tup, false), (.lst, false), (.dic, false)]
def ko_str : List (Str × Bool) := [("MarkError", false), ("NoStops", false), ("NoWrites", false), ("NoSpare", false)]
def ku_str : List Cn := [.b "str"]
abbrev k_str : Tc → Option Bool := tcf kb_str ko_str
def kb_list_tuple : List (Ty × Bool) := [(.non, false), (.bl, false), (.int, false), (.str, false), (.tup, true), (.lst, true), (.dic, false)]
def ko_list_tuple : List (Str × Bool) := [("MarkError", false), ("NoStops", false), ("NoWrites", false), ("NoSpare", false)]
def ku_list_tuple : List Cn := [.b "list", .b "tuple"]
abbrev k_list_tuple : Tc → Option Bool := tcf kb_list_tuple ko_list_tuple
def kb_NoWrites_NoStops : List (Ty × Bool) := [(.non, false), (.bl, false), (.int, false), (.str, false), (.tup, false), (.lst, false), (.dic, false)]
def ko_NoWrites_NoStops : List (Str × Bool) := [("MarkError", false), ("NoStops", true), ("NoWrites", true), ("NoSpare", false)]
def ku_NoWrites_NoStops : List Cn := [.o "NoWrites", .o "NoStops"]
abbrev k_NoWrites_NoStops : Tc → Option Bool := tcf kb_NoWrites_NoStops ko_NoWrites_NoStops
def kb_NoSpare_NoStops : List (Ty × Bool) := [(.non, false), (.bl, false), (.int, false), (.str, false), (.tup, false), (.lst, false), (.dic, false)]
def ko_NoSpare_NoStops : List (Str × Bool) := [("MarkError", false), ("NoStops", true), ("NoWrites", false), ("NoSpare", true)]
def ku_NoSpare_NoStops : List Cn := [.o "NoSpare", .o "NoStops"]
abbrev k_NoSpare_NoStops : Tc → Option Bool := tcf kb_NoSpare_NoStops ko_NoSpare_NoStops
def kx_NoSpare : List (Str × Bool) := [("MarkError", false), ("NoStops", false), ("NoWrites", false), ("NoSpare", true)]
def kx_NoWrites : List (Str × Bool) := [("MarkError", false), ("NoStops", false), ("NoWrites", true), ("NoSpare", false)]
def cs_spare : List Str := ["NoSpare"]
def cs_at : List Str := ["NoWrites"]
def c_CONSTANTS : D := .tup [.str "on", .str "off"]
/-! the text's facts -/
structure Txt (K : PySem.W.Frag) (mg : Str → Option Value) : Prop where
  fr_any : mg "any" = none
  fr_bool : mg "bool" = none
  fr_dict : mg "dict" = none
  fr_enumerate : mg "enumerate" = none
  fr_int : mg "int" = none
  fr_isinstance : mg "isinstance" = none
  fr_len : mg "len" = none
  fr_list : mg "list" = none
  fr_min : mg "min" = none
  fr_range : mg "range" = none
  fr_repr : mg "repr" = none
  fr_sorted : mg "sorted" = none
  fr_str : mg "str" = none
  fr_tuple : mg "tuple" = none
  cl_NoSpare : mg "NoSpare" = some (.ref (He.ga K "NoSpare"))
  cl_NoStops : mg "NoStops" = some (.ref (He.ga K "NoStops"))
  cl_NoWrites : mg "NoWrites" = some (.ref (He.ga K "NoWrites"))
  kt_int : KitT ⟨K, mg⟩ (ku_int.map (Cn.v K)) k_int
  kt_bool : KitT ⟨K, mg⟩ (ku_bool.map (Cn.v K)) k_bool
  kt_tuple : KitT ⟨K, mg⟩ (ku_tuple.map (Cn.v K)) k_tuple
  kt_str : KitT ⟨K, mg⟩ (ku_str.map (Cn.v K)) k_str
  kt_list_tuple : KitT ⟨K, mg⟩ (ku_list_tuple.map (Cn.v K)) k_list_tuple
  kt_NoWrites_NoStops : KitT ⟨K, mg⟩ (ku_NoWrites_NoStops.map (Cn.v K)) k_NoWrites_NoStops
  kt_NoSpare_NoStops : KitT ⟨K, mg⟩ (ku_NoSpare_NoStops.map (Cn.v K)) k_NoSpare_NoStops
  gl_CONSTANTS : GlobD K mg "CONSTANTS" c_CONSTANTS
  na_spare : NoAt ⟨K, mg⟩ cs_spare "spare"
  na_at : NoAt ⟨K, mg⟩ cs_at "at"
  ex_NoSpare : NamesF K mg "NoSpare" (fun c => kx_NoSpare.lookup c)
  ex_NoWrites : NamesF K mg "NoWrites" (fun c => kx_NoWrites.lookup c)
theorem room65 {k : Nat} {A : Around} (r : RoomG k A) : A.units + 65 < cLine := by have := r.r.un; omega
/-! the defs -/
section
variable {P : Program} {w : World} {K : PySem.W.Frag} {mg : Str → Option Value} {base : Heap}
abbrev s__law_source_of : Stmt := top 18
def N__law_source_of : List Str := ["_law_cell"]
theorem nd__law_source_of : N__law_source_of.Nodup := by decide +kernel
def g__law_source_of : GS := gSeq (gAsg (gIfE (gTst (gBin (fI (iCmp fun i j => decide (j ≤ i))) (gVar 0) (gC (.int 0)))) (gVar 0) (gBin (fI iSub) (gBin (fI iSub) (gC (.int 0)) (gBin (fI iMul) (gC (.int 3)) (gVar 0))) (gC (.int 1)))) (gNm 0)) (gRet (gNew (gConsA (gBin (fI iMul) (gVar 0) (gCall fInt (gConsA (gBin (fI (iCmp fun i j => decide (j ≤ i))) (gVar 0) (gBin (fI iPow) (gC (.int 10)) (gC (.int 18)))) (gNilA)))) (gConsA (gBin (fI iMod) (gCall fInt (gConsA (gVar 0) (gNilA))) (gC (.int 2147483647))) (gConsA (gC (.int 0)) (gNilA))))))
def f__law_source_of : List W → Hg → Res W := runS 1 g__law_source_of
theorem sc__law_source_of : FnScope N__law_source_of ["_law_cell"] (defScope s__law_source_of) := ⟨rfl, rfl, rfl, nd__law_source_of, rfl, by decide +kernel, by decide +kernel⟩
theorem b__law_source_of {f : Addr} (T : Txt K mg)  : Body P w K mg base N__law_source_of "_law_source_of" s__law_source_of 0 f g__law_source_of := fun cdv A outer s H E hr => by
  have hu := room65 hr
  have hgd := hr.g
  exact gss_cons (gs_set (i := 0) nd__law_source_of (ge_if (gt_cmp op_ge og_ge (ge_var 0) (ge_int)) (ge_var 0) (ge_op op_sub og_sub (ge_op op_sub og_sub (ge_int) (ge_op op_mul og_mul (ge_int) (ge_var 0))) (ge_int)))) (gss_one (gs_ret (ge_new (ga_cons (ge_op op_mul og_mul (ge_var 0) (ge_callTy call_int1 cg_int T.fr_int (ga_cons (ge_cmp op_ge og_ge (ge_var 0) (ge_op op_pow og_pow (ge_int) (ge_int))) (ga_nil)))) (ga_cons (ge_op op_mod og_mod (ge_callTy call_int1 cg_int T.fr_int (ga_cons (ge_var 0) (ga_nil))) (ge_int)) (ga_cons (ge_int) (ga_nil)))))))
abbrev s_is_integer : Stmt := top 6
def N_is_integer : List Str := ["value"]
theorem nd_is_integer : N_is_integer.Nodup := by decide +kernel
def g_is_integer : GS := gRet (gAndV (gIsc k_int (gVar 0)) (gNotV (gIsc k_bool (gVar 0))))
def f_is_integer : List D → PRes := runP 1 g_is_integer
theorem sc_is_integer : FnScope N_is_integer ["value"] (defScope s_is_integer) := ⟨rfl, rfl, rfl, nd_is_integer, rfl, by decide +kernel, by decide +kernel⟩
theorem b_is_integer {f : Addr} (T : Txt K mg)  : Body P w K mg base N_is_integer "is_integer" s_is_integer 0 f g_is_integer := fun cdv A outer s H E hr => by
  have hu := room65 hr
  have hgd := hr.g
  exact gss_one (gs_ret (ge_and (ge_isc T.fr_isinstance (ge_var 0) (.ty "int" (by decide +kernel) T.fr_int (by rfl) (by decide) (by decide) (by rfl) (.nil)) T.kt_int) (ge_one (ge_not (ge_isc T.fr_isinstance (ge_var 0) (.ty "bool" (by decide +kernel) T.fr_bool (by rfl) (by decide) (by decide) (by rfl) (.nil)) T.kt_bool)))))
abbrev s_is_mark : Stmt := top 9
def N_is_mark : List Str := ["value"]
theorem nd_is_mark : N_is_mark.Nodup := by decide +kernel
def g_is_mark : GS := gRet (gAndV (gFnP 1 f_is_integer (gConsA (gVar 0) (gNilA))) (gBin (fI (iCmp fun i j => decide (j ≤ i))) (gVar 0) (gC (.int 0))))
def f_is_mark : List D → PRes := runP 1 g_is_mark
theorem sc_is_mark : FnScope N_is_mark ["value"] (defScope s_is_mark) := ⟨rfl, rfl, rfl, nd_is_mark, rfl, by decide +kernel, by decide +kernel⟩
theorem b_is_mark {f : Addr} (T : Txt K mg) (C_is_integer : CalX P w K mg base 1 "is_integer" (spP ⟨K, mg⟩ 1 f_is_integer)) : Body P w K mg base N_is_mark "is_mark" s_is_mark 1 f g_is_mark := fun cdv A outer s H E hr => by
  have hu := room65 hr
  have hgd := hr.g
  exact gss_one (gs_ret (ge_and (ge_fnP C_is_integer hr (by decide) (ga_cons (ge_var 0) (ga_nil))) (ge_one (ge_cmp op_ge og_ge (ge_var 0) (ge_int)))))
abbrev s_is_write : Stmt := top 10
def N_is_write : List Str := ["value"]
theorem nd_is_write : N_is_write.Nodup := by decide +kernel
def g_is_write : GS := gSeq (gIf (gOr (gNot (gTst (gIsc k_tuple (gVar 0)))) (gOr (gTst (gBin (fEqS true) (gCall fLenD (gConsA (gVar 0) (gNilA))) (gC (.int 2)))) (gNot (gTst (gFnP 1 f_is_mark (gConsA (gBin fIxD (gVar 0) (gC (.int 0))) (gNilA))))))) (gRet (gC (.bl false))) (gNil)) (gRet (gOrV (gAndV (gIsc k_str (gBin fIxD (gVar 0) (gC (.int 1)))) (gBin (fInD false) (gBin fIxD (gVar 0) (gC (.int 1))) (gC c_CONSTANTS))) (gFnP 1 f_is_mark (gConsA (gBin fIxD (gVar 0) (gC (.int 1))) (gNilA)))))
def f_is_write : List D → PRes := runP 1 g_is_write
theorem sc_is_write : FnScope N_is_write ["value"] (defScope s_is_write) := ⟨rfl, rfl, rfl, nd_is_write, rfl, by decide +kernel, by decide +kernel⟩
theorem b_is_write {f : Addr} (T : Txt K mg) (C_is_mark : CalX P w K mg base 2 "is_mark" (spP ⟨K, mg⟩ 1 f_is_mark)) : Body P w K mg base N_is_write "is_write" s_is_write 2 f g_is_write := fun cdv A outer s H E hr => by
  have hu := room65 hr
  have hgd := hr.g
  exact gss_cons (gs_if ((gw_or (gt_not (gt_val (ge_isc T.fr_isinstance (ge_var 0) (.ty "tuple" (by decide +kernel) T.fr_tuple (by rfl) (by decide) (by decide) (by rfl) (.nil)) T.kt_tuple))) (gw_or (gt_cmp (Gh.op_neS hu) og_neS (ge_callB Gh.call_lenD cg_lenD T.fr_len (ga_cons (ge_var 0) (ga_nil))) (ge_int)) (gw_or1 (gt_not (gt_val (ge_fnP C_is_mark hr (by decide) (ga_cons (ge_ix (Gh.ix_D hu) og_ixD (ge_var 0) (ge_int)) (ga_nil)))))))).pt) (gss_one (gs_ret (ge_bl))) (gss_nil)) (gss_one (gs_ret (ge_or (ge_and (ge_isc T.fr_isinstance (ge_ix (Gh.ix_D hu) og_ixD (ge_var 0) (ge_int)) (.ty "str" (by decide +kernel) T.fr_str (by rfl) (by decide) (by decide) (by rfl) (.nil)) T.kt_str) (ge_one (ge_cmp (Gh.op_inD hu) og_inD (ge_ix (Gh.ix_D hu) og_ixD (ge_var 0) (ge_int)) (ge_glob T.gl_CONSTANTS)))) (ge_one (ge_fnP C_is_mark hr (by decide) (ga_cons (ge_ix (Gh.ix_D hu) og_ixD (ge_var 0) (ge_int)) (ga_nil)))))))
abbrev s_look_writes : Stmt := top 11
def N_look_writes : List Str := ["writes", "marks", "at", "write"]
theorem nd_look_writes : N_look_writes.Nodup := by decide +kernel
def fb0_look_writes : GS := gSeq (gIf (gOr (gNot (gTst (gFnP 1 f_is_write (gConsA (gVar 3) (gNilA))))) (gTst (gBin (fInD false) (gBin fIxD (gVar 3) (gC (.int 0))) (gVar 1)))) (gRaise "NoWrites" ["at"] (gConsA (gVar 2) (gNilA))) (gNil)) (gExpr (gMt .lst fAppend (gVar 1) (gConsA (gBin fIxD (gVar 3) (gC (.int 0))) (gNilA))))
def g_look_writes : GS := gSeq (gIf (gNot (gTst (gIsc k_list_tuple (gVar 0)))) (gRaise "NoWrites" ["at"] (gConsA (gNeg (gC (.int 1))) (gNilA))) (gNil)) (gSeq (gAsg (gNew (gNilA)) (gNm 1)) (gFor (gEnumI (gConsA (gVar 0) (gNilA))) (gTp [gNm 2, gNm 3]) (fb0_look_writes)))
def f_look_writes : List D → PRes := runP 4 g_look_writes
theorem sc_look_writes : FnScope N_look_writes ["writes"] (defScope s_look_writes) := ⟨rfl, rfl, rfl, nd_look_writes, rfl, by decide +kernel, by decide +kernel⟩
theorem b_look_writes {f : Addr} (T : Txt K mg) (C_is_write : CalX P w K mg base 3 "is_write" (spP ⟨K, mg⟩ 1 f_is_write)) (X_NoWrites : ClsX P w K mg base "NoWrites" ["at"]) : Body P w K mg base N_look_writes "look_writes" s_look_writes 3 f g_look_writes := fun cdv A outer s H E hr => by
  have hu := room65 hr
  have hgd := hr.g
  exact gss_cons (gs_if (gt_not (gt_val (ge_iscT T.fr_isinstance (ge_var 0) (.ty "list" (by decide +kernel) T.fr_list (by rfl) (by decide) (by decide) (by rfl) (.ty "tuple" (by decide +kernel) T.fr_tuple (by rfl) (by decide) (by decide) (by rfl) (.nil))) T.kt_list_tuple))) (gss_one (gs_raise X_NoWrites hr (by decide) rfl (ga_cons (ge_neg (ge_int)) (ga_nil)))) (gss_nil)) (gss_cons (gs_set (i := 1) nd_look_writes (ge_new (ga_nil))) (gss_one (gs_for (own := [2, 3]) (passes_of rfl) rfl (gi_enum T.fr_enumerate (ga_cons (ge_var 0) (ga_nil))) (gg_tup rfl (ggs_cons (gg_name 2 nd_look_writes) (ggs_cons (gg_name 3 nd_look_writes) (ggs_nil)))) (gss_cons (gs_if ((gw_or (gt_not (gt_val (ge_fnP C_is_write hr (by decide) (ga_cons (ge_var 3) (ga_nil))))) (gw_or1 (gt_cmp (Gh.op_inD hu) og_inD (ge_ix (Gh.ix_D hu) og_ixD (ge_var 3) (ge_int)) (ge_var 1)))).pt) (gss_one (gs_raise X_NoWrites hr (by decide) rfl (ga_cons (ge_var 2) (ga_nil)))) (gss_nil)) (gss_one (gs_expr (ge_append (ge_var 1) (ga_cons (ge_ix (Gh.ix_D hu) og_ixD (ge_var 3) (ge_int)) (ga_nil)))))))))
abbrev s_look_spare : Stmt := top 12
def N_look_spare : List Str := ["writes", "spare", "write"]
theorem nd_look_spare : N_look_spare.Nodup := by decide +kernel
def le0_look_spare : GE := gBin (fInD false) (gVar 1) (gVar 2)
def g_look_spare : GS := gIf (gOr (gNot (gTst (gFnP 1 f_is_mark (gConsA (gVar 1) (gNilA))))) (gTst (gCall fAny (gConsA (fun ρ G => (gLcW (gSeqI (gVar 0)) [2] (gNm 2) (gYes) (le0_look_spare) ρ G).bind finT) (gNilA))))) (gRaise "NoSpare" ["spare"] (gConsA (gVar 1) (gNilA))) (gNil)
def f_look_spare : List D → PRes := runP 3 g_look_spare
theorem sc_look_spare : FnScope N_look_spare ["writes", "spare"] (defScope s_look_spare) := ⟨rfl, rfl, rfl, nd_look_spare, rfl, by decide +kernel, by decide +kernel⟩
theorem b_look_spare {f : Addr} (T : Txt K mg) (C_is_mark : CalX P w K mg base 2 "is_mark" (spP ⟨K, mg⟩ 1 f_is_mark)) (X_NoSpare : ClsX P w K mg base "NoSpare" ["spare"]) : Body P w K mg base N_look_spare "look_spare" s_look_spare 2 f g_look_spare := fun cdv A outer s H E hr => by
  have hu := room65 hr
  have hgd := hr.g
  exact gss_one (gs_if ((gw_or (gt_not (gt_val (ge_fnP C_is_mark hr (by decide) (ga_cons (ge_var 1) (ga_nil))))) (gw_or1 (gt_val (ge_callB (cr_any (by rfl)) cg_any T.fr_any (ga_cons (ge_lc (⟨rfl, nd_look_spare, gi_seq (ge_var 0), blkOk_by (own := [("write", 2)]) (by rfl), fun _ _ _ _ _ => gg_name 2 nd_look_spare, fun _ _ _ _ _ => gts_nil, fun _ _ _ _ _ => ge_cmp (Gh.op_inD hu) og_inD (ge_var 1) (ge_var 2)⟩ : LcParts _ _ _ _ _ _ _ _ _ _ _) finT_ok) (ga_nil)))))).pt) (gss_one (gs_raise X_NoSpare hr (by decide) rfl (ga_cons (ge_var 1) (ga_nil)))) (gss_nil))
abbrev s_next_free : Stmt := top 15
def N_next_free : List Str := ["left", "free", "mark"]
theorem nd_next_free : N_next_free.Nodup := by decide +kernel
def lt0_next_free : GT := gTst (gBin (fInD true) (gVar 2) (gValsL (gVar 0) false))
def le0_next_free : GE := gVar 2
def g_next_free : GS := gSeq (gLock 0 (gAsg (fun ρ G => (gLcW (gDicI .keys (gVar 0)) [2] (gNm 2) (lt0_next_free) (le0_next_free) ρ G).bind finT) (gNm 1))) (gRet (gIfE (gTst (gBin (fEqS true) (gVar 1) (gLst (gNilA)))) (gCall fMinD (gConsA (gVar 1) (gNilA))) (gC .non)))
def f_next_free : List W → Hg → Res W := runS 3 g_next_free
theorem sc_next_free : FnScope N_next_free ["left"] (defScope s_next_free) := ⟨rfl, rfl, rfl, nd_next_free, rfl, by decide +kernel, by decide +kernel⟩
theorem b_next_free {f : Addr} (T : Txt K mg)  : Body P w K mg base N_next_free "next_free" s_next_free 0 f g_next_free := fun cdv A outer s H E hr => by
  have hu := room65 hr
  have hgd := hr.g
  exact gss_cons (gs_lock 0 (gs_setLc (i := 1) (⟨rfl, nd_next_free, gi_keys (ge_var 0), blkOk_by (own := [("mark", 2)]) (by rfl), fun _ _ _ _ _ => gg_name 2 nd_next_free, fun _ _ _ _ _ => gts_one (gt_cmp (Gh.op_notInD hu) og_inD (ge_var 2) (ge_listVals false T.fr_list (by rfl) (ge_var 0))), fun _ _ _ _ _ => ge_var 2⟩ : LcParts _ _ _ _ _ _ _ _ _ _ _) finT_ok)) (gss_one (gs_ret (ge_if (gt_cmp (Gh.op_neS hu) og_neS (ge_var 1) (ge_lst (ga_nil))) (ge_callB (cr_minD (by rfl)) cg_minD T.fr_min (ga_cons (ge_var 1) (ga_nil))) (ge_non))))
abbrev s_redirected : Stmt := top 14
def N_redirected : List Str := ["left", "mark", "other", "one", "source"]
theorem nd_redirected : N_redirected.Nodup := by decide +kernel
def le0_redirected : GE := gVar 3
def le1_redirected : GE := gIfE (gTst (gBin (fEqS false) (gVar 4) (gVar 1))) (gVar 2) (gVar 4)
def g_redirected : GS := gLock 0 (gRet (fun ρ G => (gDcW (gDicI .items (gVar 0)) [3, 4] (gTp [gNm 3, gNm 4]) (gYes) (le0_redirected) (le1_redirected) ρ G).bind finDN))
def f_redirected : List W → Hg → Res W := runS 5 g_redirected
theorem sc_redirected : FnScope N_redirected ["left", "mark", "other"] (defScope s_redirected) := ⟨rfl, rfl, rfl, nd_redirected, rfl, by decide +kernel, by decide +kernel⟩
theorem b_redirected {f : Addr} (T : Txt K mg)  : Body P w K mg base N_redirected "redirected" s_redirected 0 f g_redirected := fun cdv A outer s H E hr => by
  have hu := room65 hr
  have hgd := hr.g
  exact gss_one (gs_lock 0 (gs_ret (ge_dc (⟨rfl, nd_redirected, gi_items (ge_var 0), blkOk_by (own := [("one", 3), ("source", 4)]) (by rfl), fun _ _ _ _ _ => gg_tup rfl (ggs_cons (gg_name 3 nd_redirected) (ggs_cons (gg_name 4 nd_redirected) (ggs_nil))), fun _ _ _ _ _ => gts_nil, fun _ _ _ _ _ => ge_var 3⟩ : LcParts _ _ _ _ _ _ _ _ _ _ _) (⟨rfl, nd_redirected, gi_items (ge_var 0), blkOk_by (own := [("one", 3), ("source", 4)]) (by rfl), fun _ _ _ _ _ => gg_tup rfl (ggs_cons (gg_name 3 nd_redirected) (ggs_cons (gg_name 4 nd_redirected) (ggs_nil))), fun _ _ _ _ _ => gts_nil, fun _ _ _ _ _ => ge_if (gt_cmp (Gh.op_eqS hu) og_eqS (ge_var 4) (ge_var 1)) (ge_var 2) (ge_var 4)⟩ : LcParts _ _ _ _ _ _ _ _ _ _ _))))
abbrev s_row_of : Stmt := top 13
def N_row_of : List Str := ["mark", "source"]
theorem nd_row_of : N_row_of.Nodup := by decide +kernel
def g_row_of : GS := gRet (gIfE (gTst (gBin (fInD false) (gVar 1) (gC c_CONSTANTS))) (gTup (gConsA (gVar 1) (gConsA (gVar 0) (gNilA)))) (gTup (gConsA (gC (.str "copy")) (gConsA (gVar 0) (gConsA (gVar 1) (gNilA))))))
def f_row_of : List D → PRes := runP 2 g_row_of
theorem sc_row_of : FnScope N_row_of ["mark", "source"] (defScope s_row_of) := ⟨rfl, rfl, rfl, nd_row_of, rfl, by decide +kernel, by decide +kernel⟩
theorem b_row_of {f : Addr} (T : Txt K mg)  : Body P w K mg base N_row_of "row_of" s_row_of 0 f g_row_of := fun cdv A outer s H E hr => by
  have hu := room65 hr
  have hgd := hr.g
  exact gss_one (gs_ret (ge_if (gt_cmp (Gh.op_inD hu) og_inD (ge_var 1) (ge_glob T.gl_CONSTANTS)) (ge_tup (ga_cons (ge_var 1) (ga_cons (ge_var 0) (ga_nil)))) (ge_tup (ga_cons (ge_str) (ga_cons (ge_var 0) (ga_cons (ge_var 1) (ga_nil)))))))
abbrev s_sequence : Stmt := top 16
def N_sequence : List Str := ["writes", "spare", "left", "kept", "rows", "mark", "source", "saved", "one"]
theorem nd_sequence : N_sequence.Nodup := by decide +kernel
def lt0_sequence : GT := gTst (gBin (fEqS true) (gVar 5) (gVar 6))
def le0_sequence : GE := gVar 5
def lt1_sequence : GT := gTst (gBin (fEqS true) (gVar 5) (gVar 6))
def le1_sequence : GE := gVar 6
def lt2_sequence : GT := gTst (gBin (fInD false) (gVar 8) (gVar 3))
def le2_sequence : GE := gVar 8
def wc0_sequence : GT := gTst (gBin (fEqS true) (gVar 2) (gDicT))
def wb0_sequence : GS := gSeq (gAsg (gFnS 1 f_next_free (gConsA (gVar 2) (gNilA))) (gNm 5)) (gSeq (gIf (gTst (gIsN false (gVar 5))) (gSeq (gLock 2 (gAsg (gCall fSorted (gConsA (fun ρ G => (gLcW (gDicI .keys (gVar 2)) [8] (gNm 8) (lt2_sequence) (le2_sequence) ρ G).bind finT) (gNilA))) (gNm 7))) (gSeq (gAsg (gIfE (gTst (gBin (fEqS true) (gVar 7) (gLst (gNilA)))) (gBin fIxD (gVar 7) (gC (.int 0))) (gCall fMinD (gConsA (gVar 2) (gNilA)))) (gNm 5)) (gSeq (gIf (gTst (gBin (fEqS false) (gVar 7) (gLst (gNilA)))) (gExpr (gMt .lst fAppend (gVar 4) (gConsA (gTup (gConsA (gC (.str "copy")) (gConsA (gVar 1) (gConsA (gVar 5) (gNilA))))) (gNilA)))) (gNil)) (gAsg (gFnS 3 f_redirected (gConsA (gVar 2) (gConsA (gVar 5) (gConsA (gGet2 (gVar 3) (gVar 5) (gVar 1)) (gNilA))))) (gNm 2))))) (gNil)) (gSeq (gAsg (gPopD (gVar 2) (gVar 5)) (gNm 6)) (gSeq (gExpr (gMt .lst fAppend (gVar 4) (gConsA (gFnP 2 f_row_of (gConsA (gVar 5) (gConsA (gVar 6) (gNilA)))) (gNilA)))) (gAsg (gVar 5) (gSb (gVar 3) (gVar 6) fSetD)))))
def g_sequence : GS := gSeq (gExpr (gFnP 1 f_look_writes (gConsA (gVar 0) (gNilA)))) (gSeq (gExpr (gFnP 2 f_look_spare (gConsA (gVar 0) (gConsA (gVar 1) (gNilA))))) (gSeq (gAsg (fun ρ G => (gDcW (gSeqI (gVar 0)) [5, 6] (gTp [gNm 5, gNm 6]) (lt1_sequence) (le0_sequence) (le1_sequence) ρ G).bind finDN) (gNm 2)) (gSeq (gAsg (gDicN) (gNm 3)) (gSeq (gAsg (gNew (gNilA)) (gNm 4)) (gSeq (whileN (wc0_sequence) (wb0_sequence) 1000000) (gRet (gVar 4)))))))
def f_sequence : List D → PRes := runP 9 g_sequence
theorem sc_sequence : FnScope N_sequence ["writes", "spare"] (defScope s_sequence) := ⟨rfl, rfl, rfl, nd_sequence, rfl, by decide +kernel, by decide +kernel⟩
theorem b_sequence {f : Addr} (T : Txt K mg) (C_look_spare : CalX P w K mg base 3 "look_spare" (spP ⟨K, mg⟩ 2 f_look_spare)) (C_look_writes : CalX P w K mg base 4 "look_writes" (spP ⟨K, mg⟩ 1 f_look_writes)) (C_next_free : CalX P w K mg base 1 "next_free" (spS ⟨K, mg⟩ 1 f_next_free)) (C_redirected : CalX P w K mg base 1 "redirected" (spS ⟨K, mg⟩ 3 f_redirected)) (C_row_of : CalX P w K mg base 1 "row_of" (spP ⟨K, mg⟩ 2 f_row_of)) : Body P w K mg base N_sequence "sequence" s_sequence 4 f g_sequence := fun cdv A outer s H E hr => by
  have hu := room65 hr
  have hgd := hr.g
  exact gss_cons (gs_expr (ge_fnP C_look_writes hr (by decide) (ga_cons (ge_var 0) (ga_nil)))) (gss_cons (gs_expr (ge_fnP C_look_spare hr (by decide) (ga_cons (ge_var 0) (ga_cons (ge_var 1) (ga_nil))))) (gss_cons (gs_setDc (i := 2) (⟨rfl, nd_sequence, gi_seq (ge_var 0), blkOk_by (own := [("mark", 5), ("source", 6)]) (by rfl), fun _ _ _ _ _ => gg_tup rfl (ggs_cons (gg_name 5 nd_sequence) (ggs_cons (gg_name 6 nd_sequence) (ggs_nil))), fun _ _ _ _ _ => gts_one (gt_cmp (Gh.op_neS hu) og_neS (ge_var 5) (ge_var 6)), fun _ _ _ _ _ => ge_var 5⟩ : LcParts _ _ _ _ _ _ _ _ _ _ _) (⟨rfl, nd_sequence, gi_seq (ge_var 0), blkOk_by (own := [("mark", 5), ("source", 6)]) (by rfl), fun _ _ _ _ _ => gg_tup rfl (ggs_cons (gg_name 5 nd_sequence) (ggs_cons (gg_name 6 nd_sequence) (ggs_nil))), fun _ _ _ _ _ => gts_one (gt_cmp (Gh.op_neS hu) og_neS (ge_var 5) (ge_var 6)), fun _ _ _ _ _ => ge_var 6⟩ : LcParts _ _ _ _ _ _ _ _ _ _ _)) (gss_cons (gs_set (i := 3) nd_sequence (ge_dicN)) (gss_cons (gs_set (i := 4) nd_sequence (ge_new (ga_nil))) (gss_cons (gs_while 1000000 (passes_of rfl) (gt_cmp (Gh.op_neS hu) og_neS (ge_var 2) (ge_dicT)) (gss_cons (gs_set (i := 5) nd_sequence (ge_fnS C_next_free hr (by decide) (ga_cons (ge_var 2) (ga_nil)))) (gss_cons (gs_if (gt_isN (ge_var 5)) (gss_cons (gs_lock 2 (gs_set (i := 7) nd_sequence (ge_callB cr_sortedI cg_sorted T.fr_sorted (ga_cons (ge_lc (⟨rfl, nd_sequence, gi_keys (ge_var 2), blkOk_by (own := [("one", 8)]) (by rfl), fun _ _ _ _ _ => gg_name 8 nd_sequence, fun _ _ _ _ _ => gts_one (gt_cmp (Gh.op_inD hu) og_inD (ge_var 8) (ge_var 3)), fun _ _ _ _ _ => ge_var 8⟩ : LcParts _ _ _ _ _ _ _ _ _ _ _) finT_ok) (ga_nil))))) (gss_cons (gs_set (i := 5) nd_sequence (ge_if (gt_cmp (Gh.op_neS hu) og_neS (ge_var 7) (ge_lst (ga_nil))) (ge_ix (Gh.ix_D hu) og_ixD (ge_var 7) (ge_int)) (ge_callB (cr_minD (by rfl)) cg_minD T.fr_min (ga_cons (ge_var 2) (ga_nil))))) (gss_cons (gs_if (gt_cmp (Gh.op_eqS hu) og_eqS (ge_var 7) (ge_lst (ga_nil))) (gss_one (gs_expr (ge_append (ge_var 4) (ga_cons (ge_tup (ga_cons (ge_str) (ga_cons (ge_var 1) (ga_cons (ge_var 5) (ga_nil))))) (ga_nil))))) (gss_nil)) (gss_one (gs_set (i := 2) nd_sequence (ge_fnS C_redirected hr (by decide) (ga_cons (ge_var 2) (ga_cons (ge_var 5) (ga_cons (ge_get2 hu (ge_var 3) (ge_var 5) (ge_var 1)) (ga_nil)))))))))) (gss_nil)) (gss_cons (gs_set (i := 6) nd_sequence (ge_popD (ge_var 2) (ge_var 5))) (gss_cons (gs_expr (ge_append (ge_var 4) (ga_cons (ge_fnP C_row_of hr (by decide) (ga_cons (ge_var 5) (ga_cons (ge_var 6) (ga_nil)))) (ga_nil)))) (gss_one (gs_asg (own := []) (ge_var 5) (gg_sub (Gh.set_D hu) sg_D (ge_var 3) (ge_var 6))))))))) (gss_one (gs_ret (ge_var 4))))))))
abbrev s__law_told : Stmt := top 22
def N__law_told : List Str := ["_law_writes", "_law_spare", "e"]
theorem nd__law_told : N__law_told.Nodup := by decide +kernel
def tb0__law_told : GS := gRet (gFnP 2 f_sequence (gConsA (gVar 0) (gConsA (gVar 1) (gNilA))))
def hb0__law_told : GS := gRet (gTup (gConsA (gC (.str "spare")) (gConsA (gCall fRepr (gConsA (gFld cs_spare "spare" (gVar 2)) (gNilA))) (gConsA (gIsc k_NoWrites_NoStops (gVar 2)) (gNilA)))))
def hb1__law_told : GS := gRet (gTup (gConsA (gC (.str "writes")) (gConsA (gFld cs_at "at" (gVar 2)) (gConsA (gIsc k_NoSpare_NoStops (gVar 2)) (gNilA)))))
def g__law_told : GS := gTry tb0__law_told [⟨fun c => kx_NoWrites.lookup c, some 2, hb1__law_told⟩, ⟨fun c => kx_NoSpare.lookup c, some 2, hb0__law_told⟩]
def f__law_told : List D → PRes := runP 3 g__law_told
theorem sc__law_told : FnScope N__law_told ["_law_writes", "_law_spare"] (defScope s__law_told) := ⟨rfl, rfl, rfl, nd__law_told, rfl, by decide +kernel, by decide +kernel⟩
theorem b__law_told {f : Addr} (T : Txt K mg) (C_sequence : CalX P w K mg base 5 "sequence" (spP ⟨K, mg⟩ 2 f_sequence)) : Body P w K mg base N__law_told "_law_told" s__law_told 5 f g__law_told := fun cdv A outer s H E hr => by
  have hu := room65 hr
  have hgd := hr.g
  exact gss_one (gs_try rfl rfl rfl (fun pn xe hpo => gss_one (gs_ret (ge_fnP C_sequence hr (by decide) (ga_cons (ge_var 0) (ga_cons (ge_var 1) (ga_nil)))))) (.as 2 nd__law_told (T.ex_NoWrites.k) (fun _ _ => gss_one (gs_ret (ge_tup (ga_cons (ge_str) (ga_cons (ge_fld T.na_at (ge_var 2)) (ga_cons (ge_iscT T.fr_isinstance (ge_var 2) (.own (He.ga K "NoSpare") T.cl_NoSpare (by rfl) (by rfl) (by rfl) (.own (He.ga K "NoStops") T.cl_NoStops (by rfl) (by rfl) (by rfl) (.nil))) T.kt_NoSpare_NoStops) (ga_nil))))))) (.as 2 nd__law_told (T.ex_NoSpare.k) (fun _ _ => gss_one (gs_ret (ge_tup (ga_cons (ge_str) (ga_cons (ge_callB (Gh.call_reprA hgd hu) cg_repr T.fr_repr (ga_cons (ge_fld T.na_spare (ge_var 2)) (ga_nil))) (ga_cons (ge_iscT T.fr_isinstance (ge_var 2) (.own (He.ga K "NoWrites") T.cl_NoWrites (by rfl) (by rfl) (by rfl) (.own (He.ga K "NoStops") T.cl_NoStops (by rfl) (by rfl) (by rfl) (.nil))) T.kt_NoWrites_NoStops) (ga_nil))))))) (.nil))))
abbrev s__law_next : Stmt := top 19
def N__law_next : List Str := ["_law_source", "_law_many", "_law_prime", "_law_number", "_law_found"]
theorem nd__law_next : N__law_next.Nodup := by decide +kernel
def g__law_next : GS := gSeq (gIf (gTst (gBin (fI (iCmp fun i j => decide (j < i))) (gBin fIxD (gVar 0) (gC (.int 0))) (gC (.int 0)))) (gSeq (gAsg (gBin (fI iMod) (gCall fInt (gConsA (gBin fIxD (gVar 0) (gC (.int 0))) (gNilA))) (gVar 1)) (gNm 4)) (gSeq (gAsg (gBin (fI iDiv) (gBin fIxD (gVar 0) (gC (.int 0))) (gVar 1)) (gSb (gVar 0) (gC (.int 0)) fSetD)) (gRet (gVar 4)))) (gNil)) (gSeq (gAsg (gBin fAdd (gBin fIxD (gVar 0) (gC (.int 2))) (gC (.int 1))) (gSb (gVar 0) (gC (.int 2)) fSetD)) (gSeq (gAsg (gC (.int 2147483647)) (gNm 2)) (gSeq (gAsg (gBin (fI iMod) (gCall fInt (gConsA (gBin fAdd (gBin fAdd (gBin fIxD (gVar 0) (gC (.int 1))) (gBin (fI iMul) (gC (.int 104729)) (gBin fIxD (gVar 0) (gC (.int 2))))) (gC (.int 7919))) (gNilA))) (gVar 2)) (gNm 3)) (gSeq (gAsg (gBin (fI iMod) (gCall fInt (gConsA (gBin (fI iMul) (gVar 3) (gC (.int 48271))) (gNilA))) (gVar 2)) (gNm 3)) (gSeq (gAsg (gBin (fI iMod) (gCall fInt (gConsA (gBin (fI iMul) (gVar 3) (gBin fAdd (gBin (fI iDiv) (gVar 3) (gC (.int 1009))) (gC (.int 69621)))) (gNilA))) (gVar 2)) (gNm 3)) (gSeq (gAsg (gBin (fI iMod) (gCall fInt (gConsA (gBin (fI iMul) (gVar 3) (gBin fAdd (gBin (fI iDiv) (gVar 3) (gC (.int 2003))) (gC (.int 40692)))) (gNilA))) (gC (.int 2147483399))) (gNm 3)) (gRet (gBin (fI iMod) (gCall fInt (gConsA (gBin (fI iDiv) (gVar 3) (gC (.int 7))) (gNilA))) (gVar 1)))))))))
def f__law_next : List W → Hg → Res W := runS 5 g__law_next
theorem sc__law_next : FnScope N__law_next ["_law_source", "_law_many"] (defScope s__law_next) := ⟨rfl, rfl, rfl, nd__law_next, rfl, by decide +kernel, by decide +kernel⟩
theorem b__law_next {f : Addr} (T : Txt K mg)  : Body P w K mg base N__law_next "_law_next" s__law_next 0 f g__law_next := fun cdv A outer s H E hr => by
  have hu := room65 hr
  have hgd := hr.g
  exact gss_cons (gs_if (gt_cmp op_gt og_gt (ge_ix (Gh.ix_D hu) og_ixD (ge_var 0) (ge_int)) (ge_int)) (gss_cons (gs_set (i := 4) nd__law_next (ge_op op_mod og_mod (ge_callTy call_int1 cg_int T.fr_int (ga_cons (ge_ix (Gh.ix_D hu) og_ixD (ge_var 0) (ge_int)) (ga_nil))) (ge_var 1))) (gss_cons (gs_asg (own := []) (ge_op op_fdiv og_div (ge_ix (Gh.ix_D hu) og_ixD (ge_var 0) (ge_int)) (ge_var 1)) (gg_sub (Gh.set_D hu) sg_D (ge_var 0) (ge_int))) (gss_one (gs_ret (ge_var 4))))) (gss_nil)) (gss_cons (gs_asg (own := []) (ge_op op_addA og_add (ge_ix (Gh.ix_D hu) og_ixD (ge_var 0) (ge_int)) (ge_int)) (gg_sub (Gh.set_D hu) sg_D (ge_var 0) (ge_int))) (gss_cons (gs_set (i := 2) nd__law_next (ge_int)) (gss_cons (gs_set (i := 3) nd__law_next (ge_op op_mod og_mod (ge_callTy call_int1 cg_int T.fr_int (ga_cons (ge_op op_addA og_add (ge_op op_addA og_add (ge_ix (Gh.ix_D hu) og_ixD (ge_var 0) (ge_int)) (ge_op op_mul og_mul (ge_int) (ge_ix (Gh.ix_D hu) og_ixD (ge_var 0) (ge_int)))) (ge_int)) (ga_nil))) (ge_var 2))) (gss_cons (gs_set (i := 3) nd__law_next (ge_op op_mod og_mod (ge_callTy call_int1 cg_int T.fr_int (ga_cons (ge_op op_mul og_mul (ge_var 3) (ge_int)) (ga_nil))) (ge_var 2))) (gss_cons (gs_set (i := 3) nd__law_next (ge_op op_mod og_mod (ge_callTy call_int1 cg_int T.fr_int (ga_cons (ge_op op_mul og_mul (ge_var 3) (ge_op op_addA og_add (ge_op op_fdiv og_div (ge_var 3) (ge_int)) (ge_int))) (ga_nil))) (ge_var 2))) (gss_cons (gs_set (i := 3) nd__law_next (ge_op op_mod og_mod (ge_callTy call_int1 cg_int T.fr_int (ga_cons (ge_op op_mul og_mul (ge_var 3) (ge_op op_addA og_add (ge_op op_fdiv og_div (ge_var 3) (ge_int)) (ge_int))) (ga_nil))) (ge_int))) (gss_one (gs_ret (ge_op op_mod og_mod (ge_callTy call_int1 cg_int T.fr_int (ga_cons (ge_op op_fdiv og_div (ge_var 3) (ge_int)) (ga_nil))) (ge_var 1))))))))))
abbrev s__law_mixed : Stmt := top 21
def N__law_mixed : List Str := ["_law_source", "_law_some", "_law_left", "_law_found"]
theorem nd__law_mixed : N__law_mixed.Nodup := by decide +kernel
def wc0__law_mixed : GT := gTst (gBin (fEqS true) (gVar 2) (gLst (gNilA)))
def wb0__law_mixed : GS := gExpr (gMt .lst fAppend (gVar 3) (gConsA (gMt .lst fPop (gVar 2) (gConsA (gFnS 2 f__law_next (gConsA (gVar 0) (gConsA (gCall fLenD (gConsA (gVar 2) (gNilA))) (gNilA)))) (gNilA))) (gNilA)))
def g__law_mixed : GS := gSeq (gAsg (gCall fListDN (gConsA (gVar 1) (gNilA))) (gNm 2)) (gSeq (gAsg (gNew (gNilA)) (gNm 3)) (gSeq (whileN (wc0__law_mixed) (wb0__law_mixed) 1000000) (gRet (gVar 3))))
def f__law_mixed : List W → Hg → Res W := runS 4 g__law_mixed
theorem sc__law_mixed : FnScope N__law_mixed ["_law_source", "_law_some"] (defScope s__law_mixed) := ⟨rfl, rfl, rfl, nd__law_mixed, rfl, by decide +kernel, by decide +kernel⟩
theorem b__law_mixed {f : Addr} (T : Txt K mg) (C__law_next : CalX P w K mg base 1 "_law_next" (spS ⟨K, mg⟩ 2 f__law_next)) : Body P w K mg base N__law_mixed "_law_mixed" s__law_mixed 1 f g__law_mixed := fun cdv A outer s H E hr => by
  have hu := room65 hr
  have hgd := hr.g
  exact gss_cons (gs_set (i := 2) nd__law_mixed (ge_callTy (Gh.call_listD (by rfl)) cg_listDN T.fr_list (ga_cons (ge_var 1) (ga_nil)))) (gss_cons (gs_set (i := 3) nd__law_mixed (ge_new (ga_nil))) (gss_cons (gs_while 1000000 (passes_of rfl) (gt_cmp (Gh.op_neS hu) og_neS (ge_var 2) (ge_lst (ga_nil))) (gss_one (gs_expr (ge_append (ge_var 3) (ga_cons (ge_popAt (ge_var 2) (ga_cons (ge_fnS C__law_next hr (by decide) (ga_cons (ge_var 0) (ga_cons (ge_callB Gh.call_lenD cg_lenD T.fr_len (ga_cons (ge_var 2) (ga_nil))) (ga_nil)))) (ga_nil))) (ga_nil)))))) (gss_one (gs_ret (ge_var 3)))))
abbrev s__law_one : Stmt := top 20
def N__law_one : List Str := ["_law_source", "_law_some"]
theorem nd__law_one : N__law_one.Nodup := by decide +kernel
def g__law_one : GS := gRet (gBin fIxD (gVar 1) (gFnS 2 f__law_next (gConsA (gVar 0) (gConsA (gCall fLenD (gConsA (gVar 1) (gNilA))) (gNilA)))))
def f__law_one : List W → Hg → Res W := runS 2 g__law_one
theorem sc__law_one : FnScope N__law_one ["_law_source", "_law_some"] (defScope s__law_one) := ⟨rfl, rfl, rfl, nd__law_one, rfl, by decide +kernel, by decide +kernel⟩
theorem b__law_one {f : Addr} (T : Txt K mg) (C__law_next : CalX P w K mg base 1 "_law_next" (spS ⟨K, mg⟩ 2 f__law_next)) : Body P w K mg base N__law_one "_law_one" s__law_one 1 f g__law_one := fun cdv A outer s H E hr => by
  have hu := room65 hr
  have hgd := hr.g
  exact gss_one (gs_ret (ge_ix (Gh.ix_D hu) og_ixD (ge_var 1) (ge_fnS C__law_next hr (by decide) (ga_cons (ge_var 0) (ga_cons (ge_callB Gh.call_lenD cg_lenD T.fr_len (ga_cons (ge_var 1) (ga_nil))) (ga_nil))))))
abbrev s_law : Stmt := top 23
def N_law : List Str := ["_law_script", "_law_cell", "_law_great", "_law_source", "_law_marks", "_law_good", "_law_odd", "_law_value", "_law_used", "_law_spare", "_law_at", "_law_bad", "_law_kept", "_law_mark", "_law_write"]
theorem nd_law : N_law.Nodup := by decide +kernel
def le0_law : GE := gTup (gConsA (gVar 13) (gConsA (gFnS 2 f__law_one (gConsA (gVar 3) (gConsA (gLst (gConsA (gC (.str "on")) (gConsA (gC (.str "off")) (gConsA (gVar 13) (gConsA (gC (.int 3)) (gConsA (gC (.int 8)) (gNilA))))))) (gNilA)))) (gNilA)))
def fb0_law : GS := gIf (gOr (gTst (gBin (fEqS true) (gFnP 2 f__law_told (gConsA (gVar 11) (gConsA (gVar 9) (gNilA)))) (gTup (gConsA (gC (.str "writes")) (gConsA (gVar 10) (gConsA (gC (.bl false)) (gNilA))))))) (gTst (gBin (fEqS true) (gCall fRepr (gConsA (gVar 11) (gNilA))) (gVar 12)))) (gRet (gC (.bl false))) (gNil)
def fb1_law : GS := gSeq (gAsg (gIfE (gAnd (gTst (gBin (fEqS true) (gVar 7) (gBin fIxD (gVar 5) (gC (.int 0))))) (gTst (gBin (fEqS true) (gVar 7) (gTup (gConsA (gBin fIxD (gBin fIxD (gVar 5) (gC (.int 0))) (gC (.int 0))) (gConsA (gC (.str "off")) (gNilA))))))) (gFnS 2 f__law_next (gConsA (gVar 3) (gConsA (gBin fAdd (gCall fLenD (gConsA (gVar 5) (gNilA))) (gC (.int 1))) (gNilA)))) (gCall fLenD (gConsA (gVar 5) (gNilA)))) (gNm 10)) (gSeq (gAsg (gBin fAdd (gBin fAdd (gBin fAdd (gSlice (gVar 5) (gNoP) (gPt (gVar 10))) (gLst (gConsA (gVar 7) (gNilA)))) (gSlice (gVar 5) (gPt (gVar 10)) (gNoP))) (gRep (gConsA (gC .non) (gNilA)) (gFnS 2 f__law_next (gConsA (gVar 3) (gConsA (gC (.int 2)) (gNilA)))))) (gNm 11)) (gSeq (gAsg (gCall fRepr (gConsA (gVar 11) (gNilA))) (gNm 12)) (gFor (gSeqI (gTup (gConsA (gC (.int 30)) (gConsA (gC .non) (gConsA (gBin fIxD (gVar 4) (gC (.int 0))) (gNilA)))))) (gNm 9) (fb0_law))))
def fb2_law : GS := gIf (gTst (gBin (fEqS true) (gFnP 2 f__law_told (gConsA (gVar 7) (gConsA (gC (.int 30)) (gNilA)))) (gTup (gConsA (gC (.str "writes")) (gConsA (gNeg (gC (.int 1))) (gConsA (gC (.bl false)) (gNilA))))))) (gRet (gC (.bl false))) (gNil)
def lt0_law : GT := gNot (gTst (gIsc k_str (gBin fIxD (gVar 14) (gC (.int 1)))))
def le1_law : GE := gBin fIxD (gVar 14) (gC (.int 1))
def fb3_law : GS := gIf (gTst (gBin (fEqS true) (gFnP 2 f__law_told (gConsA (gVar 5) (gConsA (gVar 9) (gNilA)))) (gTup (gConsA (gC (.str "spare")) (gConsA (gCall fRepr (gConsA (gVar 9) (gNilA))) (gConsA (gC (.bl false)) (gNilA))))))) (gRet (gC (.bl false))) (gNil)
def fb4_law : GS := gSeq (gAsg (gFnS 1 f__law_source_of (gConsA (gVar 1) (gNilA))) (gNm 3)) (gSeq (gAsg (gSlice (gFnS 2 f__law_mixed (gConsA (gVar 3) (gConsA (gListRg1 false (gC (.int 9))) (gNilA)))) (gNoP) (gPt (gBin fAdd (gC (.int 1)) (gFnS 2 f__law_next (gConsA (gVar 3) (gConsA (gC (.int 6)) (gNilA))))))) (gNm 4)) (gSeq (gAsg (fun ρ G => (gLcW (gSeqI (gVar 4)) [13] (gNm 13) (gYes) (le0_law) ρ G).bind finT) (gNm 5)) (gSeq (gAsg (gLst (gConsA (gC .non) (gConsA (gC (.int 5)) (gConsA (gC (.str "on")) (gConsA (gTup (gNilA)) (gConsA (gTup (gConsA (gC (.int 1)) (gNilA))) (gConsA (gTup (gConsA (gNeg (gC (.int 1))) (gConsA (gC (.str "on")) (gNilA)))) (gConsA (gTup (gConsA (gC (.bl true)) (gConsA (gC (.str "on")) (gNilA)))) (gConsA (gTup (gConsA (gC (.int 20)) (gConsA (gC (.str "On")) (gNilA)))) (gConsA (gTup (gConsA (gC (.int 20)) (gConsA (gC .non) (gNilA)))) (gConsA (gTup (gConsA (gC (.int 20)) (gConsA (gNeg (gC (.int 1))) (gNilA)))) (gConsA (gTup (gConsA (gC (.int 20)) (gConsA (gC (.bl true)) (gNilA)))) (gNilA))))))))))))) (gNm 6)) (gSeq (gAsg (gBin fAdd (gVar 6) (gLst (gConsA (gLst (gConsA (gC (.int 20)) (gConsA (gC (.str "on")) (gNilA)))) (gConsA (gTup (gConsA (gC (.int 20)) (gConsA (gC (.str "on")) (gConsA (gC (.int 1)) (gNilA))))) (gConsA (gTup (gConsA (gC (.str "on")) (gConsA (gC (.int 20)) (gNilA)))) (gConsA (gTup (gConsA (gC (.int 20)) (gConsA (gLst (gConsA (gC (.int 1)) (gNilA))) (gNilA)))) (gConsA (gTup (gConsA (gC (.int 20)) (gConsA (gTup (gConsA (gC (.str "on")) (gNilA))) (gNilA)))) (gConsA (gBin fIxD (gVar 5) (gC (.int 0))) (gConsA (gTup (gConsA (gBin fIxD (gBin fIxD (gVar 5) (gC (.int 0))) (gC (.int 0))) (gConsA (gC (.str "off")) (gNilA)))) (gNilA)))))))))) (gNm 6)) (gSeq (gFor (gSeqI (gVar 6)) (gNm 7) (fb1_law)) (gSeq (gFor (gSeqI (gTup (gConsA (gC .non) (gConsA (gC (.int 5)) (gConsA (gC (.str "on")) (gConsA (gDicT) (gConsA (gDictC false (gVar 5)) (gNilA)))))))) (gNm 7) (fb2_law)) (gSeq (gAsg (fun ρ G => (gLcW (gSeqI (gVar 5)) [14] (gNm 14) (lt0_law) (le1_law) ρ G).bind finT) (gNm 8)) (gFor (gSeqI (gBin fAdd (gBin fAdd (gLst (gConsA (gC .non) (gConsA (gNeg (gC (.int 1))) (gConsA (gC (.bl true)) (gConsA (gC (.str "on")) (gConsA (gC (.str "3")) (gConsA (gLst (gNilA)) (gConsA (gDicT) (gConsA (gTup (gConsA (gC (.int 30)) (gNilA))) (gNilA)))))))))) (gVar 4)) (gVar 8))) (gNm 9) (fb3_law)))))))))
def g_law : GS := gSeq (gFor (gSeqI (gSlice (gBin fAdd (gVar 0) (gLst (gConsA (gC (.int 0)) (gConsA (gC (.int 1)) (gConsA (gC (.int 2)) (gNilA)))))) (gNoP) (gPt (gC (.int 10))))) (gNm 1) (fb4_law)) (gSeq (gIf (gOr (gTst (gBin (fEqS true) (gFnP 2 f__law_told (gConsA (gLst (gNilA)) (gConsA (gC (.int 0)) (gNilA)))) (gLst (gNilA)))) (gTst (gBin (fEqS true) (gFnP 2 f__law_told (gConsA (gLst (gConsA (gTup (gConsA (gC (.int 4)) (gConsA (gC (.int 4)) (gNilA)))) (gNilA))) (gConsA (gC (.int 0)) (gNilA)))) (gLst (gNilA))))) (gRet (gC (.bl false))) (gNil)) (gSeq (gAsg (gBin fAdd (gBin (fI iPow) (gC (.int 10)) (gC (.int 29))) (gC (.int 7))) (gNm 2)) (gSeq (gIf (gTst (gBin (fEqS true) (gFnP 2 f__law_told (gConsA (gLst (gConsA (gTup (gConsA (gVar 2) (gConsA (gC (.str "on")) (gNilA)))) (gConsA (gTup (gConsA (gC (.int 0)) (gConsA (gVar 2) (gNilA)))) (gNilA)))) (gConsA (gBin (fI iPow) (gC (.int 10)) (gC (.int 28))) (gNilA)))) (gLst (gConsA (gTup (gConsA (gC (.str "copy")) (gConsA (gC (.int 0)) (gConsA (gVar 2) (gNilA))))) (gConsA (gTup (gConsA (gC (.str "on")) (gConsA (gVar 2) (gNilA)))) (gNilA)))))) (gRet (gC (.bl false))) (gNil)) (gRet (gBin (fEqS false) (gFnP 2 f__law_told (gConsA (gLst (gConsA (gTup (gConsA (gC (.int 4)) (gConsA (gC (.int 4)) (gNilA)))) (gNilA))) (gConsA (gC (.int 4)) (gNilA)))) (gTup (gConsA (gC (.str "spare")) (gConsA (gC (.str "4")) (gConsA (gC (.bl false)) (gNilA))))))))))
def f_law : List D → PRes := runP 15 g_law
theorem sc_law : FnScope N_law ["_law_script"] (defScope s_law) := ⟨rfl, rfl, rfl, nd_law, rfl, by decide +kernel, by decide +kernel⟩
theorem b_law {f : Addr} (T : Txt K mg) (C__law_mixed : CalX P w K mg base 2 "_law_mixed" (spS ⟨K, mg⟩ 2 f__law_mixed)) (C__law_next : CalX P w K mg base 1 "_law_next" (spS ⟨K, mg⟩ 2 f__law_next)) (C__law_one : CalX P w K mg base 2 "_law_one" (spS ⟨K, mg⟩ 2 f__law_one)) (C__law_source_of : CalX P w K mg base 1 "_law_source_of" (spS ⟨K, mg⟩ 1 f__law_source_of)) (C__law_told : CalX P w K mg base 6 "_law_told" (spP ⟨K, mg⟩ 2 f__law_told)) : Body P w K mg base N_law "law" s_law 6 f g_law := fun cdv A outer s H E hr => by
  have hu := room65 hr
  have hgd := hr.g
  exact gss_cons (gs_for (own := [1]) (passes_of rfl) rfl (gi_seq (ge_slice (ge_op op_addA og_add (ge_var 0) (ge_lst (ga_cons (ge_int) (ga_cons (ge_int) (ga_cons (ge_int) (ga_nil)))))) (gp_none) (gp_some (ge_int)))) (gg_name 1 nd_law) (gss_cons (gs_set (i := 3) nd_law (ge_fnS C__law_source_of hr (by decide) (ga_cons (ge_var 1) (ga_nil)))) (gss_cons (gs_set (i := 4) nd_law (ge_slice (ge_fnS C__law_mixed hr (by decide) (ga_cons (ge_var 3) (ga_cons (ge_listRg1 false T.fr_list T.fr_range (by rfl) (ge_int)) (ga_nil)))) (gp_none) (gp_some (ge_op op_addA og_add (ge_int) (ge_fnS C__law_next hr (by decide) (ga_cons (ge_var 3) (ga_cons (ge_int) (ga_nil)))))))) (gss_cons (gs_setLc (i := 5) (⟨rfl, nd_law, gi_seq (ge_var 4), blkOk_by (own := [("_law_mark", 13)]) (by rfl), fun _ _ _ _ _ => gg_name 13 nd_law, fun _ _ _ _ _ => gts_nil, fun _ _ _ _ _ => ge_tup (ga_cons (ge_var 13) (ga_cons (ge_fnS C__law_one hr (by decide) (ga_cons (ge_var 3) (ga_cons (ge_lst (ga_cons (ge_str) (ga_cons (ge_str) (ga_cons (ge_var 13) (ga_cons (ge_int) (ga_cons (ge_int) (ga_nil))))))) (ga_nil)))) (ga_nil)))⟩ : LcParts _ _ _ _ _ _ _ _ _ _ _) finT_ok) (gss_cons (gs_set (i := 6) nd_law (ge_lst (ga_cons (ge_non) (ga_cons (ge_int) (ga_cons (ge_str) (ga_cons (ge_tup (ga_nil)) (ga_cons (ge_tup (ga_cons (ge_int) (ga_nil))) (ga_cons (ge_tup (ga_cons (ge_neg (ge_int)) (ga_cons (ge_str) (ga_nil)))) (ga_cons (ge_tup (ga_cons (ge_bl) (ga_cons (ge_str) (ga_nil)))) (ga_cons (ge_tup (ga_cons (ge_int) (ga_cons (ge_str) (ga_nil)))) (ga_cons (ge_tup (ga_cons (ge_int) (ga_cons (ge_non) (ga_nil)))) (ga_cons (ge_tup (ga_cons (ge_int) (ga_cons (ge_neg (ge_int)) (ga_nil)))) (ga_cons (ge_tup (ga_cons (ge_int) (ga_cons (ge_bl) (ga_nil)))) (ga_nil)))))))))))))) (gss_cons (gs_set (i := 6) nd_law (ge_op op_addA og_add (ge_var 6) (ge_lst (ga_cons (ge_lst (ga_cons (ge_int) (ga_cons (ge_str) (ga_nil)))) (ga_cons (ge_tup (ga_cons (ge_int) (ga_cons (ge_str) (ga_cons (ge_int) (ga_nil))))) (ga_cons (ge_tup (ga_cons (ge_str) (ga_cons (ge_int) (ga_nil)))) (ga_cons (ge_tup (ga_cons (ge_int) (ga_cons (ge_lst (ga_cons (ge_int) (ga_nil))) (ga_nil)))) (ga_cons (ge_tup (ga_cons (ge_int) (ga_cons (ge_tup (ga_cons (ge_str) (ga_nil))) (ga_nil)))) (ga_cons (ge_ix (Gh.ix_D hu) og_ixD (ge_var 5) (ge_int)) (ga_cons (ge_tup (ga_cons (ge_ix (Gh.ix_D hu) og_ixD (ge_ix (Gh.ix_D hu) og_ixD (ge_var 5) (ge_int)) (ge_int)) (ga_cons (ge_str) (ga_nil)))) (ga_nil))))))))))) (gss_cons (gs_for (own := [7]) (passes_of rfl) rfl (gi_seq (ge_var 6)) (gg_name 7 nd_law) (gss_cons (gs_set (i := 10) nd_law (ge_if ((gw_and (gt_cmp (Gh.op_neS hu) og_neS (ge_var 7) (ge_ix (Gh.ix_D hu) og_ixD (ge_var 5) (ge_int))) (gw_and1 (gt_cmp (Gh.op_neS hu) og_neS (ge_var 7) (ge_tup (ga_cons (ge_ix (Gh.ix_D hu) og_ixD (ge_ix (Gh.ix_D hu) og_ixD (ge_var 5) (ge_int)) (ge_int)) (ga_cons (ge_str) (ga_nil))))))).pt) (ge_fnS C__law_next hr (by decide) (ga_cons (ge_var 3) (ga_cons (ge_op op_addA og_add (ge_callB Gh.call_lenD cg_lenD T.fr_len (ga_cons (ge_var 5) (ga_nil))) (ge_int)) (ga_nil)))) (ge_callB Gh.call_lenD cg_lenD T.fr_len (ga_cons (ge_var 5) (ga_nil))))) (gss_cons (gs_set (i := 11) nd_law (ge_op op_addA og_add (ge_op op_addA og_add (ge_op op_addA og_add (ge_slice (ge_var 5) (gp_none) (gp_some (ge_var 10))) (ge_lst (ga_cons (ge_var 7) (ga_nil)))) (ge_slice (ge_var 5) (gp_some (ge_var 10)) (gp_none))) (ge_rep (ga_cons (ge_non) (ga_nil)) (ge_fnS C__law_next hr (by decide) (ga_cons (ge_var 3) (ga_cons (ge_int) (ga_nil))))))) (gss_cons (gs_set (i := 12) nd_law (ge_callB (Gh.call_reprA hgd hu) cg_repr T.fr_repr (ga_cons (ge_var 11) (ga_nil)))) (gss_one (gs_for (own := [9]) (passes_of rfl) rfl (gi_seq (ge_tup (ga_cons (ge_int) (ga_cons (ge_non) (ga_cons (ge_ix (Gh.ix_D hu) og_ixD (ge_var 4) (ge_int)) (ga_nil)))))) (gg_name 9 nd_law) (gss_one (gs_if ((gw_or (gt_cmp (Gh.op_neS hu) og_neS (ge_fnP C__law_told hr (by decide) (ga_cons (ge_var 11) (ga_cons (ge_var 9) (ga_nil)))) (ge_tup (ga_cons (ge_str) (ga_cons (ge_var 10) (ga_cons (ge_bl) (ga_nil)))))) (gw_or1 (gt_cmp (Gh.op_neS hu) og_neS (ge_callB (Gh.call_reprA hgd hu) cg_repr T.fr_repr (ga_cons (ge_var 11) (ga_nil))) (ge_var 12)))).pt) (gss_one (gs_ret (ge_bl))) (gss_nil))))))))) (gss_cons (gs_for (own := [7]) (passes_of rfl) rfl (gi_seq (ge_tup (ga_cons (ge_non) (ga_cons (ge_int) (ga_cons (ge_str) (ga_cons (ge_dicT) (ga_cons (ge_dictC false T.fr_dict (by rfl) (ge_var 5)) (ga_nil)))))))) (gg_name 7 nd_law) (gss_one (gs_if (gt_cmp (Gh.op_neS hu) og_neS (ge_fnP C__law_told hr (by decide) (ga_cons (ge_var 7) (ga_cons (ge_int) (ga_nil)))) (ge_tup (ga_cons (ge_str) (ga_cons (ge_neg (ge_int)) (ga_cons (ge_bl) (ga_nil)))))) (gss_one (gs_ret (ge_bl))) (gss_nil)))) (gss_cons (gs_setLc (i := 8) (⟨rfl, nd_law, gi_seq (ge_var 5), blkOk_by (own := [("_law_write", 14)]) (by rfl), fun _ _ _ _ _ => gg_name 14 nd_law, fun _ _ _ _ _ => gts_one (gt_not (gt_val (ge_isc T.fr_isinstance (ge_ix (Gh.ix_D hu) og_ixD (ge_var 14) (ge_int)) (.ty "str" (by decide +kernel) T.fr_str (by rfl) (by decide) (by decide) (by rfl) (.nil)) T.kt_str))), fun _ _ _ _ _ => ge_ix (Gh.ix_D hu) og_ixD (ge_var 14) (ge_int)⟩ : LcParts _ _ _ _ _ _ _ _ _ _ _) finT_ok) (gss_one (gs_for (own := [9]) (passes_of rfl) rfl (gi_seq (ge_op op_addA og_add (ge_op op_addA og_add (ge_lst (ga_cons (ge_non) (ga_cons (ge_neg (ge_int)) (ga_cons (ge_bl) (ga_cons (ge_str) (ga_cons (ge_str) (ga_cons (ge_lst (ga_nil)) (ga_cons (ge_dicT) (ga_cons (ge_tup (ga_cons (ge_int) (ga_nil))) (ga_nil)))))))))) (ge_var 4)) (ge_var 8))) (gg_name 9 nd_law) (gss_one (gs_if (gt_cmp (Gh.op_neS hu) og_neS (ge_fnP C__law_told hr (by decide) (ga_cons (ge_var 5) (ga_cons (ge_var 9) (ga_nil)))) (ge_tup (ga_cons (ge_str) (ga_cons (ge_callB (Gh.call_reprA hgd hu) cg_repr T.fr_repr (ga_cons (ge_var 9) (ga_nil))) (ga_cons (ge_bl) (ga_nil)))))) (gss_one (gs_ret (ge_bl))) (gss_nil)))))))))))))) (gss_cons (gs_if ((gw_or (gt_cmp (Gh.op_neS hu) og_neS (ge_fnP C__law_told hr (by decide) (ga_cons (ge_lst (ga_nil)) (ga_cons (ge_int) (ga_nil)))) (ge_lst (ga_nil))) (gw_or1 (gt_cmp (Gh.op_neS hu) og_neS (ge_fnP C__law_told hr (by decide) (ga_cons (ge_lst (ga_cons (ge_tup (ga_cons (ge_int) (ga_cons (ge_int) (ga_nil)))) (ga_nil))) (ga_cons (ge_int) (ga_nil)))) (ge_lst (ga_nil))))).pt) (gss_one (gs_ret (ge_bl))) (gss_nil)) (gss_cons (gs_set (i := 2) nd_law (ge_op op_addA og_add (ge_op op_pow og_pow (ge_int) (ge_int)) (ge_int))) (gss_cons (gs_if (gt_cmp (Gh.op_neS hu) og_neS (ge_fnP C__law_told hr (by decide) (ga_cons (ge_lst (ga_cons (ge_tup (ga_cons (ge_var 2) (ga_cons (ge_str) (ga_nil)))) (ga_cons (ge_tup (ga_cons (ge_int) (ga_cons (ge_var 2) (ga_nil)))) (ga_nil)))) (ga_cons (ge_op op_pow og_pow (ge_int) (ge_int)) (ga_nil)))) (ge_lst (ga_cons (ge_tup (ga_cons (ge_str) (ga_cons (ge_int) (ga_cons (ge_var 2) (ga_nil))))) (ga_cons (ge_tup (ga_cons (ge_str) (ga_cons (ge_var 2) (ga_nil)))) (ga_nil))))) (gss_one (gs_ret (ge_bl))) (gss_nil)) (gss_one (gs_ret (ge_cmp (Gh.op_eqS hu) og_eqS (ge_fnP C__law_told hr (by decide) (ga_cons (ge_lst (ga_cons (ge_tup (ga_cons (ge_int) (ga_cons (ge_int) (ga_nil)))) (ga_nil))) (ga_cons (ge_int) (ga_nil)))) (ge_tup (ga_cons (ge_str) (ga_cons (ge_str) (ga_cons (ge_bl) (ga_nil)))))))))))
end
end K41

set_option Elab.async false
set_option linter.all false
set_option maxRecDepth 100000
set_option maxHeartbeats 8000000
namespace K41
open PySem PySem.Spec PyProof.Rows L2 Gh
local macro_rules | `(tactic| walk_at "gs") => `(tactic| simp only [*, e_ixR, ixO_lst, e_setR, setO_lst, decide_true, decide_false, ixN0, ixN2, List.length_cons, List.length_nil, List.length_set, List.getElem?_set, if_true, bind_ok, bind_exc, toS_ok, toS_exc, optR_some, optP_some, optS_some, oo_some, seqS_nx, seqS_ret, seqS_exc, e_var, e_C, e_bin, e_call, e_nilA, e_consA, e_tst, e_and, e_or, e_not, oB_some, e_andV, e_orV, e_notV, e_ifE, e_seq, e_nil, e_expr, e_ret, e_retN, e_if,
  e_asg, e_nm, sb2_ok, sb1_ok, e_sb, e_fnS, e_fI, e_add, e_int, e_intb, e_ixL, e_ixT, e_ixTW, atI_0, atI_1, atI_2, ixN1, asB, iSub, iAdd, iCmp, List.getElem?_cons_zero, List.getElem?_cons_succ, List.set_cons_zero, List.set_cons_succ, List.map_cons, List.map_nil, Option.map_some, Option.bind_some, cond_true, cond_false,
  e_new, e_lst, lstW_some, e_tup, e_mt, iffR_t, allD_nil, allD_cons, beq_self_eq_true, Bool.and_self, e_fnP, fnP_1, fnP_2, fnP_3, pR_ok, pR_exc, Bool.not_true, Bool.not_false, Bool.false_xor, Bool.true_xor])
/-! ### the checks -/
/-- a source: a constant or a mark -/
inductive Src : D → Prop
  | on : Src (.str "on")
  | off : Src (.str "off")
  | mk (k : Nat) (h : k < 9) : Src (.int (k : Int))
theorem isWrite_ok {m : Nat} {s : D} (h : Src s) : f_is_write [.tup [.int (m : Int), s]] = .ok (.bl true) := by
  cases h <;> kernel_rfl
theorem strOk_on : PyData.strOk (Str.ofString "on") = true := by decide +kernel
theorem strOk_off : PyData.strOk (Str.ofString "off") = true := by decide +kernel
theorem Src.ok {s : D} (h : Src s) : OkE s := by
  cases h
  · exact okE_str strOk_on
  · exact okE_str strOk_off
  · exact okE_int
/-- good writes, marks that are not among those seen -/
inductive Good : List Int → List D → Prop
  | nil {seen : List Int} : Good seen []
  | cons {seen : List Int} {m : Nat} {s : D} {r : List D} (h : (m : Int) ∉ seen) (hs : Src s) (g : Good (seen ++ [(m : Int)]) r) : Good seen (.tup [.int (m : Int), s] :: r)
theorem in_ints {seen : List Int} {x : Int} : inD (.int x) (seen.map D.int) = decide (x ∈ seen) := by
  unfold inD
  rw [Bool.eq_iff_iff]
  simp only [List.any_map, List.any_eq_true, Function.comp, eqD_int, beq_iff_eq, decide_eq_true_eq]
  exact ⟨fun ⟨y, h, e⟩ => e ▸ h, fun h => ⟨x, h, rfl⟩⟩
theorem fb_good {w0 w2 : Option W} {m : Nat} {s : D} {seen : List Int} (hs : Src s) (h : (m : Int) ∉ seen) (hl : seen.length < 1000) :
    fb0_look_writes [w0, some (.ref 0), w2, some (.d (.tup [.int (m : Int), s]))] [.lst ((seen.map D.int).map .d)] = .nx [w0, some (.ref 0), w2, some (.d (.tup [.int (m : Int), s]))] [.lst (((seen ++ [(m : Int)]).map D.int).map .d)] := by
  have h1 := isWrite_ok (m := m) hs
  have h2 : fInD false (.d (.int (m : Int))) (.ref 0) [.lst ((seen.map D.int).map .d)] = some (.d (.bl false), [.lst ((seen.map D.int).map .d)]) := by
    rw [inR_ok (ds := seen.map D.int) rfl okE_int (fun d hd => by obtain ⟨i, _, rfl⟩ := List.mem_map.mp hd; exact okE_int), in_ints, decide_eq_false h]
    rfl
  have h3 : fAppend (.ref 0) [.d (.int (m : Int))] [.lst ((seen.map D.int).map .d)] = some (.d .non, [.lst (((seen ++ [(m : Int)]).map D.int).map .d)]) := by
    rw [app_ok (ws := (seen.map D.int).map .d) rfl (by simp; omega)]
    simp
  have h4 : tyW (.ref 0) [.lst ((seen.map D.int).map .d)] = some .lst := rfl
  have h5 : noDic (.ref 0) [.lst ((seen.map D.int).map .d)] = true := rfl
  clear h hs
  unfold fb0_look_writes
  walk_at "gs"
theorem e_for {it : GI} {t : GTg} {b : GS} {ρ : GEnv} {G : Hg} : gFor it t b ρ G = (it ρ G).toS ρ fun p G' => forL t b p.2 p.1 ρ G' := rfl
/-- what a write's element is refused for -/
inductive Bad (seen : List Int) : D → Prop
  | no {v : D} (h : f_is_write [v] = .ok (.bl false)) : Bad seen v
  | again {m : Nat} {s : D} (hs : Src s) (h : (m : Int) ∈ seen) : Bad seen (.tup [.int (m : Int), s])
def pm : List D → List Int
  | .tup [.int m, _] :: r => m :: pm r
  | _ => []
theorem fb_bad {w0 w2 : Option W} {k : Int} {v : D} {seen : List Int} (hb : Bad seen v) : fb0_look_writes [w0, some (.ref 0), some (.d (.int k)), some (.d v)] [.lst ((seen.map D.int).map .d)] =
    .exc ⟨"NoWrites", [("at", .int k)]⟩ [w0, some (.ref 0), some (.d (.int k)), some (.d v)] [.lst ((seen.map D.int).map .d)] := by
  have rs : gRaise "NoWrites" ["at"] (gConsA (gVar 2) gNilA) [w0, some (.ref 0), some (.d (.int k)), some (.d v)] [.lst ((seen.map D.int).map .d)] = .exc ⟨"NoWrites", [("at", .int k)]⟩ [w0, some (.ref 0), some (.d (.int k)), some (.d v)] [.lst ((seen.map D.int).map .d)] := rfl
  cases hb with
  | no h =>
    unfold fb0_look_writes
    walk_at "gs"
  | @again m s hs h =>
    have h1 := isWrite_ok (m := m) hs
    have h2 : fInD false (.d (.int (m : Int))) (.ref 0) [.lst ((seen.map D.int).map .d)] = some (.d (.bl true), [.lst ((seen.map D.int).map .d)]) := by
      rw [inR_ok (ds := seen.map D.int) rfl okE_int (fun d hd => by obtain ⟨i, _, rfl⟩ := List.mem_map.mp hd; exact okE_int), in_ints, decide_eq_true h]
      rfl
    clear h hs
    unfold fb0_look_writes
    walk_at "gs"
theorem look_bad {w0 : Option W} {v : D} {post : List D} {ck : Hg → Bool} (hck : ∀ G, ck G = true) : ∀ (pre : List D) (seen : List Int) (k : Nat) (a b : Option W), Good seen pre → Bad (seen ++ pm pre) v → seen.length + pre.length < 1000 →
    ∃ ρ' G', forL (gTp [gNm 2, gNm 3]) fb0_look_writes ck (enumW k ((pre ++ v :: post).map .d)) [w0, some (.ref 0), a, b] [.lst ((seen.map D.int).map .d)] = .exc ⟨"NoWrites", [("at", .int ((k + pre.length : Nat) : Int))]⟩ ρ' G'
  | [], seen, k, a, b, _, hb, _ => by
    have hb' : Bad seen v := by simpa [pm] using hb
    exact ⟨_, _, forL_x (hck _) (ρ1 := [w0, some (.ref 0), some (.d (.int (k : Int))), some (.d v)]) rfl (fb_bad (w2 := none) hb')⟩
  | _ :: pre, seen, k, a, b, .cons (m := m) (s := s) h hs g, hb, hl => by
    simp only [List.length_cons] at hl
    obtain ⟨ρ', G', e⟩ := look_bad (w0 := w0) (post := post) hck pre (seen ++ [(m : Int)]) (k + 1) (some (.d (.int (k : Int)))) (some (.d (.tup [.int (m : Int), s]))) g (by simpa [pm] using hb) (by simp only [List.length_append, List.length_cons, List.length_nil]; omega)
    refine ⟨ρ', G', (forL_t (hck _) (ρ1 := [w0, some (.ref 0), some (.d (.int (k : Int))), some (.d (.tup [.int (m : Int), s]))]) rfl (fb_good hs h (by omega))).trans ?_⟩
    refine e.trans ?_
    simp only [List.length_cons]
    congr 5
    omega
theorem look_good {w0 : Option W} {ck : Hg → Bool} (hck : ∀ G, ck G = true) : ∀ (pre : List D) (seen : List Int) (k : Nat) (a b : Option W), Good seen pre → seen.length + pre.length < 1000 →
    ∃ ρ' G', forL (gTp [gNm 2, gNm 3]) fb0_look_writes ck (enumW k (pre.map .d)) [w0, some (.ref 0), a, b] [.lst ((seen.map D.int).map .d)] = .nx ρ' G'
  | [], seen, k, a, b, _, _ => ⟨_, _, forL_nil (hck _)⟩
  | _ :: pre, seen, k, a, b, .cons (m := m) (s := s) h hs g, hl => by
    simp only [List.length_cons] at hl
    obtain ⟨ρ', G', e⟩ := look_good (w0 := w0) hck pre (seen ++ [(m : Int)]) (k + 1) (some (.d (.int (k : Int)))) (some (.d (.tup [.int (m : Int), s]))) g (by simp only [List.length_append, List.length_cons, List.length_nil]; omega)
    exact ⟨ρ', G', (forL_t (hck _) (ρ1 := [w0, some (.ref 0), some (.d (.int (k : Int))), some (.d (.tup [.int (m : Int), s]))]) rfl (fb_good hs h (by omega))).trans e⟩
theorem lookWrites_bad {pre post : List D} {v : D} (g : Good [] pre) (hb : Bad (pm pre) v) (hl : pre.length < 1000) : f_look_writes [.lst (pre ++ v :: post)] = .exc ⟨"NoWrites", [("at", .int (pre.length : Int))]⟩ := by
  obtain ⟨ρ', G', e⟩ := look_bad (w0 := some (.d (.lst (pre ++ v :: post)))) (post := post) (ck := ckW (.d (.lst (pre ++ v :: post))) ((pre ++ v :: post).map .d)) (fun _ => rfl) pre [] 0 none none g (by simpa using hb) (by simpa using hl)
  have i1 : gIsc k_list_tuple (gVar 0) [some (.d (.lst (pre ++ v :: post))), none, none, none] [] = .ok (.d (.bl true)) [] := rfl
  have i2 : gEnumI (gConsA (gVar 0) gNilA) [some (.d (.lst (pre ++ v :: post))), some (.ref 0), none, none] [.lst []] = .ok (enumW 0 ((pre ++ v :: post).map .d), ckW (.d (.lst (pre ++ v :: post))) ((pre ++ v :: post).map .d)) [.lst []] := rfl
  have i3 : small 0 = true := rfl
  have key : g_look_writes [some (.d (.lst (pre ++ v :: post))), none, none, none] [] = .exc ⟨"NoWrites", [("at", .int (pre.length : Int))]⟩ ρ' G' := by
    have e' : forL (gTp [gNm 2, gNm 3]) fb0_look_writes (ckW (.d (.lst (pre ++ v :: post))) ((pre ++ v :: post).map .d)) (enumW 0 ((pre ++ v :: post).map .d)) [some (.d (.lst (pre ++ v :: post))), some (.ref 0), none, none] [.lst []] = .exc ⟨"NoWrites", [("at", .int (pre.length : Int))]⟩ ρ' G' := by simpa using e
    clear e hb g hl
    generalize (pre ++ v :: post).map W.d = L at *
    unfold g_look_writes
    simp only [i1, i2, i3, e', e_seq, e_if, e_not, e_tst, bind_ok, asB, optP_some, Bool.not_true, toS_ok, cond_false, e_nil, seqS_nx, e_asg, e_new, e_nilA, List.length_nil, iffR_t, e_nm, optS_some, List.set_cons_succ, List.set_cons_zero, List.nil_append, e_for]
  show runP 4 g_look_writes _ = _
  unfold runP
  have ee : envP 4 [D.lst (pre ++ v :: post)] = [some (.d (.lst (pre ++ v :: post))), none, none, none] := rfl
  rw [ee, key]
theorem lookWrites_good {pre : List D} (g : Good [] pre) (hl : pre.length < 1000) : f_look_writes [.lst pre] = .ok .non := by
  obtain ⟨ρ', G', e⟩ := look_good (w0 := some (.d (.lst pre))) (ck := ckW (.d (.lst pre)) (pre.map .d)) (fun _ => rfl) pre [] 0 none none g (by simpa using hl)
  have i1 : gIsc k_list_tuple (gVar 0) [some (.d (.lst pre)), none, none, none] [] = .ok (.d (.bl true)) [] := rfl
  have i2 : gEnumI (gConsA (gVar 0) gNilA) [some (.d (.lst pre)), some (.ref 0), none, none] [.lst []] = .ok (enumW 0 (pre.map .d), ckW (.d (.lst pre)) (pre.map .d)) [.lst []] := rfl
  have i3 : small 0 = true := rfl
  have key : g_look_writes [some (.d (.lst pre)), none, none, none] [] = .nx ρ' G' := by
    have e' : forL (gTp [gNm 2, gNm 3]) fb0_look_writes (ckW (.d (.lst pre)) (pre.map .d)) (enumW 0 (pre.map .d)) [some (.d (.lst pre)), some (.ref 0), none, none] [.lst []] = .nx ρ' G' := by simpa using e
    clear e g hl
    generalize pre.map W.d = L at *
    unfold g_look_writes
    simp only [i1, i2, i3, e', e_seq, e_if, e_not, e_tst, bind_ok, asB, optP_some, Bool.not_true, toS_ok, cond_false, e_nil, seqS_nx, e_asg, e_new, e_nilA, List.length_nil, iffR_t, e_nm, optS_some, List.set_cons_succ, List.set_cons_zero, List.nil_append, e_for]
  show runP 4 g_look_writes _ = _
  unfold runP
  have ee : envP 4 [D.lst pre] = [some (.d (.lst pre)), none, none, none] := rfl
  rw [ee, key]
theorem lookWrites_no {v : D} (h : gIsc k_list_tuple (gVar 0) [some (.d v), none, none, none] [] = .ok (.d (.bl false)) []) : f_look_writes [v] = .exc ⟨"NoWrites", [("at", .int (-1))]⟩ := by
  have rs : gRaise "NoWrites" ["at"] (gConsA (gNeg (gC (.int 1))) gNilA) [some (.d v), none, none, none] [] = .exc ⟨"NoWrites", [("at", .int (-1))]⟩ [some (.d v), none, none, none] [] := rfl
  have key : g_look_writes [some (.d v), none, none, none] [] = .exc ⟨"NoWrites", [("at", .int (-1))]⟩ [some (.d v), none, none, none] [] := by
    unfold g_look_writes
    walk_at "gs"
  show runP 4 g_look_writes _ = _
  unfold runP
  have ee : envP 4 [v] = [some (.d v), none, none, none] := rfl
  rw [ee, key]
/-! ### sequence, told -/
theorem seq_writes {d sp : D} {k : Int} (h : f_look_writes [d] = .exc ⟨"NoWrites", [("at", .int k)]⟩) : f_sequence [d, sp] = .exc ⟨"NoWrites", [("at", .int k)]⟩ := by
  have e : envP 9 [d, sp] = [some (.d d), some (.d sp), none, none, none, none, none, none, none] := rfl
  have key : g_sequence (envP 9 [d, sp]) [] = .exc ⟨"NoWrites", [("at", .int k)]⟩ [some (.d d), some (.d sp), none, none, none, none, none, none, none] [] := by
    rw [e]
    unfold g_sequence
    walk_at "gs"
  show runP 9 g_sequence _ = _
  unfold runP
  rw [key]
theorem seq_spare {d sp : D} (h : f_look_writes [d] = .ok .non) (h2 : f_look_spare [d, sp] = .exc ⟨"NoSpare", [("spare", sp)]⟩) : f_sequence [d, sp] = .exc ⟨"NoSpare", [("spare", sp)]⟩ := by
  have e : envP 9 [d, sp] = [some (.d d), some (.d sp), none, none, none, none, none, none, none] := rfl
  have key : g_sequence (envP 9 [d, sp]) [] = .exc ⟨"NoSpare", [("spare", sp)]⟩ [some (.d d), some (.d sp), none, none, none, none, none, none, none] [] := by
    rw [e]
    unfold g_sequence
    walk_at "gs"
  show runP 9 g_sequence _ = _
  unfold runP
  rw [key]
theorem told_writes {d sp : D} {k : Int} (h : f_look_writes [d] = .exc ⟨"NoWrites", [("at", .int k)]⟩) : f__law_told [d, sp] = .ok (.tup [.str "writes", .int k, .bl false]) := by
  have h1 := seq_writes (sp := sp) h
  have e : envP 3 [d, sp] = [some (.d d), some (.d sp), none] := rfl
  have key : tb0__law_told [some (.d d), some (.d sp), none] [] = .exc ⟨"NoWrites", [("at", .int k)]⟩ [some (.d d), some (.d sp), none] [] := by
    unfold tb0__law_told
    walk_at "gs"
  show runP 3 g__law_told _ = _
  unfold runP g__law_told gTry
  rw [e]
  simp only [key]
  rfl
theorem told_spare {d sp : D} {t : Str} (h : f_look_writes [d] = .ok .non) (h2 : f_look_spare [d, sp] = .exc ⟨"NoSpare", [("spare", sp)]⟩) (hr : ∀ G, fRepr [.d sp] G = some (.d (.str t), G)) : f__law_told [d, sp] = .ok (.tup [.str "spare", .str t, .bl false]) := by
  have h1 := seq_spare h h2
  have e : envP 3 [d, sp] = [some (.d d), some (.d sp), none] := rfl
  have key : tb0__law_told [some (.d d), some (.d sp), none] [] = .exc ⟨"NoSpare", [("spare", sp)]⟩ [some (.d d), some (.d sp), none] [] := by
    unfold tb0__law_told
    walk_at "gs"
  have f1 : gFld cs_spare "spare" (gVar 2) [some (.d d), some (.d sp), some (.d (.ins "NoSpare" [("spare", sp)]))] [] = .ok (.d sp) [] := rfl
  have f2 : gIsc k_NoWrites_NoStops (gVar 2) [some (.d d), some (.d sp), some (.d (.ins "NoSpare" [("spare", sp)]))] [] = .ok (.d (.bl false)) [] := rfl
  have s3 : small (0 + 1 + 1 + 1) = true := rfl
  have hs : hb0__law_told [some (.d d), some (.d sp), some (.d (.ins "NoSpare" [("spare", sp)]))] [] = .ret (.d (.tup [.str "spare", .str t, .bl false])) [] := by
    clear h h1 h2 key
    unfold hb0__law_told
    walk_at "gs"
    rfl
  show runP 3 g__law_told _ = _
  unfold runP g__law_told gTry
  rw [e]
  simp only [key]
  have e2 : gHds [⟨fun c => kx_NoWrites.lookup c, some 2, hb1__law_told⟩, ⟨fun c => kx_NoSpare.lookup c, some 2, hb0__law_told⟩] ⟨"NoSpare", [("spare", sp)]⟩ [some (.d d), some (.d sp), none] [] = unS (some 2) (hb0__law_told [some (.d d), some (.d sp), some (.d (.ins "NoSpare" [("spare", sp)]))] []) := rfl
  rw [e2, hs]
  rfl
/-! ### the spare mark -/
def wr (p : Nat × D) : D := .tup [.int (p.1 : Int), p.2]
theorem good_of : ∀ {ps : List (Nat × D)} {seen : List Int}, (∀ p ∈ ps, Src p.2) → (ps.map (·.1)).Nodup → (∀ p ∈ ps, (p.1 : Int) ∉ seen) → Good seen (ps.map wr)
  | [], _, _, _, _ => .nil
  | (m, s) :: ps, seen, hs, nd, hn => by
    simp only [List.map_cons, List.nodup_cons] at nd
    refine .cons (hn _ List.mem_cons_self) (hs _ List.mem_cons_self) (good_of (fun p hp => hs p (List.mem_cons_of_mem _ hp)) nd.2 fun p hp hm => ?_)
    rcases List.mem_append.mp hm with h | h
    · exact hn p (List.mem_cons_of_mem _ hp) h
    · have e0 : (p.1 : Int) = m := by simpa using h
      have e : p.1 = m := by omega
      exact nd.1 (List.mem_map.mpr ⟨p, hp, e⟩)
theorem pm_wr : ∀ ps : List (Nat × D), pm (ps.map wr) = ps.map fun p => (p.1 : Int)
  | [] => rfl
  | p :: ps => by simp only [List.map_cons, wr, pm, pm_wr ps]
theorem lookSpare_no {d sp : D} (h : f_is_mark [sp] = .ok (.bl false)) : f_look_spare [d, sp] = .exc ⟨"NoSpare", [("spare", sp)]⟩ := by
  have rs : gRaise "NoSpare" ["spare"] (gConsA (gVar 1) gNilA) [some (.d d), some (.d sp), none] [] = .exc ⟨"NoSpare", [("spare", sp)]⟩ [some (.d d), some (.d sp), none] [] := rfl
  have key : g_look_spare [some (.d d), some (.d sp), none] [] = .exc ⟨"NoSpare", [("spare", sp)]⟩ [some (.d d), some (.d sp), none] [] := by
    unfold g_look_spare
    walk_at "gs"
  show runP 3 g_look_spare _ = _
  unfold runP
  have ee : envP 3 [d, sp] = [some (.d d), some (.d sp), none] := rfl
  rw [ee, key]
theorem blsW_map : ∀ bs : List Bool, blsW (bs.map fun b => W.d (.bl b)) = some bs
  | [] => rfl
  | b :: bs => by rw [List.map_cons]; unfold blsW; rw [blsW_map bs]; rfl
theorem blW_d : ∀ bs : List Bool, (bs.map fun b => W.d (.bl b)) = (bs.map D.bl).map W.d
  | [] => rfl
  | b :: bs => by simp only [List.map_cons, blW_d bs]
theorem fm_wr {F : W → Option W} {g : Nat × D → Bool} (h : ∀ p, F (.d (wr p)) = some (.d (.bl (g p)))) : ∀ ps : List (Nat × D), ((ps.map wr).map W.d).filterMap F = (ps.map g).map fun b => W.d (.bl b)
  | [] => rfl
  | p :: ps => by simp only [List.map_cons, List.filterMap_cons, h, fm_wr h ps]
theorem lookSpare_in {ps : List (Nat × D)} {k : Nat} (hs : ∀ p ∈ ps, Src p.2) (h : ∃ p ∈ ps, p.1 = k ∨ p.2 = .int (k : Int)) (hl : ps.length < 1000) : f_look_spare [.lst (ps.map wr), .int (k : Int)] = .exc ⟨"NoSpare", [("spare", .int (k : Int))]⟩ := by
  have rs : gRaise "NoSpare" ["spare"] (gConsA (gVar 1) gNilA) [some (.d (.lst (ps.map wr))), some (.d (.int (k : Int))), none] [] = .exc ⟨"NoSpare", [("spare", .int (k : Int))]⟩ [some (.d (.lst (ps.map wr))), some (.d (.int (k : Int))), none] [] := rfl
  have hm : f_is_mark [.int (k : Int)] = .ok (.bl true) := rfl
  let bs := ps.map fun p => inD (.int (k : Int)) [.int (p.1 : Int), p.2]
  have hc : gLcW (gSeqI (gVar 0)) [2] (gNm 2) gYes le0_look_spare [some (.d (.lst (ps.map wr))), some (.d (.int (k : Int))), none] [] = .ok (bs.map fun b => W.d (.bl b)) [] := by
    have hi : gSeqI (gVar 0) [some (.d (.lst (ps.map wr))), some (.d (.int (k : Int))), none] [] = .ok ((ps.map wr).map .d, ckW (.d (.lst (ps.map wr))) ((ps.map wr).map .d)) [] := rfl
    unfold gLcW
    rw [hi, bind_ok]
    have e := lcL_on (t := gNm 2) (tt := gYes) (e := le0_look_spare) (ck := ckW (.d (.lst (ps.map wr))) ((ps.map wr).map .d)) (ρ0 := [some (.d (.lst (ps.map wr))), some (.d (.int (k : Int))), none]) (G := [])
      (fun w => match w with | .d (.tup ds) => some (.d (.bl (inD (.int (k : Int)) ds))) | _ => none) rfl ((ps.map wr).map .d) [] (fun w hw => ?_) (by simp; omega)
    · refine Eq.trans e ?_
      rw [List.nil_append]
      exact congrArg (fun l => Res.ok l []) (fm_wr (fun _ => rfl) ps)
    · obtain ⟨d, hd, rfl⟩ := List.mem_map.mp hw
      obtain ⟨p, hp, rfl⟩ := List.mem_map.mp hd
      refine ⟨_, rfl, .inr ⟨_, rfl, rfl, ?_⟩⟩
      have q := inT_ok (neg := false) (G := []) (x := .int (k : Int)) (ds := [.int (p.1 : Int), p.2]) okE_int (fun d hd => by
        simp only [List.mem_cons, List.not_mem_nil, or_false] at hd
        rcases hd with rfl | rfl
        · exact okE_int
        · exact (hs p hp).ok)
      have e1 : wr p = .tup [.int (p.1 : Int), p.2] := rfl
      rw [e1]
      unfold le0_look_spare
      walk_at "gs"
  have ha : fAny [.d (.lst (bs.map .bl))] [] = some (.d (.bl true), []) := by
    have e : fAny [.d (.lst (bs.map .bl))] [] = (blsW ((bs.map .bl).map .d)).map fun bs => (.d (.bl (bs.any id)), []) := rfl
    rw [e, List.map_map]
    have e2 := blsW_map bs
    have e3 : (W.d ∘ D.bl) = fun b => W.d (.bl b) := rfl
    rw [e3, e2, Option.map_some]
    have e4 : bs.any id = true := by
      obtain ⟨p, hp, hq⟩ := h
      refine List.any_eq_true.mpr ⟨_, List.mem_map.mpr ⟨p, hp, rfl⟩, ?_⟩
      show inD _ _ = true
      unfold inD
      rcases hq with rfl | hq
      · simp [eqD_int]
      · rw [hq]; simp [eqD_int]
    rw [e4]
  have hf : finT (bs.map fun b => W.d (.bl b)) [] = .ok (.d (.lst (bs.map .bl))) [] := by
    unfold finT
    rw [blW_d, mkLst_d]
  have key : g_look_spare [some (.d (.lst (ps.map wr))), some (.d (.int (k : Int))), none] [] = .exc ⟨"NoSpare", [("spare", .int (k : Int))]⟩ [some (.d (.lst (ps.map wr))), some (.d (.int (k : Int))), none] [] := by
    clear h hl hs
    clear_value bs
    generalize ps.map wr = L at *
    unfold g_look_spare
    walk_at "gs"
  show runP 3 g_look_spare _ = _
  unfold runP
  have ee : envP 3 [D.lst (ps.map wr), .int (k : Int)] = [some (.d (.lst (ps.map wr))), some (.d (.int (k : Int))), none] := rfl
  rw [ee, key]
end K41

set_option Elab.async false
set_option linter.all false
set_option maxRecDepth 100000
set_option maxHeartbeats 8000000
namespace K41
open PySem PySem.Spec PyProof.Rows L2 Gh
local macro_rules | `(tactic| walk_at "gs") => `(tactic| simp only [*, e_ixR, ixO_lst, e_setR, setO_lst, decide_true, decide_false, ixN0, ixN2, List.length_cons, List.length_nil, List.length_set, List.getElem?_set, if_true, bind_ok, bind_exc, toS_ok, toS_exc, optR_some, optP_some, optS_some, oo_some, seqS_nx, seqS_ret, seqS_exc, e_var, e_C, e_bin, e_call, e_nilA, e_consA, e_tst, e_and, e_or, e_not, oB_some, e_andV, e_orV, e_notV, e_ifE, e_seq, e_nil, e_expr, e_ret, e_retN, e_if,
  e_asg, e_nm, sb2_ok, sb1_ok, e_sb, e_fnS, e_fI, e_add, e_int, e_intb, e_ixL, e_ixT, e_ixTW, atI_0, atI_1, atI_2, ixN1, asB, iSub, iAdd, iCmp, List.getElem?_cons_zero, List.getElem?_cons_succ, List.set_cons_zero, List.set_cons_succ, List.map_cons, List.map_nil, Option.map_some, Option.bind_some, cond_true, cond_false,
  e_new, e_lst, lstW_some, e_tup, e_mt, iffR_t, allD_nil, allD_cons, beq_self_eq_true, Bool.and_self, e_fnP, fnP_1, fnP_2, fnP_3, pR_ok, pR_exc, Bool.not_true, Bool.not_false, Bool.false_xor, Bool.true_xor, e_slice, e_noP, e_pt, ptW_int, e_rep])
theorem next_eq : f__law_next = fNext := rfl
theorem mixed_eq : f__law_mixed = fMixed := rfl
theorem one_eq : f__law_one = fOne := rfl
theorem source_eq : f__law_source_of = fSource := rfl
/-! ### what is shown -/
theorem okR_wr {p : Nat × D} (h : p.1 < 9) (hs : Src p.2) : OkR (wr p) := by
  have a1 : ∀ m : Fin 9, okRb (.tup [.int ((m : Nat) : Int), .str "on"]) = true := by decide +kernel
  have a2 : ∀ m : Fin 9, okRb (.tup [.int ((m : Nat) : Int), .str "off"]) = true := by decide +kernel
  have a3 : ∀ m k : Fin 9, okRb (.tup [.int ((m : Nat) : Int), .int ((k : Nat) : Int)]) = true := by decide +kernel
  obtain ⟨m, s⟩ := p
  have hs' : Src s := hs
  have h' : m < 9 := h
  show OkR (.tup [.int (m : Int), s])
  cases hs' with
  | on => exact okRb_ok (a1 ⟨m, h'⟩)
  | off => exact okRb_ok (a2 ⟨m, h'⟩)
  | mk k hk => exact okRb_ok (a3 ⟨m, h'⟩ ⟨k, hk⟩)
/-- the writes at hand -/
structure Wrs (ps : List (Nat × D)) : Prop where
  ne : ps ≠ []
  len : ps.length ≤ 9
  lt : ∀ p ∈ ps, p.1 < 9
  src : ∀ p ∈ ps, Src p.2
  nd : (ps.map (·.1)).Nodup
theorem told_k {k : Int} : okD (.tup [.str "writes", .int k, .bl false]) = true := okD_tup fun d hd => by
  simp only [List.mem_cons, List.not_mem_nil, or_false] at hd
  rcases hd with rfl | rfl | rfl
  · exact okE_str (by decide +kernel)
  · exact okE_int
  · exact okE_bl
theorem tup3 {a b c : D} : mkTup [.d a, .d b, .d c] = .d (.tup [a, b, c]) := rfl
theorem tup2 {a b : D} : mkTup [.d a, .d b] = .d (.tup [a, b]) := rfl
theorem tup1 {a : D} : mkTup [.d a] = .d (.tup [a]) := rfl
theorem eq_told {k : Int} {G : Hg} : fEqS true (.d (.tup [.str "writes", .int k, .bl false])) (.d (.tup [.str "writes", .int k, .bl false])) G = some (.d (.bl false), G) := by
  rw [eq_ok told_k told_k (fun _ z => by cases z) (fun _ z => by cases z) (fun _ _ z => by cases z.1)]
  have e : eqD (.tup [.str "writes", .int k, .bl false]) (.tup [.str "writes", .int k, .bl false]) = true := by
    simp [eqD, toPy, toPyL, PyData.eqv, PyData.eqvAll]
  rw [e]
  rfl
theorem fb0_ok {ρ : GEnv} {G : Hg} {bad : List D} {sp : D} {k : Int} (h11 : ρ[11]? = some (some (.d (.lst bad)))) (h9 : ρ[9]? = some (some (.d sp))) (h10 : ρ[10]? = some (some (.d (.int k)))) (h12 : ρ[12]? = some (some (.d (.str (toPy (.lst bad)).shown))))
    (hw : f_look_writes [.lst bad] = .exc ⟨"NoWrites", [("at", .int k)]⟩) (hr : okR (toPy (.lst bad)) = true) : fb0_law ρ G = .nx ρ G := by
  have t1 := told_writes (sp := sp) hw
  have t2 := repr_ok (G := G) hr (fun z => by cases z)
  have t3 := eq_told (k := k) (G := G)
  have t4 : fEqS true (.d (.str (toPy (.lst bad)).shown)) (.d (.str (toPy (.lst bad)).shown)) G = some (.d (.bl false), G) := by rw [Gh.eq_str]; simp
  have s3 : small (0 + 1 + 1 + 1) = true := rfl
  generalize (toPy (.lst bad)).shown = T at *
  clear hr hw
  have m3 := @tup3
  unfold fb0_law
  walk_at "gs"
/-- the spare marks tried with a wrong row -/
theorem for0_ok {ρ : GEnv} {G : Hg} {bad : List D} {k m0 : Int} {marks : List D} (hl : ρ.length = 15) (h4 : ρ[4]? = some (some (.d (.lst (.int m0 :: marks))))) (h11 : ρ[11]? = some (some (.d (.lst bad)))) (h10 : ρ[10]? = some (some (.d (.int k)))) (h12 : ρ[12]? = some (some (.d (.str (toPy (.lst bad)).shown))))
    (hw : f_look_writes [.lst bad] = .exc ⟨"NoWrites", [("at", .int k)]⟩) (hr : okR (toPy (.lst bad)) = true) :
    ∃ ρ', gFor (gSeqI (gTup (gConsA (gC (.int 30)) (gConsA (gC .non) (gConsA (gBin fIxD (gVar 4) (gC (.int 0))) (gNilA)))))) (gNm 9) (fb0_law) ρ G = .nx ρ' G ∧ Ag [9] ρ ρ' := by
  have hi : gTup (gConsA (gC (.int 30)) (gConsA (gC .non) (gConsA (gBin fIxD (gVar 4) (gC (.int 0))) (gNilA)))) ρ G = .ok (.d (.tup [.int 30, .non, .int m0])) G := by
    have s3 : small (0 + 1 + 1 + 1) = true := rfl
    have m3 := @tup3
    clear hw hr h10 h11 h12
    walk_at "gs"
  have hq := e_seqI hi (b := false) (ws := [.d (.int 30), .d .non, .d (.int m0)]) rfl
  obtain ⟨ρ2, G2, e, ⟨rfl, ag⟩⟩ := forL_inv (t := gNm 9) (b := fb0_law) (ck := ckW (.d (.tup [.int 30, .non, .int m0])) [.d (.int 30), .d .non, .d (.int m0)]) (I := fun ρ' G' => G' = G ∧ Ag [9] ρ ρ') (P := fun w => ∃ d, w = .d d) (fun _ _ _ => rfl) (fun w ρ1 G1 hp ⟨hG, ag⟩ => by
    obtain ⟨d, rfl⟩ := hp
    have ag1 : Ag [9] ρ (ρ1.set 9 (some (.d d))) := ag.trans (.set (by simp))
    refine ⟨ρ1.set 9 (some (.d d)), G1, ρ1.set 9 (some (.d d)), G1, rfl, fb0_ok (ag1.at h11) (set_at (by rw [ag.le, hl]; decide)) (ag1.at h10) (ag1.at h12) hw hr, hG, ag1⟩) [.d (.int 30), .d .non, .d (.int m0)] ρ G (fun w hw => by
    simp only [List.mem_cons, List.not_mem_nil, or_false] at hw
    rcases hw with rfl | rfl | rfl <;> exact ⟨_, rfl⟩) ⟨rfl, .refl⟩
  refine ⟨ρ2, ?_, ag⟩
  rw [e_for, hq, toS_ok]
  exact e
/-! ### a wrong value is put in -/
/-- the source's state -/
def SrcAt (i : Nat) (G : Hg) : Prop := ∃ src, G[i]? = some (.lst src) ∧ SrcOk src ∧ NoL G
theorem SrcAt.next {i : Nat} {G : Hg} {m : Int} (h : SrcAt i G) (h0 : 0 < m) (h1 : m < 1073741824) : ∃ r G', 0 ≤ r ∧ r < m ∧ f__law_next [.ref i, .d (.int m)] G = .ok (.d (.int r)) G' ∧ SrcAt i G' ∧ Fr [i] G G' := by
  obtain ⟨src, h2, h3, h4⟩ := h
  obtain ⟨r, src', a, b, c, d⟩ := next_ok h2 h3 h0 h1
  exact ⟨r, _, a, b, d, ⟨src', List.getElem?_set_self (List.getElem?_eq_some_iff.mp h2).1, c, h4.set i rfl⟩, .set (by simp)⟩
/-- what may be put in: no write, or a write of the first mark -/
structure OddV (p0 : Nat × D) (v : D) : Prop where
  r : OkR v
  nd : ∀ kvs, v ≠ .dic false kvs
  w : f_is_write [v] = .ok (.bl false) ∨ v = wr p0 ∨ v = .tup [.int (p0.1 : Int), .str "off"]
abbrev atE : GE := gIfE (gAnd (gTst (gBin (fEqS true) (gVar 7) (gBin fIxD (gVar 5) (gC (.int 0))))) (gTst (gBin (fEqS true) (gVar 7) (gTup (gConsA (gBin fIxD (gBin fIxD (gVar 5) (gC (.int 0))) (gC (.int 0))) (gConsA (gC (.str "off")) (gNilA))))))) (gFnS 2 f__law_next (gConsA (gVar 3) (gConsA (gBin fAdd (gCall fLenD (gConsA (gVar 5) (gNilA))) (gC (.int 1))) (gNilA)))) (gCall fLenD (gConsA (gVar 5) (gNilA)))
theorem len_wr {G : Hg} {ps : List (Nat × D)} : fLenD [.d (.lst (ps.map wr))] G = some (.d (.int (ps.length : Nat)), G) := by rw [lenL_ok, List.length_map]
theorem at_ok {ρ : GEnv} {G : Hg} {i : Nat} {p0 : Nat × D} {ps : List (Nat × D)} {v : D} (h5 : ρ[5]? = some (some (.d (.lst ((p0 :: ps).map wr))))) (h3 : ρ[3]? = some (some (.ref i))) (h7 : ρ[7]? = some (some (.d v))) (hs : SrcAt i G) (hp : Wrs (p0 :: ps)) (hv : OddV p0 v) :
    ∃ (k : Nat) (G' : Hg), k ≤ (p0 :: ps).length ∧ atE ρ G = .ok (.d (.int (k : Int))) G' ∧ SrcAt i G' ∧ Fr [i] G G' ∧ (f_is_write [v] = .ok (.bl false) ∨ k = (p0 :: ps).length) := by
  have hlen := hp.len
  have o1 := okD_E hv.r.toOkE
  have o0 : OkR (wr p0) := okR_wr (hp.lt _ List.mem_cons_self) (hp.src _ List.mem_cons_self)
  have o2 := okD_E o0.toOkE
  have of : OkE (.tup [.int (p0.1 : Int), .str "off"]) := (okR_wr (p := (p0.1, .str "off")) (hp.lt p0 List.mem_cons_self) .off).toOkE
  have o3 := okD_E of
  have q1 : fEqS true (.d v) (.d (wr p0)) G = some (.d (.bl (!eqD v (wr p0))), G) := by rw [eq_ok o1 o2 hv.nd (fun _ z => by cases z) (fun _ _ z => by cases z.2), Bool.true_xor]
  have q2 : fEqS true (.d v) (.d (.tup [.int (p0.1 : Int), .str "off"])) G = some (.d (.bl (!eqD v (.tup [.int (p0.1 : Int), .str "off"]))), G) := by rw [eq_ok o1 o3 hv.nd (fun _ z => by cases z) (fun _ _ z => by cases z.2), Bool.true_xor]
  have l1 := len_wr (G := G) (ps := p0 :: ps)
  have s2 : small (0 + 1 + 1) = true := rfl
  have m2 := @tup2
  have w1 : fIxD (.d (wr p0)) (.d (.int 0)) G = some (.d (.int (p0.1 : Int)), G) := rfl
  have hd : (p0 :: ps).map wr = wr p0 :: ps.map wr := rfl
  cases b1 : eqD v (wr p0) with
  | true =>
    refine ⟨(p0 :: ps).length, G, Nat.le_refl _, ?_, hs, .refl, .inr rfl⟩
    rw [hd] at h5 l1
    rw [b1] at q1
    clear hp hv hs h3 o0 of hd
    walk_at "gs"
  | false =>
    cases b2 : eqD v (.tup [.int (p0.1 : Int), .str "off"]) with
    | true =>
      refine ⟨(p0 :: ps).length, G, Nat.le_refl _, ?_, hs, .refl, .inr rfl⟩
      rw [hd] at h5 l1
      rw [b1] at q1
      rw [b2] at q2
      clear hp hv hs h3 o0 of hd
      walk_at "gs"
    | false =>
      obtain ⟨r, G', r0, r1, hn, hs', fr⟩ := hs.next (m := ((p0 :: ps).length : Int) + 1) (by omega) (by omega)
      obtain ⟨k, rfl⟩ := Int.eq_ofNat_of_zero_le r0
      refine ⟨k, G', by omega, ?_, hs', fr, ?_⟩
      · rw [hd] at h5 l1
        rw [b1] at q1
        rw [b2] at q2
        clear hp hv hs hs' o0 of hd fr
        simp only [List.length_cons] at hn l1
        walk_at "gs"
      · rcases hv.w with z | z | z
        · exact .inl z
        · rw [z, eqD_self o0.toOkE] at b1; cases b1
        · rw [z, eqD_self of] at b2; cases b2
theorem bin_ok {f : W → W → Hg → Option (W × Hg)} {a b : GE} {ρ : GEnv} {G G1 G2 G3 : Hg} {x y z : W} (ha : a ρ G = .ok x G1) (hb : b ρ G1 = .ok y G2) (hf : f x y G2 = some (z, G3)) : gBin f a b ρ G = .ok z G3 := by rw [e_bin, ha, bind_ok, hb, bind_ok, hf, optR_some]
abbrev badE : GE := gBin fAdd (gBin fAdd (gBin fAdd (gSlice (gVar 5) (gNoP) (gPt (gVar 10))) (gLst (gConsA (gVar 7) (gNilA)))) (gSlice (gVar 5) (gPt (gVar 10)) (gNoP))) (gRep (gConsA (gC .non) (gNilA)) (gFnS 2 f__law_next (gConsA (gVar 3) (gConsA (gC (.int 2)) (gNilA)))))
def badL (ws : List D) (k : Nat) (v : D) (r : Nat) : List D := ws.take k ++ [v] ++ ws.drop k ++ (List.replicate r [D.non]).flatten
theorem nones (r : Nat) : (List.replicate r [D.non]).flatten = List.replicate r .non := by
  induction r with
  | zero => rfl
  | succ r ih => rw [List.replicate_succ, List.flatten_cons, ih, List.replicate_succ]; rfl
theorem bad_ok {ρ : GEnv} {G : Hg} {i : Nat} {ws : List D} {k : Nat} {v : D} (h5 : ρ[5]? = some (some (.d (.lst ws)))) (h3 : ρ[3]? = some (some (.ref i))) (h7 : ρ[7]? = some (some (.d v))) (h10 : ρ[10]? = some (some (.d (.int (k : Int))))) (hs : SrcAt i G) (hl : ws.length ≤ 9) :
    ∃ (r : Nat) (G' : Hg), r < 2 ∧ badE ρ G = .ok (.d (.lst (badL ws k v r))) G' ∧ SrcAt i G' ∧ Fr [i] G G' := by
  obtain ⟨r, G', r0, r1, hn, hs', fr⟩ := hs.next (m := 2) (by decide) (by decide)
  obtain ⟨r, rfl⟩ := Int.eq_ofNat_of_zero_le r0
  refine ⟨r, G', by omega, ?_, hs', fr⟩
  have e1 : ∀ G, sliceEnd (.d (.lst ws)) none (some (k : Int)) G = .ok (.d (.lst (ws.take k))) G := fun G => slice_toL
  have e2 : ∀ G, sliceEnd (.d (.lst ws)) (some (k : Int)) none G = .ok (.d (.lst (ws.drop k))) G := fun G => slice_fromL
  have t1 : (ws.take k).length ≤ 9 := by rw [List.length_take]; omega
  have t2 : (ws.drop k).length ≤ 9 := by rw [List.length_drop]; omega
  have a1 : ∀ G, fAdd (.d (.lst (ws.take k))) (.d (.lst [v])) G = some (.d (.lst (ws.take k ++ [v])), G) := fun G => addL_ok (by simp only [List.length_cons, List.length_nil]; omega)
  have a2 : ∀ G, fAdd (.d (.lst (ws.take k ++ [v]))) (.d (.lst (ws.drop k))) G = some (.d (.lst (ws.take k ++ [v] ++ ws.drop k)), G) := fun G => addL_ok (by simp only [List.length_append, List.length_cons, List.length_nil]; omega)
  obtain ⟨B, hB⟩ : ∃ B, B = badL ws k v r := ⟨_, rfl⟩
  have a3 : ∀ G, fAdd (.d (.lst (ws.take k ++ [v] ++ ws.drop k))) (.d (.lst (List.replicate r [D.non]).flatten)) G = some (.d (.lst B), G) := fun G => by
    rw [hB]
    unfold badL
    exact addL_ok (by rw [nones]; simp only [List.length_append, List.length_cons, List.length_nil, List.length_replicate]; omega)
  have r3 : repEnd [.d .non] (.d (.int (r : Int))) G' = .ok (.d (.lst (List.replicate r [D.non]).flatten)) G' := by
    have q := rep_end (G := G') (ds := [.non]) (k := r) (by simp only [List.length_cons, List.length_nil]; omega) (by omega)
    rw [List.map_cons, List.map_nil] at q
    exact q
  have s1 : small (0 + 1) = true := rfl
  rw [← hB]
  have x1 : gSlice (gVar 5) gNoP (gPt (gVar 10)) ρ G = .ok (.d (.lst (ws.take k))) G := by
    rw [e_slice, e_var, h5, oo_some, bind_ok, e_noP, bind_ok, e_pt, e_var, h10, oo_some, bind_ok, ptW_int, bind_ok]
    exact e1 G
  have x2 : gSlice (gVar 5) (gPt (gVar 10)) gNoP ρ G = .ok (.d (.lst (ws.drop k))) G := by
    rw [e_slice, e_var, h5, oo_some, bind_ok, e_pt, e_var, h10, oo_some, bind_ok, ptW_int, bind_ok, e_noP, bind_ok]
    exact e2 G
  have x3 : gLst (gConsA (gVar 7) gNilA) ρ G = .ok (.d (.lst [v])) G := by
    rw [e_lst, e_consA, e_var, h7, oo_some, bind_ok, e_nilA, bind_ok, bind_ok]
    exact congrArg (iffR _) s1
  have x4 : gRep (gConsA (gC .non) gNilA) (gFnS 2 f__law_next (gConsA (gVar 3) (gConsA (gC (.int 2)) gNilA))) ρ G = .ok (.d (.lst (List.replicate r [D.non]).flatten)) G' := by
    have x5 : gFnS 2 f__law_next (gConsA (gVar 3) (gConsA (gC (.int 2)) gNilA)) ρ G = .ok (.d (.int (r : Int))) G' := by
      rw [e_fnS, e_consA, e_var, h3, oo_some, bind_ok, e_consA, e_C, bind_ok, e_nilA, bind_ok, bind_ok, bind_ok]
      exact hn
    rw [e_rep, e_consA, e_C, bind_ok, e_nilA, bind_ok, bind_ok, x5, bind_ok, r3]
    exact congrArg (iffR _) s1
  exact bin_ok (bin_ok (bin_ok x1 x3 (a1 G)) x2 (a2 G)) x4 (a3 G')
theorem badL_ok {ps : List (Nat × D)} {p0 : Nat × D} {v : D} {k r : Nat} (hp : Wrs (p0 :: ps)) (hv : OddV p0 v) (hk : k ≤ (p0 :: ps).length) (hr : r < 2) (h : f_is_write [v] = .ok (.bl false) ∨ k = (p0 :: ps).length) :
    f_look_writes [.lst (badL ((p0 :: ps).map wr) k v r)] = .exc ⟨"NoWrites", [("at", .int (k : Int))]⟩ ∧ okR (toPy (.lst (badL ((p0 :: ps).map wr) k v r))) = true := by
  have hlen := hp.len
  have e : badL ((p0 :: ps).map wr) k v r = ((p0 :: ps).take k).map wr ++ v :: (((p0 :: ps).drop k).map wr ++ (List.replicate r [D.non]).flatten) := by
    unfold badL
    rw [← List.map_take, ← List.map_drop, List.append_assoc, List.append_assoc]
    rfl
  have hlk : (((p0 :: ps).take k).map wr).length = k := by rw [List.length_map, List.length_take]; omega
  constructor
  · rw [e]
    have g : Good [] (((p0 :: ps).take k).map wr) := good_of (fun p hm => hp.src p (List.mem_of_mem_take hm)) (by rw [List.map_take]; exact List.Nodup.sublist (List.take_sublist _ _) hp.nd) (fun _ _ z => by cases z)
    have b : Bad (pm (((p0 :: ps).take k).map wr)) v := by
      rcases h with h | h
      · exact .no h
      · have et : (p0 :: ps).take k = p0 :: ps := by rw [h, List.take_length]
        rw [et, pm_wr]
        rcases hv.w with z | z | z
        · exact .no z
        · rw [z]; exact .again (hp.src _ List.mem_cons_self) (by simp)
        · rw [z]; exact .again .off (by simp)
    have z := lookWrites_bad (post := ((p0 :: ps).drop k).map wr ++ (List.replicate r [D.non]).flatten) g b (by rw [hlk]; omega)
    rw [hlk] at z
    exact z
  · refine okR_lst (fun d hd => ?_) ?_
    · rw [e, nones] at hd
      have all : ∀ p ∈ p0 :: ps, OkR (wr p) := fun p hm => okR_wr (hp.lt p hm) (hp.src p hm)
      rcases List.mem_append.mp hd with q | q
      · obtain ⟨p, hm, rfl⟩ := List.mem_map.mp q
        exact all p (List.mem_of_mem_take hm)
      · rcases List.mem_cons.mp q with rfl | q
        · exact hv.r
        · rcases List.mem_append.mp q with q | q
          · obtain ⟨p, hm, rfl⟩ := List.mem_map.mp q
            exact all p (List.mem_of_mem_drop hm)
          · rw [(List.mem_replicate.mp q).2]
            exact okRb_ok (by decide +kernel)
    · rw [e, nones]
      simp only [List.length_append, List.length_cons, List.length_map, List.length_take, List.length_drop, List.length_replicate]
      simp only [List.length_cons] at hlen
      omega
/-! ### the loop over what may be put in -/
theorem gSeq_nx {a b : GS} {ρ ρ1 : GEnv} {G G1 : Hg} (h : a ρ G = .nx ρ1 G1) : gSeq a b ρ G = b ρ1 G1 := by rw [e_seq, h, seqS_nx]
theorem asg_ok {a : GE} {k : Nat} {ρ : GEnv} {G G1 : Hg} {w : W} (h : a ρ G = .ok w G1) : gAsg a (gNm k) ρ G = .nx (ρ.set k (some w)) G1 := by rw [e_asg, h, toS_ok, e_nm, optS_some]
theorem fb1_ok {ρ : GEnv} {G : Hg} {i : Nat} {p0 : Nat × D} {ps : List (Nat × D)} {v : D} {m0 : Int} {marks : List D} (hl : ρ.length = 15) (h5 : ρ[5]? = some (some (.d (.lst ((p0 :: ps).map wr))))) (h4 : ρ[4]? = some (some (.d (.lst (.int m0 :: marks))))) (h3 : ρ[3]? = some (some (.ref i))) (h7 : ρ[7]? = some (some (.d v))) (hs : SrcAt i G) (hp : Wrs (p0 :: ps)) (hv : OddV p0 v) :
    ∃ ρ' G', fb1_law ρ G = .nx ρ' G' ∧ Ag [9, 10, 11, 12] ρ ρ' ∧ SrcAt i G' ∧ Fr [i] G G' := by
  have hlen := hp.len
  obtain ⟨k, G1, hk, ea, s1, f1, hw⟩ := at_ok h5 h3 h7 hs hp hv
  have ag1 : Ag [9, 10, 11, 12] ρ (ρ.set 10 (some (.d (.int (k : Int))))) := .set (by simp)
  obtain ⟨r, G2, hr, eb, s2, f2⟩ := bad_ok (ag1.at h5) (ag1.at h3) (ag1.at h7) (set_at (x := some (.d (.int (k : Int)))) (i := 10) (by rw [hl]; decide)) s1 (by rw [List.length_map]; exact hlen)
  obtain ⟨hbad, hshow⟩ := badL_ok (k := k) (r := r) hp hv hk hr hw
  generalize badL ((p0 :: ps).map wr) k v r = B at *
  obtain ⟨ρ2, hρ⟩ : ∃ ρ2, ρ2 = (ρ.set 10 (some (.d (.int (k : Int))))).set 11 (some (.d (.lst B))) := ⟨_, rfl⟩
  have eb2 : gAsg badE (gNm 11) (ρ.set 10 (some (.d (.int (k : Int))))) G1 = .nx ρ2 G2 := by rw [hρ]; exact asg_ok eb
  have ag2 : Ag [9, 10, 11, 12] ρ ρ2 := by rw [hρ]; exact ag1.trans (.set (by simp))
  have l1 : (ρ.set 10 (some (.d (.int (k : Int))))).length = 15 := by rw [List.length_set]; exact hl
  have l2 : ρ2.length = 15 := by rw [hρ, List.length_set]; exact l1
  have e11 : ρ2[11]? = some (some (.d (.lst B))) := by rw [hρ]; exact set_at (by rw [l1]; decide)
  have e10 : ρ2[10]? = some (some (.d (.int (k : Int)))) := by rw [hρ, List.getElem?_set_ne (by decide)]; exact set_at (by rw [hl]; decide)
  have er : gCall fRepr (gConsA (gVar 11) gNilA) ρ2 G2 = .ok (.d (.str (toPy (.lst B)).shown)) G2 := by
    have q := repr_ok (G := G2) hshow (fun z => by cases z)
    simp only [e_call, e_consA, e_nilA, e_var, e11, oo_some, bind_ok, q, optR_some]
  have ag3 : Ag [9, 10, 11, 12] ρ (ρ2.set 12 (some (.d (.str (toPy (.lst B)).shown)))) := ag2.trans (.set (by simp))
  have n11 : (ρ2.set 12 (some (.d (.str (toPy (.lst B)).shown))))[11]? = some (some (.d (.lst B))) := by rw [List.getElem?_set_ne (by decide)]; exact e11
  have n10 : (ρ2.set 12 (some (.d (.str (toPy (.lst B)).shown))))[10]? = some (some (.d (.int (k : Int)))) := by rw [List.getElem?_set_ne (by decide)]; exact e10
  obtain ⟨ρ3, ef, ag⟩ := for0_ok (ρ := ρ2.set 12 (some (.d (.str (toPy (.lst B)).shown)))) (G := G2) (by rw [List.length_set]; exact l2) (ag3.at h4) n11 n10 (set_at (by rw [l2]; decide)) hbad hshow
  refine ⟨ρ3, G2, ?_, ag3.trans (ag.mono (by simp)), s2, f1.trans f2⟩
  unfold fb1_law
  exact (gSeq_nx (asg_ok ea)).trans ((gSeq_nx eb2).trans ((gSeq_nx (asg_ok er)).trans ef))
end K41

set_option Elab.async false
set_option linter.all false
set_option maxRecDepth 100000
set_option maxHeartbeats 8000000
namespace K41
open PySem PySem.Spec PyProof.Rows L2 Gh
theorem if_nx {c : GT} {a : GS} {ρ : GEnv} {G : Hg} (h : c ρ G = .ok false G) : gIf c a gNil ρ G = .nx ρ G := by rw [e_if, h, toS_ok, cond_false, e_nil]
theorem tst_ok {a : GE} {ρ : GEnv} {G G1 : Hg} {b : Bool} (h : a ρ G = .ok (.d (.bl b)) G1) : gTst a ρ G = .ok b G1 := by
  rw [e_tst, h, bind_ok]
  exact optP_some
theorem var_ok {i : Nat} {ρ : GEnv} {G : Hg} {w : W} (h : ρ[i]? = some (some w)) : gVar i ρ G = .ok w G := by rw [e_var, h, oo_some]
theorem consA_ok {a : GE} {as : GEs} {ρ : GEnv} {G G1 G2 : Hg} {w : W} {ws : List W} (h : a ρ G = .ok w G1) (hs : as ρ G1 = .ok ws G2) : gConsA a as ρ G = .ok (w :: ws) G2 := by rw [e_consA, h, bind_ok, hs, bind_ok]
theorem fnP2_ok {f : List D → PRes} {as : GEs} {ρ : GEnv} {G G1 : Hg} {a b r : D} (h : as ρ G = .ok [.d a, .d b] G1) (hf : f [a, b] = .ok r) : gFnP 2 f as ρ G = .ok (.d r) G1 := by rw [e_fnP, h, bind_ok, fnP_2, hf, pR_ok]
theorem tup_ok {as : GEs} {ρ : GEnv} {G G1 : Hg} {ws : List W} {w : W} (h : as ρ G = .ok ws G1) (hs : small ws.length = true) (hw : mkTup ws = w) : gTup as ρ G = .ok w G1 := by rw [e_tup, h, bind_ok, hs, iffR_t, hw]
/-! ### values that are no rows -/
theorem fb2_ok {ρ : GEnv} {G : Hg} {v : D} (h7 : ρ[7]? = some (some (.d v))) (hv : gIsc k_list_tuple (gVar 0) [some (.d v), none, none, none] [] = .ok (.d (.bl false)) []) : fb2_law ρ G = .nx ρ G := by
  have t := told_writes (sp := .int 30) (lookWrites_no hv)
  unfold fb2_law
  refine if_nx (tst_ok (bin_ok (fnP2_ok (consA_ok (var_ok h7) (consA_ok (G1 := G) (G2 := G) (w := .d (.int 30)) rfl rfl)) t) ?_ eq_told))
  rfl
/-! dict(good) -/
theorem put_d {kvs : List (D × W)} {ds : List (D × D)} {k x : D} (h : allKD kvs = some ds) : ∃ es, allKD (putW kvs k (.d x)) = some es := by
  have app : ∀ (kvs : List (D × W)) (ds : List (D × D)), allKD kvs = some ds → ∃ es, allKD (kvs ++ [(k, .d x)]) = some es := by
    intro kvs
    induction kvs with
    | nil => intro ds h; exact ⟨_, rfl⟩
    | cons p kvs ih =>
      obtain ⟨a, w⟩ := p
      intro ds h
      cases w with
      | d y =>
        simp only [allKD] at h
        obtain ⟨ds', q, _⟩ := map_some h
        obtain ⟨es, q2⟩ := ih ds' q
        exact ⟨(a, y) :: es, by rw [List.cons_append]; simp only [allKD, q2, Option.map_some]⟩
      | _ => cases h
  have mp : ∀ (kvs : List (D × W)) (ds : List (D × D)), allKD kvs = some ds → ∃ es, allKD (kvs.map fun p => if sameD p.1 k then (p.1, .d x) else p) = some es := by
    intro kvs
    induction kvs with
    | nil => intro ds h; exact ⟨_, rfl⟩
    | cons p kvs ih =>
      obtain ⟨a, w⟩ := p
      intro ds h
      cases w with
      | d y =>
        simp only [allKD] at h
        obtain ⟨ds', q, _⟩ := map_some h
        obtain ⟨es, q2⟩ := ih ds' q
        rw [List.map_cons]
        by_cases c : sameD a k = true
        · exact ⟨(a, x) :: es, by simp only [c, if_true, allKD, q2, Option.map_some]⟩
        · exact ⟨(a, y) :: es, by simp only [c, if_false, Bool.false_eq_true, allKD, q2, Option.map_some]⟩
      | _ => cases h
  unfold putW
  split
  · exact mp _ _ h
  · exact app _ _ h
theorem merge_d : ∀ (ps : List (Nat × D)) (kvs : List (D × W)) (ds : List (D × D)), allKD kvs = some ds → ∃ es, allKD (mergeW kvs (ps.map fun p => (.int (p.1 : Int), .d p.2))) = some es
  | [], kvs, ds, h => ⟨ds, h⟩
  | p :: ps, kvs, ds, h => by
    obtain ⟨es, q⟩ := put_d (k := .int (p.1 : Int)) (x := p.2) h
    exact merge_d ps _ es q
theorem pairs_wr (G : Hg) : ∀ ps : List (Nat × D), mapO (pairW G) ((ps.map wr).map .d) = some (ps.map fun p => (.int (p.1 : Int), .d p.2))
  | [] => rfl
  | p :: ps => by
    have h : pairW G (.d (wr p)) = some (.int (p.1 : Int), .d p.2) := rfl
    simp only [List.map_cons, mapO, h, pairs_wr G ps]
theorem dict_ok {ρ : GEnv} {G : Hg} {ps : List (Nat × D)} (h5 : ρ[5]? = some (some (.d (.lst (ps.map wr))))) : ∃ kvs, gDictC false (gVar 5) ρ G = .ok (.d (.dic false kvs)) G := by
  obtain ⟨es, q⟩ := merge_d ps [] [] rfl
  refine ⟨es, ?_⟩
  have e : pairsW (.d (.lst (ps.map wr))) G = some (mergeW [] (ps.map fun p => (.int (p.1 : Int), .d p.2))) := by
    have e1 : pairsW (.d (.lst (ps.map wr))) G = (mapO (pairW G) ((ps.map wr).map .d)).map (mergeW []) := rfl
    rw [e1, pairs_wr]
    rfl
  unfold gDictC
  rw [var_ok h5, bind_ok]
  simp only [e, Bool.false_eq_true, if_false, q]
abbrev valsE : GE := gTup (gConsA (gC .non) (gConsA (gC (.int 5)) (gConsA (gC (.str "on")) (gConsA (gDicT) (gConsA (gDictC false (gVar 5)) (gNilA))))))
theorem for2_ok {ρ : GEnv} {G : Hg} {ps : List (Nat × D)} (hl : ρ.length = 15) (h5 : ρ[5]? = some (some (.d (.lst (ps.map wr))))) : ∃ ρ', gFor (gSeqI valsE) (gNm 7) fb2_law ρ G = .nx ρ' G ∧ Ag [7] ρ ρ' := by
  obtain ⟨kvs, hd⟩ := dict_ok (G := G) h5
  have hi : valsE ρ G = .ok (.d (.tup [.non, .int 5, .str "on", .dic false [], .dic false kvs])) G :=
    tup_ok (consA_ok (G1 := G) (w := .d .non) rfl (consA_ok (G1 := G) (w := .d (.int 5)) rfl (consA_ok (G1 := G) (w := .d (.str "on")) rfl (consA_ok (G1 := G) (w := .d (.dic false [])) rfl (consA_ok hd rfl))))) rfl rfl
  have hq := e_seqI hi (b := false) (ws := [.d .non, .d (.int 5), .d (.str "on"), .d (.dic false []), .d (.dic false kvs)]) rfl
  obtain ⟨ρ2, G2, e, ⟨rfl, ag⟩⟩ := forL_inv (t := gNm 7) (b := fb2_law) (ck := ckW (.d (.tup [.non, .int 5, .str "on", .dic false [], .dic false kvs])) [.d .non, .d (.int 5), .d (.str "on"), .d (.dic false []), .d (.dic false kvs)]) (I := fun ρ' G' => G' = G ∧ Ag [7] ρ ρ')
    (P := fun w => ∃ d, w = .d d ∧ gIsc k_list_tuple (gVar 0) [some (.d d), none, none, none] [] = .ok (.d (.bl false)) []) (fun _ _ _ => rfl) (fun w ρ1 G1 hp ⟨hG, ag⟩ => by
    obtain ⟨d, rfl, hd⟩ := hp
    have ag1 : Ag [7] ρ (ρ1.set 7 (some (.d d))) := ag.trans (.set (by simp))
    exact ⟨ρ1.set 7 (some (.d d)), G1, ρ1.set 7 (some (.d d)), G1, rfl, fb2_ok (set_at (by rw [ag.le, hl]; decide)) hd, hG, ag1⟩) [.d .non, .d (.int 5), .d (.str "on"), .d (.dic false []), .d (.dic false kvs)] ρ G (fun w hw => by
    simp only [List.mem_cons, List.not_mem_nil, or_false] at hw
    rcases hw with rfl | rfl | rfl | rfl | rfl <;> exact ⟨_, rfl, rfl⟩) ⟨rfl, .refl⟩
  refine ⟨ρ2, ?_, ag⟩
  rw [e_for, hq, toS_ok]
  exact e
/-! ### spare marks that are refused -/
structure SpOk (ps : List (Nat × D)) (sp : D) : Prop where
  s : f_look_spare [.lst (ps.map wr), sp] = .exc ⟨"NoSpare", [("spare", sp)]⟩
  r : ∃ t, PyData.strOk t = true ∧ ∀ G, fRepr [.d sp] G = some (.d (.str t), G)
theorem eq_tolds {t : Str} (h : PyData.strOk t = true) {G : Hg} : fEqS true (.d (.tup [.str "spare", .str t, .bl false])) (.d (.tup [.str "spare", .str t, .bl false])) G = some (.d (.bl false), G) := by
  have o : okD (.tup [.str "spare", .str t, .bl false]) = true := okD_tup fun d hd => by
    simp only [List.mem_cons, List.not_mem_nil, or_false] at hd
    rcases hd with rfl | rfl | rfl
    · exact okE_str (by decide +kernel)
    · exact okE_str h
    · exact okE_bl
  rw [eq_ok o o (fun _ z => by cases z) (fun _ z => by cases z) (fun _ _ z => by cases z.1)]
  have e : eqD (.tup [.str "spare", .str t, .bl false]) (.tup [.str "spare", .str t, .bl false]) = true := by
    simp [eqD, toPy, toPyL, PyData.eqv, PyData.eqvAll]
  rw [e]
  rfl
theorem call1_ok {f : List W → Hg → Option (W × Hg)} {a : GE} {ρ : GEnv} {G G1 G2 : Hg} {w z : W} (h : a ρ G = .ok w G1) (hf : f [w] G1 = some (z, G2)) : gCall f (gConsA a gNilA) ρ G = .ok z G2 := by rw [e_call, consA_ok h (e_nilA), bind_ok, hf, optR_some]
theorem fb3_ok {ρ : GEnv} {G : Hg} {ps : List (Nat × D)} {sp : D} (h5 : ρ[5]? = some (some (.d (.lst (ps.map wr))))) (h9 : ρ[9]? = some (some (.d sp))) (hp : Wrs ps) (hs : SpOk ps sp) : fb3_law ρ G = .nx ρ G := by
  obtain ⟨t, ht, hr⟩ := hs.r
  have hlen := hp.len
  have g := lookWrites_good (good_of hp.src hp.nd (fun _ _ z => by cases z)) (by rw [List.length_map]; omega)
  have q := told_spare g hs.s hr
  unfold fb3_law
  exact if_nx (tst_ok (bin_ok (fnP2_ok (consA_ok (var_ok h5) (consA_ok (var_ok h9) e_nilA)) q) (tup_ok (consA_ok (G1 := G) (w := .d (.str "spare")) rfl (consA_ok (call1_ok (var_ok h9) (hr G)) (consA_ok (G1 := G) (w := .d (.bl false)) rfl e_nilA))) rfl rfl) (eq_tolds ht)))
/-! ### the cell's rows -/
def natD (n : Nat) : D := .int (n : Int)
def unD : D → Nat
  | .int i => i.toNat
  | _ => 0
theorem perm_nats {p : List D} {l0 : List Nat} (h : p.Perm (l0.map natD)) : ∃ l : List Nat, p = l.map natD ∧ l.Perm l0 := by
  have un : ∀ l : List Nat, (l.map natD).map unD = l := fun l => by
    rw [List.map_map]
    have e : unD ∘ natD = id := by funext n; show (n : Int).toNat = n; omega
    rw [e, List.map_id]
  refine ⟨p.map unD, ?_, ?_⟩
  · rw [List.map_map]
    have : ∀ x ∈ p, (natD ∘ unD) x = x := fun x hx => by
      obtain ⟨n, _, rfl⟩ := List.mem_map.mp (h.subset hx)
      show natD (n : Int).toNat = natD n
      rw [Int.toNat_natCast]
    exact (List.map_id p).symm.trans (List.map_congr_left fun x hx => (this x hx).symm)
  · have z := h.map unD
    rw [un] at z
    exact z
theorem rg9 : rgD 0 9 = (List.range 9).map natD := rfl
/-- the marks at hand -/
structure Mks (ms : List Nat) : Prop where
  ne : ms ≠ []
  len : ms.length ≤ 9
  lt : ∀ m ∈ ms, m < 9
  nd : ms.Nodup
abbrev marksE : GE := gSlice (gFnS 2 f__law_mixed (gConsA (gVar 3) (gConsA (gListRg1 false (gC (.int 9))) (gNilA)))) (gNoP) (gPt (gBin fAdd (gC (.int 1)) (gFnS 2 f__law_next (gConsA (gVar 3) (gConsA (gC (.int 6)) (gNilA))))))
theorem fnS2_ok {f : List W → Hg → Res W} {as : GEs} {ρ : GEnv} {G G1 G2 : Hg} {a b r : W} (h : as ρ G = .ok [a, b] G1) (hf : f [a, b] G1 = .ok r G2) : gFnS 2 f as ρ G = .ok r G2 := by rw [e_fnS, h, bind_ok]; exact hf
theorem fnS1_ok {f : List W → Hg → Res W} {as : GEs} {ρ : GEnv} {G G1 G2 : Hg} {a r : W} (h : as ρ G = .ok [a] G1) (hf : f [a] G1 = .ok r G2) : gFnS 1 f as ρ G = .ok r G2 := by rw [e_fnS, h, bind_ok]; exact hf
theorem marks_ok {ρ : GEnv} {G : Hg} {i : Nat} (h3 : ρ[3]? = some (some (.ref i))) (hs : SrcAt i G) : ∃ (ms : List Nat) (G' : Hg), Mks ms ∧ marksE ρ G = .ok (.d (.lst (ms.map natD))) G' ∧ SrcAt i G' := by
  obtain ⟨src, q1, q2, q3⟩ := hs
  have hi : i < G.length := (List.getElem?_eq_some_iff.mp q1).1
  obtain ⟨src', p, G1, a1, a2, a3, a4, a5, a6, a7⟩ := mixed_ok (w := .d (.lst (rgD 0 9))) (ds := rgD 0 9) q1 q2 rfl (fun d hd => by rw [rg9] at hd; obtain ⟨n, _, rfl⟩ := List.mem_map.mp hd; exact okE_int) (by decide +kernel)
  rw [rg9] at a2
  obtain ⟨l, rfl, lp⟩ := perm_nats a2
  obtain ⟨r, G2, r0, r1, hn, s2, f2⟩ := SrcAt.next (m := 6) ⟨src', a4, a1, a6.nl q3⟩ (by decide) (by decide)
  obtain ⟨r, rfl⟩ := Int.eq_ofNat_of_zero_le r0
  have hll : l.length = 9 := by rw [lp.length_eq]; rfl
  refine ⟨l.take (1 + r), G2, ⟨fun z => ?_, ?_, fun m hm => ?_, ?_⟩, ?_, s2⟩
  · have e := congrArg List.length z
    rw [List.length_take, hll] at e
    simp only [List.length_nil] at e
    omega
  · rw [List.length_take, hll]; omega
  · exact List.mem_range.mp (lp.subset (List.mem_of_mem_take hm))
  · exact List.Nodup.sublist (List.take_sublist _ _) (lp.nodup_iff.mpr List.nodup_range)
  · have at2 : G2[G.length + 1]? = some (.lst ((l.map natD).map .d)) := f2.at a5 (by simp; omega)
    have x1 : gFnS 2 f__law_mixed (gConsA (gVar 3) (gConsA (gListRg1 false (gC (.int 9))) gNilA)) ρ G = .ok (.ref (G.length + 1)) G1 := fnS2_ok (consA_ok (var_ok h3) (consA_ok (G1 := G) (w := .d (.lst (rgD 0 9))) rfl e_nilA)) a3
    have x2 : gBin fAdd (gC (.int 1)) (gFnS 2 f__law_next (gConsA (gVar 3) (gConsA (gC (.int 6)) gNilA))) ρ G1 = .ok (.d (.int (1 + (r : Int)))) G2 := bin_ok (G1 := G1) (x := .d (.int 1)) rfl (fnS2_ok (consA_ok (var_ok h3) (consA_ok (G1 := G1) (w := .d (.int 6)) rfl e_nilA)) hn) rfl
    show gSlice _ _ _ ρ G = _
    rw [e_slice, x1, bind_ok, e_noP, bind_ok, e_pt, x2, bind_ok, ptW_int, bind_ok]
    have e : (1 + (r : Int)) = ((1 + r : Nat) : Int) := by omega
    rw [e, slice_toR at2, List.map_take]
/-- the writes -/
abbrev goodE : GE := fun ρ G => (gLcW (gSeqI (gVar 4)) [13] (gNm 13) (gYes) (le0_law) ρ G).bind finT
theorem paired_wr : ∀ {ms : List Nat} {zs : List W}, Paired (fun (w z : W) => ∀ n : Nat, w = W.d (natD n) → ∃ s, z = W.d (wr (n, s)) ∧ Src s) ((ms.map natD).map W.d) zs → (∀ m ∈ ms, True) → ∃ ps : List (Nat × D), zs = (ps.map wr).map W.d ∧ ps.map (·.1) = ms ∧ ∀ p ∈ ps, Src p.2
  | [], _, .nil, _ => ⟨[], rfl, rfl, fun _ z => by cases z⟩
  | m :: ms, _, .cons h r, _ => by
    obtain ⟨s, rfl, hs⟩ := h m rfl
    obtain ⟨ps, rfl, e, hp⟩ := paired_wr r fun _ _ => trivial
    exact ⟨(m, s) :: ps, rfl, by simp [e], fun p hp' => by
      rcases List.mem_cons.mp hp' with rfl | q
      · exact hs
      · exact hp p q⟩
theorem good_ok {ρ : GEnv} {G : Hg} {i : Nat} {ms : List Nat} (hl : ρ.length = 15) (h3 : ρ[3]? = some (some (.ref i))) (h4 : ρ[4]? = some (some (.d (.lst (ms.map natD))))) (hs : SrcAt i G) (hm : Mks ms) :
    ∃ (ps : List (Nat × D)) (G' : Hg), Wrs ps ∧ ps.map (·.1) = ms ∧ goodE ρ G = .ok (.d (.lst (ps.map wr))) G' ∧ SrcAt i G' := by
  have hlen := hm.len
  have hi := e_seqI (G1 := G) (var_ok h4) (b := true) (ws := (ms.map natD).map .d) rfl
  have ag : Ag [13] ρ (wipeG ρ [13]) := Ag.set (by simp)
  obtain ⟨zs, G', e, pr, s'⟩ := lcL_inv (t := gNm 13) (tt := gYes) (e := le0_law) (ck := ckW (.d (.lst (ms.map natD))) ((ms.map natD).map .d)) (ρ0 := wipeG ρ [13]) (I := SrcAt i) (P := fun w => ∃ n : Nat, w = .d (natD n) ∧ n < 9)
    (R := fun w z => ∀ n : Nat, w = .d (natD n) → ∃ s, z = .d (wr (n, s)) ∧ Src s) (fun _ _ => rfl) (fun w G hp hs => by
    obtain ⟨n, rfl, hn⟩ := hp
    obtain ⟨src, q1, q2, q3⟩ := hs
    obtain ⟨src', d, hd, s1, eo⟩ := one_ok (ds := [.str "on", .str "off", natD n, .int 3, .int 8]) q1 q2 (by simp) (by simp)
    have g13 : ((wipeG ρ [13]).set 13 (some (.d (natD n))))[13]? = some (some (.d (natD n))) := set_at (by rw [ag.le, hl]; decide)
    have g3 : ((wipeG ρ [13]).set 13 (some (.d (natD n))))[3]? = some (some (.ref i)) := (ag.trans (.set (by simp))).at h3
    refine ⟨_, .d (.tup [natD n, d]), G.set i (.lst src'), rfl, rfl, ?_, fun m hm => ?_, ⟨src', List.getElem?_set_self (List.getElem?_eq_some_iff.mp q1).1, s1, q3.set i rfl⟩⟩
    · unfold le0_law
      exact tup_ok (consA_ok (var_ok g13) (consA_ok (fnS2_ok (consA_ok (var_ok g3) (consA_ok (G1 := G) (w := .d (.lst [.str "on", .str "off", natD n, .int 3, .int 8])) (by
        rw [e_lst, consA_ok (G1 := G) (w := .d (.str "on")) rfl (consA_ok (G1 := G) (w := .d (.str "off")) rfl (consA_ok (var_ok g13) (consA_ok (G1 := G) (w := .d (.int 3)) rfl (consA_ok (G1 := G) (w := .d (.int 8)) rfl e_nilA)))), bind_ok]
        rfl) e_nilA)) eo) e_nilA)) rfl rfl
    · have em : m = n := by
        have z : D.int (n : Int) = D.int (m : Int) := W.d.inj hm
        have z2 := D.int.inj z
        omega
      subst em
      refine ⟨d, rfl, ?_⟩
      simp only [List.mem_cons, List.not_mem_nil, or_false] at hd
      rcases hd with rfl | rfl | rfl | rfl | rfl
      · exact .on
      · exact .off
      · exact .mk m hn
      · exact .mk 3 (by decide)
      · exact .mk 8 (by decide)) ((ms.map natD).map .d) [] G (fun w hw => by
    obtain ⟨d, hd, rfl⟩ := List.mem_map.mp hw
    obtain ⟨n, hn, rfl⟩ := List.mem_map.mp hd
    exact ⟨n, rfl, hm.lt n hn⟩) hs (by simp; omega)
  obtain ⟨ps, rfl, em, hp⟩ := paired_wr pr fun _ _ => trivial
  refine ⟨ps, G', ⟨fun z => hm.ne (by rw [← em, z]; rfl), by rw [← em, List.length_map] at hlen; exact hlen, fun p hp' => hm.lt _ (by rw [← em]; exact List.mem_map_of_mem hp'), hp, by rw [em]; exact hm.nd⟩, em, ?_, s'⟩
  show (gLcW _ _ _ _ _ ρ G).bind finT = _
  unfold gLcW
  rw [hi, bind_ok]
  simp only
  rw [e, bind_ok, List.nil_append]
  unfold finT
  rw [mkLst_d]
end K41

set_option Elab.async false
set_option linter.all false
set_option maxRecDepth 100000
set_option maxHeartbeats 8000000
namespace K41
open PySem PySem.Spec PyProof.Rows L2 Gh
def O1 : List D := [.non, .int 5, .str "on", .tup [], .tup [.int 1], .tup [.int (-1), .str "on"], .tup [.bl true, .str "on"], .tup [.int 20, .str "On"], .tup [.int 20, .non], .tup [.int 20, .int (-1)], .tup [.int 20, .bl true]]
def O2 : List D := [.lst [.int 20, .str "on"], .tup [.int 20, .str "on", .int 1], .tup [.str "on", .int 20], .tup [.int 20, .lst [.int 1]], .tup [.int 20, .tup [.str "on"]]]
theorem odd_ok {p0 : Nat × D} {v : D} (h1 : p0.1 < 9) (h2 : Src p0.2) (h : v ∈ O1 ++ (O2 ++ [wr p0, .tup [.int (p0.1 : Int), .str "off"]])) : OddV p0 v := by
  simp only [O1, O2, List.cons_append, List.nil_append, List.mem_cons, List.not_mem_nil, or_false] at h
  rcases h with rfl | rfl | rfl | rfl | rfl | rfl | rfl | rfl | rfl | rfl | rfl | rfl | rfl | rfl | rfl | rfl | rfl | rfl
  all_goals first
    | exact ⟨okR_wr h1 h2, (fun _ z => by cases z), .inr (.inl rfl)⟩
    | exact ⟨okR_wr (p := (p0.1, .str "off")) h1 .off, (fun _ z => by cases z), .inr (.inr rfl)⟩
    | exact ⟨okRb_ok (by decide +kernel), (fun _ z => by cases z), .inl (by kernel_rfl)⟩
abbrev oddE : GE := gLst (gConsA (gC .non) (gConsA (gC (.int 5)) (gConsA (gC (.str "on")) (gConsA (gTup (gNilA)) (gConsA (gTup (gConsA (gC (.int 1)) (gNilA))) (gConsA (gTup (gConsA (gNeg (gC (.int 1))) (gConsA (gC (.str "on")) (gNilA)))) (gConsA (gTup (gConsA (gC (.bl true)) (gConsA (gC (.str "on")) (gNilA)))) (gConsA (gTup (gConsA (gC (.int 20)) (gConsA (gC (.str "On")) (gNilA)))) (gConsA (gTup (gConsA (gC (.int 20)) (gConsA (gC .non) (gNilA)))) (gConsA (gTup (gConsA (gC (.int 20)) (gConsA (gNeg (gC (.int 1))) (gNilA)))) (gConsA (gTup (gConsA (gC (.int 20)) (gConsA (gC (.bl true)) (gNilA)))) (gNilA))))))))))))
theorem oddE_ok {ρ : GEnv} {G : Hg} : oddE ρ G = .ok (.d (.lst O1)) G := by rfl
abbrev oddE2 : GE := gBin fAdd (gVar 6) (gLst (gConsA (gLst (gConsA (gC (.int 20)) (gConsA (gC (.str "on")) (gNilA)))) (gConsA (gTup (gConsA (gC (.int 20)) (gConsA (gC (.str "on")) (gConsA (gC (.int 1)) (gNilA))))) (gConsA (gTup (gConsA (gC (.str "on")) (gConsA (gC (.int 20)) (gNilA)))) (gConsA (gTup (gConsA (gC (.int 20)) (gConsA (gLst (gConsA (gC (.int 1)) (gNilA))) (gNilA)))) (gConsA (gTup (gConsA (gC (.int 20)) (gConsA (gTup (gConsA (gC (.str "on")) (gNilA))) (gNilA)))) (gConsA (gBin fIxD (gVar 5) (gC (.int 0))) (gConsA (gTup (gConsA (gBin fIxD (gBin fIxD (gVar 5) (gC (.int 0))) (gC (.int 0))) (gConsA (gC (.str "off")) (gNilA)))) (gNilA)))))))))
theorem lst_ok {as : GEs} {ρ : GEnv} {G G1 : Hg} {ws : List W} {ds : List D} (h : as ρ G = .ok ws G1) (hs : small ws.length = true) (hw : allD ws = some ds) : gLst as ρ G = .ok (.d (.lst ds)) G1 := by rw [e_lst, h, bind_ok, hs, iffR_t, hw, lstW_some]
theorem ix_wr0 {ρ : GEnv} {G : Hg} {p0 : Nat × D} {ps : List (Nat × D)} (h5 : ρ[5]? = some (some (.d (.lst ((p0 :: ps).map wr))))) : gBin fIxD (gVar 5) (gC (.int 0)) ρ G = .ok (.d (wr p0)) G := bin_ok (var_ok h5) (G2 := G) (y := .d (.int 0)) rfl (by
  have e : (p0 :: ps).map wr = wr p0 :: ps.map wr := rfl
  rw [e, e_ixL, List.map_cons, atI_0]
  rfl)
theorem oddE2_ok {ρ : GEnv} {G : Hg} {p0 : Nat × D} {ps : List (Nat × D)} (h5 : ρ[5]? = some (some (.d (.lst ((p0 :: ps).map wr))))) (h6 : ρ[6]? = some (some (.d (.lst O1)))) : oddE2 ρ G = .ok (.d (.lst (O1 ++ (O2 ++ [wr p0, .tup [.int (p0.1 : Int), .str "off"]])))) G := by
  have x := ix_wr0 (G := G) h5
  have x2 : gBin fIxD (gBin fIxD (gVar 5) (gC (.int 0))) (gC (.int 0)) ρ G = .ok (.d (.int (p0.1 : Int))) G := bin_ok x (G2 := G) (y := .d (.int 0)) rfl rfl
  have x3 : gTup (gConsA (gBin fIxD (gBin fIxD (gVar 5) (gC (.int 0))) (gC (.int 0))) (gConsA (gC (.str "off")) gNilA)) ρ G = .ok (.d (.tup [.int (p0.1 : Int), .str "off"])) G := tup_ok (consA_ok x2 (consA_ok (G1 := G) (w := .d (.str "off")) rfl e_nilA)) rfl rfl
  exact bin_ok (var_ok h6) (lst_ok (consA_ok (G1 := G) (w := .d (.lst [.int 20, .str "on"])) rfl (consA_ok (G1 := G) (w := .d (.tup [.int 20, .str "on", .int 1])) rfl (consA_ok (G1 := G) (w := .d (.tup [.str "on", .int 20])) rfl
    (consA_ok (G1 := G) (w := .d (.tup [.int 20, .lst [.int 1]])) rfl (consA_ok (G1 := G) (w := .d (.tup [.int 20, .tup [.str "on"]])) rfl (consA_ok x (consA_ok x3 e_nilA))))))) rfl rfl) (addL_ok (by show 11 + 7 ≤ 16777216; omega))
theorem for1_ok {ρ : GEnv} {G : Hg} {i : Nat} {p0 : Nat × D} {ps : List (Nat × D)} {m0 : Int} {marks : List D} (hl : ρ.length = 15) (h5 : ρ[5]? = some (some (.d (.lst ((p0 :: ps).map wr))))) (h4 : ρ[4]? = some (some (.d (.lst (.int m0 :: marks))))) (h3 : ρ[3]? = some (some (.ref i)))
    (h6 : ρ[6]? = some (some (.d (.lst (O1 ++ (O2 ++ [wr p0, .tup [.int (p0.1 : Int), .str "off"]])))))) (hs : SrcAt i G) (hp : Wrs (p0 :: ps)) : ∃ ρ' G', gFor (gSeqI (gVar 6)) (gNm 7) fb1_law ρ G = .nx ρ' G' ∧ Ag [7, 9, 10, 11, 12] ρ ρ' ∧ SrcAt i G' := by
  have hq := e_seqI (var_ok h6) (G1 := G) (b := true) (ws := (O1 ++ (O2 ++ [wr p0, .tup [.int (p0.1 : Int), .str "off"]])).map .d) rfl
  obtain ⟨ρ2, G2, e, ag, s2⟩ := forL_inv (t := gNm 7) (b := fb1_law) (ck := ckW (.d (.lst (O1 ++ (O2 ++ [wr p0, .tup [.int (p0.1 : Int), .str "off"]])))) ((O1 ++ (O2 ++ [wr p0, .tup [.int (p0.1 : Int), .str "off"]])).map .d))
    (I := fun ρ' G' => Ag [7, 9, 10, 11, 12] ρ ρ' ∧ SrcAt i G') (P := fun w => ∃ d, w = .d d ∧ OddV p0 d) (fun _ _ _ => rfl) (fun w ρ1 G1 hw ⟨ag, s1⟩ => by
    obtain ⟨d, rfl, hd⟩ := hw
    have ag1 : Ag [7, 9, 10, 11, 12] ρ (ρ1.set 7 (some (.d d))) := ag.trans (.set (by simp))
    obtain ⟨ρ', G', e, ag2, s2, _⟩ := fb1_ok (ρ := ρ1.set 7 (some (.d d))) (by rw [List.length_set, ag.le]; exact hl) (ag1.at h5) (ag1.at h4) (ag1.at h3) (set_at (by rw [ag.le, hl]; decide)) s1 hp hd
    exact ⟨ρ1.set 7 (some (.d d)), G1, ρ', G', rfl, e, ag1.trans (ag2.mono (by simp)), s2⟩) ((O1 ++ (O2 ++ [wr p0, .tup [.int (p0.1 : Int), .str "off"]])).map .d) ρ G (fun w hw => by
    obtain ⟨d, hd, rfl⟩ := List.mem_map.mp hw
    exact ⟨d, rfl, odd_ok (hp.lt _ List.mem_cons_self) (hp.src _ List.mem_cons_self) hd⟩) ⟨.refl, hs⟩
  refine ⟨ρ2, G2, ?_, ag, s2⟩
  rw [e_for, hq, toS_ok]
  exact e
/-! ### spare marks -/
def usedOf : List (Nat × D) → List D
  | [] => []
  | (_, .int k) :: r => .int k :: usedOf r
  | _ :: r => usedOf r
theorem used_mem : ∀ {ps : List (Nat × D)} {d : D}, d ∈ usedOf ps → ∃ p ∈ ps, p.2 = d ∧ ∃ k, d = .int k
  | [], d, h => by cases h
  | (m, s) :: r, d, h => by
    cases s with
    | int k =>
      rcases List.mem_cons.mp h with rfl | h
      · exact ⟨_, List.mem_cons_self, rfl, k, rfl⟩
      · obtain ⟨p, hp, e⟩ := used_mem h; exact ⟨p, List.mem_cons_of_mem _ hp, e⟩
    | _ => obtain ⟨p, hp, e⟩ := used_mem (show d ∈ usedOf r from h); exact ⟨p, List.mem_cons_of_mem _ hp, e⟩
abbrev usedE : GE := fun ρ G => (gLcW (gSeqI (gVar 5)) [14] (gNm 14) (lt0_law) (le1_law) ρ G).bind finT
def usedF (w : W) : Option W := match w with
  | .d (.tup [_, .int k]) => some (.d (.int k))
  | _ => none
theorem used_map : ∀ {ps : List (Nat × D)}, (∀ p ∈ ps, Src p.2) → ((ps.map wr).map W.d).filterMap usedF = (usedOf ps).map .d
  | [], _ => rfl
  | (m, s) :: r, h => by
    have ih := used_map (ps := r) fun p hp => h p (List.mem_cons_of_mem _ hp)
    have hs : Src s := h _ List.mem_cons_self
    simp only [List.map_cons, List.filterMap_cons]
    cases hs with
    | on => exact ih
    | off => exact ih
    | mk k hk => exact congrArg (W.d (.int (k : Int)) :: ·) ih
theorem used_ok {ρ : GEnv} {G : Hg} {ps : List (Nat × D)} (hl : ρ.length = 15) (h5 : ρ[5]? = some (some (.d (.lst (ps.map wr))))) (hp : Wrs ps) : usedE ρ G = .ok (.d (.lst (usedOf ps))) G := by
  have hlen := hp.len
  have hi := e_seqI (G1 := G) (var_ok h5) (b := true) (ws := (ps.map wr).map .d) rfl
  have ag : Ag [14] ρ (wipeG ρ [14]) := Ag.set (by simp)
  have e := lcL_on (t := gNm 14) (tt := lt0_law) (e := le1_law) (ck := ckW (.d (.lst (ps.map wr))) ((ps.map wr).map .d)) (ρ0 := wipeG ρ [14]) (G := G) usedF rfl ((ps.map wr).map .d) [] (fun w hw => by
    obtain ⟨d, hd, rfl⟩ := List.mem_map.mp hw
    obtain ⟨p, hm, rfl⟩ := List.mem_map.mp hd
    have g14 : ((wipeG ρ [14]).set 14 (some (.d (wr p))))[14]? = some (some (.d (wr p))) := set_at (by rw [ag.le, hl]; decide)
    refine ⟨(wipeG ρ [14]).set 14 (some (.d (wr p))), rfl, ?_⟩
    generalize (wipeG ρ [14]).set 14 (some (.d (wr p))) = ρ5 at *
    have x : gBin fIxD (gVar 14) (gC (.int 1)) ρ5 G = .ok (.d p.2) G := bin_ok (var_ok g14) (G2 := G) (y := .d (.int 1)) rfl rfl
    have t : ∀ {b : Bool}, gIsc k_str (gBin fIxD (gVar 14) (gC (.int 1))) ρ5 G = .ok (.d (.bl b)) G → lt0_law ρ5 G = .ok (!b) G := fun {b} h => by
      unfold lt0_law
      rw [e_not, tst_ok h, bind_ok]
    have hs := hp.src p hm
    obtain ⟨m, s⟩ := p
    have hs' : Src s := hs
    cases hs' with
    | on => exact .inl ⟨rfl, t (b := true) (by unfold gIsc; rw [x]; rfl)⟩
    | off => exact .inl ⟨rfl, t (b := true) (by unfold gIsc; rw [x]; rfl)⟩
    | mk k hk => exact .inr ⟨_, rfl, t (b := false) (by unfold gIsc; rw [x]; rfl), x⟩) (by simp; omega)
  show (gLcW _ _ _ _ _ ρ G).bind finT = _
  unfold gLcW
  rw [hi, bind_ok]
  simp only
  rw [e, bind_ok, List.nil_append, used_map hp.src]
  unfold finT
  rw [mkLst_d]
def S0 : List D := [.non, .int (-1), .bl true, .str "on", .str "3", .lst [], .dic false [], .tup [.int 30]]
abbrev sparesE : GE := gBin fAdd (gBin fAdd (gLst (gConsA (gC .non) (gConsA (gNeg (gC (.int 1))) (gConsA (gC (.bl true)) (gConsA (gC (.str "on")) (gConsA (gC (.str "3")) (gConsA (gLst (gNilA)) (gConsA (gDicT) (gConsA (gTup (gConsA (gC (.int 30)) (gNilA))) (gNilA)))))))))) (gVar 4)) (gVar 8)
theorem int9 : ∀ n : Fin 9, okR (toPy (.int ((n : Nat) : Int))) = true ∧ PyData.strOk (toPy (.int ((n : Nat) : Int))).shown = true := by decide +kernel
theorem sp0_ok {ps : List (Nat × D)} {d : D} (h : d ∈ S0) : SpOk ps d := by
  simp only [S0, List.mem_cons, List.not_mem_nil, or_false] at h
  rcases h with rfl | rfl | rfl | rfl | rfl | rfl | rfl | rfl
  all_goals first
    | exact ⟨lookSpare_no (by rfl), _, (by decide +kernel : PyData.strOk (Str.ofString "{}") = true), fun _ => rfl⟩
    | exact ⟨lookSpare_no (by rfl), _, (by decide +kernel : PyData.strOk (toPy _).shown = true), fun _ => repr_ok (by decide +kernel) (fun z => by cases z)⟩
theorem spn_ok {ps : List (Nat × D)} {n : Nat} (hn : n < 9) (hp : Wrs ps) (h : ∃ p ∈ ps, p.1 = n ∨ p.2 = .int (n : Int)) : SpOk ps (.int (n : Int)) := by
  have hlen := hp.len
  obtain ⟨a, b⟩ := int9 ⟨n, hn⟩
  exact ⟨lookSpare_in hp.src h (by omega), _, b, fun _ => repr_ok a (fun z => by cases z)⟩
theorem for3_ok {ρ : GEnv} {G : Hg} {ps : List (Nat × D)} {ms : List Nat} (hl : ρ.length = 15) (h5 : ρ[5]? = some (some (.d (.lst (ps.map wr))))) (h4 : ρ[4]? = some (some (.d (.lst (ms.map natD))))) (h8 : ρ[8]? = some (some (.d (.lst (usedOf ps)))))
    (hp : Wrs ps) (hm : Mks ms) (hpm : ps.map (·.1) = ms) : ∃ ρ', gFor (gSeqI sparesE) (gNm 9) fb3_law ρ G = .nx ρ' G ∧ Ag [9] ρ ρ' := by
  have hlen := hp.len
  have ul : ∀ ps : List (Nat × D), (usedOf ps).length ≤ ps.length := fun ps => by
    induction ps with
    | nil => exact Nat.le_refl _
    | cons p ps ih =>
      obtain ⟨m, s⟩ := p
      cases s with
      | int k => exact Nat.succ_le_succ ih
      | _ => exact Nat.le_succ_of_le ih
  have ulp := ul ps
  have ml := hm.len
  have hi : sparesE ρ G = .ok (.d (.lst (S0 ++ ms.map natD ++ usedOf ps))) G :=
    bin_ok (bin_ok (x := .d (.lst S0)) (G1 := G) (by rfl) (var_ok h4) (addL_ok (by rw [List.length_map]; show 8 + _ ≤ _; omega))) (var_ok h8) (addL_ok (by rw [List.length_append, List.length_map]; show 8 + _ + _ ≤ _; omega))
  have hq := e_seqI hi (b := true) (ws := (S0 ++ ms.map natD ++ usedOf ps).map .d) rfl
  obtain ⟨ρ2, G2, e, ⟨rfl, ag⟩⟩ := forL_inv (t := gNm 9) (b := fb3_law) (ck := ckW (.d (.lst (S0 ++ ms.map natD ++ usedOf ps))) ((S0 ++ ms.map natD ++ usedOf ps).map .d)) (I := fun ρ' G' => G' = G ∧ Ag [9] ρ ρ') (P := fun w => ∃ d, w = .d d ∧ SpOk ps d) (fun _ _ _ => rfl) (fun w ρ1 G1 hw ⟨hG, ag⟩ => by
    obtain ⟨d, rfl, hd⟩ := hw
    have ag1 : Ag [9] ρ (ρ1.set 9 (some (.d d))) := ag.trans (.set (by simp))
    exact ⟨ρ1.set 9 (some (.d d)), G1, ρ1.set 9 (some (.d d)), G1, rfl, fb3_ok (ag1.at h5) (set_at (by rw [ag.le, hl]; decide)) hp hd, hG, ag1⟩) ((S0 ++ ms.map natD ++ usedOf ps).map .d) ρ G (fun w hw => by
    obtain ⟨d, hd, rfl⟩ := List.mem_map.mp hw
    refine ⟨d, rfl, ?_⟩
    rcases List.mem_append.mp hd with h | h
    · rcases List.mem_append.mp h with h | h
      · exact sp0_ok h
      · obtain ⟨n, hn, rfl⟩ := List.mem_map.mp h
        rw [← hpm] at hn
        obtain ⟨p, hp', e⟩ := List.mem_map.mp hn
        exact spn_ok (by rw [← e]; exact hp.lt p hp') hp ⟨p, hp', .inl e⟩
    · obtain ⟨p, hp', e, k, rfl⟩ := used_mem h
      have hs := hp.src p hp'
      rw [e] at hs
      cases hs with
      | mk k hk => exact spn_ok hk hp ⟨p, hp', .inr e⟩) ⟨rfl, .refl⟩
  refine ⟨ρ2, ?_, ag⟩
  rw [e_for, hq, toS_ok]
  exact e
/-! ### a cell -/
theorem fb4_ok {ρ : GEnv} {G : Hg} {n : Int} (hl : ρ.length = 15) (hG : NoL G) (h1 : ρ[1]? = some (some (.d (.int n)))) : ∃ ρ' G', fb4_law ρ G = .nx ρ' G' ∧ ρ'.length = 15 ∧ NoL G' := by
  obtain ⟨src, hs, es⟩ := source_ok (G := G) n
  have s0 : SrcAt G.length (G ++ [.lst src]) := ⟨src, by rw [List.getElem?_append_right (Nat.le_refl _), Nat.sub_self]; rfl, hs, hG.app rfl⟩
  have q1 : gFnS 1 f__law_source_of (gConsA (gVar 1) gNilA) ρ G = .ok (.ref G.length) (G ++ [.lst src]) := fnS1_ok (consA_ok (var_ok h1) e_nilA) es
  obtain ⟨ρ1, e1⟩ : ∃ ρ1, ρ1 = ρ.set 3 (some (.ref G.length)) := ⟨_, rfl⟩
  have l1 : ρ1.length = 15 := by rw [e1, List.length_set]; exact hl
  have a3 : ρ1[3]? = some (some (.ref G.length)) := by rw [e1]; exact set_at (by rw [hl]; decide)
  have t1 : gAsg (gFnS 1 f__law_source_of (gConsA (gVar 1) gNilA)) (gNm 3) ρ G = .nx ρ1 (G ++ [.lst src]) := by rw [e1]; exact asg_ok q1
  obtain ⟨ms, G2, hm, q2, s2⟩ := marks_ok a3 s0
  obtain ⟨ρ2, e2⟩ : ∃ ρ2, ρ2 = ρ1.set 4 (some (.d (.lst (ms.map natD)))) := ⟨_, rfl⟩
  have l2 : ρ2.length = 15 := by rw [e2, List.length_set]; exact l1
  have b3 : ρ2[3]? = some (some (.ref G.length)) := by rw [e2, List.getElem?_set_ne (by decide)]; exact a3
  have b4 : ρ2[4]? = some (some (.d (.lst (ms.map natD)))) := by rw [e2]; exact set_at (by rw [l1]; decide)
  have t2 : gAsg marksE (gNm 4) ρ1 (G ++ [.lst src]) = .nx ρ2 G2 := by rw [e2]; exact asg_ok q2
  obtain ⟨ps, G3, hp, hpm, q3, s3⟩ := good_ok l2 b3 b4 s2 hm
  obtain ⟨ρ3, e3⟩ : ∃ ρ3, ρ3 = ρ2.set 5 (some (.d (.lst (ps.map wr)))) := ⟨_, rfl⟩
  have l3 : ρ3.length = 15 := by rw [e3, List.length_set]; exact l2
  have c3 : ρ3[3]? = some (some (.ref G.length)) := by rw [e3, List.getElem?_set_ne (by decide)]; exact b3
  have c4 : ρ3[4]? = some (some (.d (.lst (ms.map natD)))) := by rw [e3, List.getElem?_set_ne (by decide)]; exact b4
  have c5 : ρ3[5]? = some (some (.d (.lst (ps.map wr)))) := by rw [e3]; exact set_at (by rw [l2]; decide)
  have t3 : gAsg goodE (gNm 5) ρ2 G2 = .nx ρ3 G3 := by rw [e3]; exact asg_ok q3
  obtain ⟨p0, pr, rfl⟩ : ∃ p0 pr, ps = p0 :: pr := by
    cases ps with
    | nil => exact absurd rfl hp.ne
    | cons p0 pr => exact ⟨p0, pr, rfl⟩
  obtain ⟨m0, mr, rfl⟩ : ∃ m0 mr, ms = m0 :: mr := by
    cases ms with
    | nil => exact absurd rfl hm.ne
    | cons p0 pr => exact ⟨p0, pr, rfl⟩
  obtain ⟨ρ4, e4⟩ : ∃ ρ4, ρ4 = ρ3.set 6 (some (.d (.lst O1))) := ⟨_, rfl⟩
  have ag4 : Ag [6] ρ3 ρ4 := by rw [e4]; exact .set (by simp)
  have t4 : gAsg oddE (gNm 6) ρ3 G3 = .nx ρ4 G3 := by rw [e4]; exact asg_ok oddE_ok
  have d6 : ρ4[6]? = some (some (.d (.lst O1))) := by rw [e4]; exact set_at (by rw [l3]; decide)
  obtain ⟨ρ5, e5⟩ : ∃ ρ5, ρ5 = ρ4.set 6 (some (.d (.lst (O1 ++ (O2 ++ [wr p0, .tup [.int (p0.1 : Int), .str "off"]]))))) := ⟨_, rfl⟩
  have ag5 : Ag [6] ρ3 ρ5 := by rw [e5]; exact ag4.trans (.set (by simp))
  have t5 : gAsg oddE2 (gNm 6) ρ4 G3 = .nx ρ5 G3 := by rw [e5]; exact asg_ok (oddE2_ok (ag4.at c5) d6)
  have f6 : ρ5[6]? = some (some (.d (.lst (O1 ++ (O2 ++ [wr p0, .tup [.int (p0.1 : Int), .str "off"]]))))) := by rw [e5]; exact set_at (by rw [ag4.le, l3]; decide)
  have l5 : ρ5.length = 15 := ag5.le.trans l3
  obtain ⟨ρ6, G6, t6, ag6, s6⟩ := for1_ok (m0 := (m0 : Int)) (marks := mr.map natD) l5 (ag5.at c5) (ag5.at c4) (ag5.at c3) f6 s3 hp
  obtain ⟨ρ7, t7, ag7⟩ := for2_ok (ρ := ρ6) (G := G6) (ag6.le.trans l5) (ag6.at (ag5.at c5))
  have h75 : ρ7[5]? = some (some (.d (.lst ((p0 :: pr).map wr)))) := ag7.at (ag6.at (ag5.at c5))
  have h74 : ρ7[4]? = some (some (.d (.lst ((m0 :: mr).map natD)))) := ag7.at (ag6.at (ag5.at c4))
  have l7 : ρ7.length = 15 := ag7.le.trans (ag6.le.trans l5)
  have q8 := used_ok (G := G6) l7 h75 hp
  obtain ⟨ρ8, e8⟩ : ∃ ρ8, ρ8 = ρ7.set 8 (some (.d (.lst (usedOf (p0 :: pr))))) := ⟨_, rfl⟩
  have ag8 : Ag [8] ρ7 ρ8 := by rw [e8]; exact .set (by simp)
  have t8 : gAsg usedE (gNm 8) ρ7 G6 = .nx ρ8 G6 := by rw [e8]; exact asg_ok q8
  have g8 : ρ8[8]? = some (some (.d (.lst (usedOf (p0 :: pr))))) := by rw [e8]; exact set_at (by rw [l7]; decide)
  obtain ⟨ρ9, t9, ag9⟩ := for3_ok (ρ := ρ8) (G := G6) (ag8.le.trans l7) (ag8.at h75) (ag8.at h74) g8 hp hm hpm
  obtain ⟨_, _, _, nl⟩ := s6
  refine ⟨ρ9, G6, ?_, ag9.le.trans (ag8.le.trans l7), nl⟩
  unfold fb4_law
  exact (gSeq_nx t1).trans ((gSeq_nx t2).trans ((gSeq_nx t3).trans ((gSeq_nx t4).trans ((gSeq_nx t5).trans ((gSeq_nx t6).trans ((gSeq_nx t7).trans ((gSeq_nx t8).trans t9)))))))
end K41

set_option Elab.async false
set_option linter.all false
set_option maxRecDepth 100000
set_option maxHeartbeats 8000000
namespace K41
open PySem PySem.Spec PyProof.Rows L2 Gh
theorem t_e : f__law_told [.lst [], .int 0] = .ok (.lst []) := by kernel_rfl
theorem t_44 : f__law_told [.lst [.tup [.int 4, .int 4]], .int 0] = .ok (.lst []) := by kernel_rfl
theorem t_gr : f__law_told [.lst [.tup [.int (10 ^ 29 + 7), .str "on"], .tup [.int 0, .int (10 ^ 29 + 7)]], .int (10 ^ 28)] = .ok (.lst [.tup [.str "copy", .int 0, .int (10 ^ 29 + 7)], .tup [.str "on", .int (10 ^ 29 + 7)]]) := by kernel_rfl
theorem t_sp : f__law_told [.lst [.tup [.int 4, .int 4]], .int 4] = .ok (.tup [.str "spare", .str "4", .bl false]) := by kernel_rfl
def tailS : GS := (gSeq (gIf (gOr (gTst (gBin (fEqS true) (gFnP 2 f__law_told (gConsA (gLst (gNilA)) (gConsA (gC (.int 0)) (gNilA)))) (gLst (gNilA)))) (gTst (gBin (fEqS true) (gFnP 2 f__law_told (gConsA (gLst (gConsA (gTup (gConsA (gC (.int 4)) (gConsA (gC (.int 4)) (gNilA)))) (gNilA))) (gConsA (gC (.int 0)) (gNilA)))) (gLst (gNilA))))) (gRet (gC (.bl false))) (gNil)) (gSeq (gAsg (gBin fAdd (gBin (fI iPow) (gC (.int 10)) (gC (.int 29))) (gC (.int 7))) (gNm 2)) (gSeq (gIf (gTst (gBin (fEqS true) (gFnP 2 f__law_told (gConsA (gLst (gConsA (gTup (gConsA (gVar 2) (gConsA (gC (.str "on")) (gNilA)))) (gConsA (gTup (gConsA (gC (.int 0)) (gConsA (gVar 2) (gNilA)))) (gNilA)))) (gConsA (gBin (fI iPow) (gC (.int 10)) (gC (.int 28))) (gNilA)))) (gLst (gConsA (gTup (gConsA (gC (.str "copy")) (gConsA (gC (.int 0)) (gConsA (gVar 2) (gNilA))))) (gConsA (gTup (gConsA (gC (.str "on")) (gConsA (gVar 2) (gNilA)))) (gNilA)))))) (gRet (gC (.bl false))) (gNil)) (gRet (gBin (fEqS false) (gFnP 2 f__law_told (gConsA (gLst (gConsA (gTup (gConsA (gC (.int 4)) (gConsA (gC (.int 4)) (gNilA)))) (gNilA))) (gConsA (gC (.int 4)) (gNilA)))) (gTup (gConsA (gC (.str "spare")) (gConsA (gC (.str "4")) (gConsA (gC (.bl false)) (gNilA))))))))))
theorem tail_ok (a0 a1 a2 a3 a4 a5 a6 a7 a8 a9 a10 a11 a12 a13 a14 : Option W) (G : Hg) : tailS [a0, a1, a2, a3, a4, a5, a6, a7, a8, a9, a10, a11, a12, a13, a14] G = .ret (.d (.bl true)) G := by kernel_rfl
theorem tail15 {ρ : GEnv} {G : Hg} (h : ρ.length = 15) : tailS ρ G = .ret (.d (.bl true)) G := match ρ, h with
  | [a0, a1, a2, a3, a4, a5, a6, a7, a8, a9, a10, a11, a12, a13, a14], _ => tail_ok a0 a1 a2 a3 a4 a5 a6 a7 a8 a9 a10 a11 a12 a13 a14 G
theorem law_true : ∀ ns : List Int, ns.length ≤ 63 → (∀ z ∈ ns, PySem.Builtin.Int.intBits z ≤ 1048576) → f_law [.lst (ns.map .int)] = .ok (.bl true) := fun ns hn _ => by
  obtain ⟨ρ0, hρ⟩ : ∃ ρ0, ρ0 = envP 15 [D.lst (ns.map .int)] := ⟨_, rfl⟩
  have l0 : ρ0.length = 15 := by rw [hρ]; rfl
  have h0 : ρ0[0]? = some (some (.d (.lst (ns.map .int)))) := by rw [hρ]; rfl
  have x : gSlice (gBin fAdd (gVar 0) (gLst (gConsA (gC (.int 0)) (gConsA (gC (.int 1)) (gConsA (gC (.int 2)) (gNilA)))))) (gNoP) (gPt (gC (.int 10))) ρ0 [] = .ok (.d (.lst ((ns.map D.int ++ [D.int 0, D.int 1, D.int 2]).take 10))) [] := by
    have y : gBin fAdd (gVar 0) (gLst (gConsA (gC (.int 0)) (gConsA (gC (.int 1)) (gConsA (gC (.int 2)) (gNilA))))) ρ0 [] = .ok (.d (.lst (ns.map D.int ++ [D.int 0, D.int 1, D.int 2]))) [] :=
      bin_ok (var_ok h0) (G2 := []) (y := .d (.lst [D.int 0, D.int 1, D.int 2])) (by rfl) (addL_ok (by rw [List.length_map]; show ns.length + 3 ≤ _; omega))
    rw [e_slice, y, bind_ok, e_noP, bind_ok, e_pt, e_C, bind_ok, ptW_int, bind_ok]
    exact slice_toL (k := 10)
  have hq := e_seqI x (b := true) (ws := ((ns.map D.int ++ [D.int 0, D.int 1, D.int 2]).take 10).map .d) rfl
  obtain ⟨ρ2, G2, e, l2, n2⟩ := forL_inv (t := gNm 1) (b := fb4_law) (ck := ckW (.d (.lst ((ns.map D.int ++ [D.int 0, D.int 1, D.int 2]).take 10))) (((ns.map D.int ++ [D.int 0, D.int 1, D.int 2]).take 10).map .d)) (I := fun ρ' G' => ρ'.length = 15 ∧ NoL G') (P := fun w => ∃ n, w = .d (.int n)) (fun _ _ _ => rfl) (fun w ρ1 G1 hw ⟨l1, n1⟩ => by
    obtain ⟨n, rfl⟩ := hw
    obtain ⟨ρ', G', e, l'⟩ := fb4_ok (ρ := ρ1.set 1 (some (.d (.int n)))) (G := G1) (n := n) (by rw [List.length_set]; exact l1) n1 (set_at (by rw [l1]; decide))
    exact ⟨ρ1.set 1 (some (.d (.int n))), G1, ρ', G', rfl, e, l'⟩) (((ns.map D.int ++ [D.int 0, D.int 1, D.int 2]).take 10).map .d) ρ0 [] (fun w hw => by
    obtain ⟨d, hd, rfl⟩ := List.mem_map.mp hw
    rcases List.mem_append.mp (List.mem_of_mem_take hd) with h | h
    · obtain ⟨n, _, rfl⟩ := List.mem_map.mp h
      exact ⟨n, rfl⟩
    · simp only [List.mem_cons, List.not_mem_nil, or_false] at h
      rcases h with rfl | rfl | rfl <;> exact ⟨_, rfl⟩) ⟨l0, rfl⟩
  have key : g_law ρ0 [] = .ret (.d (.bl true)) G2 := by
    have z : gFor (gSeqI (gSlice (gBin fAdd (gVar 0) (gLst (gConsA (gC (.int 0)) (gConsA (gC (.int 1)) (gConsA (gC (.int 2)) (gNilA)))))) (gNoP) (gPt (gC (.int 10))))) (gNm 1) (fb4_law) ρ0 [] = .nx ρ2 G2 := by
      rw [e_for, hq, toS_ok]
      exact e
    exact (gSeq_nx z).trans (tail15 l2)
  show runP 15 g_law _ = _
  unfold runP
  rw [← hρ, key]
  simp only
  have n3 : G2.any GO.isL = false := n2
  rw [n3]
  rfl
end K41

set_option Elab.async false
set_option linter.all false
set_option maxRecDepth 100000
set_option maxHeartbeats 0
namespace K41
open PySem PySem.Spec PyProof.Rows L2 Gh

def dd__law_source_of : He.DefD := ⟨("_law_source_of", none), "_law_source_of", "_law_source_of", defArgs s__law_source_of, defBody s__law_source_of, defScope s__law_source_of, [], []⟩
def dd_is_integer : He.DefD := ⟨("is_integer", none), "is_integer", "is_integer", defArgs s_is_integer, defBody s_is_integer, defScope s_is_integer, [], []⟩
def dd_is_mark : He.DefD := ⟨("is_mark", none), "is_mark", "is_mark", defArgs s_is_mark, defBody s_is_mark, defScope s_is_mark, [], []⟩
def dd_is_write : He.DefD := ⟨("is_write", none), "is_write", "is_write", defArgs s_is_write, defBody s_is_write, defScope s_is_write, [], []⟩
def dd_look_writes : He.DefD := ⟨("look_writes", none), "look_writes", "look_writes", defArgs s_look_writes, defBody s_look_writes, defScope s_look_writes, [], []⟩
def dd_look_spare : He.DefD := ⟨("look_spare", none), "look_spare", "look_spare", defArgs s_look_spare, defBody s_look_spare, defScope s_look_spare, [], []⟩
def dd_next_free : He.DefD := ⟨("next_free", none), "next_free", "next_free", defArgs s_next_free, defBody s_next_free, defScope s_next_free, [], []⟩
def dd_redirected : He.DefD := ⟨("redirected", none), "redirected", "redirected", defArgs s_redirected, defBody s_redirected, defScope s_redirected, [], []⟩
def dd_row_of : He.DefD := ⟨("row_of", none), "row_of", "row_of", defArgs s_row_of, defBody s_row_of, defScope s_row_of, [], []⟩
def dd_sequence : He.DefD := ⟨("sequence", none), "sequence", "sequence", defArgs s_sequence, defBody s_sequence, defScope s_sequence, [], []⟩
def dd__law_told : He.DefD := ⟨("_law_told", none), "_law_told", "_law_told", defArgs s__law_told, defBody s__law_told, defScope s__law_told, [], []⟩
def dd__law_next : He.DefD := ⟨("_law_next", none), "_law_next", "_law_next", defArgs s__law_next, defBody s__law_next, defScope s__law_next, [], []⟩
def dd__law_mixed : He.DefD := ⟨("_law_mixed", none), "_law_mixed", "_law_mixed", defArgs s__law_mixed, defBody s__law_mixed, defScope s__law_mixed, [], []⟩
def dd__law_one : He.DefD := ⟨("_law_one", none), "_law_one", "_law_one", defArgs s__law_one, defBody s__law_one, defScope s__law_one, [], []⟩
def dd_law : He.DefD := ⟨("law", none), "law", "law", defArgs s_law, defBody s_law, defScope s_law, [], []⟩
abbrev si_NoSpare : Stmt := inCls 4 0
def di_NoSpare : He.DefD := ⟨("NoSpare", some "__init__"), "__init__", "NoSpare.__init__", defArgs si_NoSpare, defBody si_NoSpare, defScope si_NoSpare, [], []⟩
theorem sci_NoSpare : FnScope ["self", "spare"] ["self", "spare"] (defScope si_NoSpare) := ⟨rfl, rfl, rfl, by decide +kernel, rfl, by decide +kernel, by decide +kernel⟩
theorem xi_NoSpare {P : Program} {w : World} {K : PySem.W.Frag} {h : Heap} {mg : Str → Option Value} {base : Heap} (X : K.In h) (G : h.Ns mainGlobals mg) {fd : FuncData} (F : FunD K "__init__" "NoSpare.__init__" (defArgs si_NoSpare) (defBody si_NoSpare) (defScope si_NoSpare) [] [] (He.fAd K ("NoSpare", some "__init__")) fd) (b : clsXb K "NoSpare" ["spare"] = true) : ClsX P w K mg base "NoSpare" ["spare"] :=
  clsXb_ok X G b (fn_init (f := "spare") (i := 1) (l := []) F sci_NoSpare rfl (by decide) rfl (by decide) (fun cdv A outer s H E => by exact .cons (by rfl) (.inl rfl) (by decide) (by decide) (by rfl) (.inl rfl) (by decide) (by decide) (by rfl) (.nil))) (F.bindsN fun _ _ _ _ _ _ us hl => match us, hl with | [_, _], _ => rfl)
abbrev si_NoWrites : Stmt := inCls 3 0
def di_NoWrites : He.DefD := ⟨("NoWrites", some "__init__"), "__init__", "NoWrites.__init__", defArgs si_NoWrites, defBody si_NoWrites, defScope si_NoWrites, [], []⟩
theorem sci_NoWrites : FnScope ["self", "at"] ["self", "at"] (defScope si_NoWrites) := ⟨rfl, rfl, rfl, by decide +kernel, rfl, by decide +kernel, by decide +kernel⟩
theorem xi_NoWrites {P : Program} {w : World} {K : PySem.W.Frag} {h : Heap} {mg : Str → Option Value} {base : Heap} (X : K.In h) (G : h.Ns mainGlobals mg) {fd : FuncData} (F : FunD K "__init__" "NoWrites.__init__" (defArgs si_NoWrites) (defBody si_NoWrites) (defScope si_NoWrites) [] [] (He.fAd K ("NoWrites", some "__init__")) fd) (b : clsXb K "NoWrites" ["at"] = true) : ClsX P w K mg base "NoWrites" ["at"] :=
  clsXb_ok X G b (fn_init (f := "at") (i := 1) (l := []) F sci_NoWrites rfl (by decide) rfl (by decide) (fun cdv A outer s H E => by exact .cons (by rfl) (.inl rfl) (by decide) (by decide) (by rfl) (.inl rfl) (by decide) (by decide) (by rfl) (.nil))) (F.bindsN fun _ _ _ _ _ _ us hl => match us, hl with | [_, _], _ => rfl)
def exL (K : PySem.W.Frag) : List Bool := [He.eqO (PySem.W.nsIn K mainGlobals "any") (some none),
  He.eqO (PySem.W.nsIn K mainGlobals "bool") (some none),
  He.eqO (PySem.W.nsIn K mainGlobals "dict") (some none),
  He.eqO (PySem.W.nsIn K mainGlobals "enumerate") (some none),
  He.eqO (PySem.W.nsIn K mainGlobals "int") (some none),
  He.eqO (PySem.W.nsIn K mainGlobals "isinstance") (some none),
  He.eqO (PySem.W.nsIn K mainGlobals "len") (some none),
  He.eqO (PySem.W.nsIn K mainGlobals "list") (some none),
  He.eqO (PySem.W.nsIn K mainGlobals "min") (some none),
  He.eqO (PySem.W.nsIn K mainGlobals "range") (some none),
  He.eqO (PySem.W.nsIn K mainGlobals "repr") (some none),
  He.eqO (PySem.W.nsIn K mainGlobals "sorted") (some none),
  He.eqO (PySem.W.nsIn K mainGlobals "str") (some none),
  He.eqO (PySem.W.nsIn K mainGlobals "tuple") (some none),
  He.eqO (PySem.W.nsIn K mainGlobals "NoSpare") (some (some (.ref (He.ga K "NoSpare")))),
  He.eqO (PySem.W.nsIn K mainGlobals "NoStops") (some (some (.ref (He.ga K "NoStops")))),
  He.eqO (PySem.W.nsIn K mainGlobals "NoWrites") (some (some (.ref (He.ga K "NoWrites")))),
  kitTb K ku_int kb_int ko_int,
  kitTb K ku_bool kb_bool ko_bool,
  kitTb K ku_tuple kb_tuple ko_tuple,
  kitTb K ku_str kb_str ko_str,
  kitTb K ku_list_tuple kb_list_tuple ko_list_tuple,
  kitTb K ku_NoWrites_NoStops kb_NoWrites_NoStops ko_NoWrites_NoStops,
  kitTb K ku_NoSpare_NoStops kb_NoSpare_NoStops ko_NoSpare_NoStops,
  globb K "CONSTANTS" c_CONSTANTS,
  noAtb K cs_spare "spare",
  noAtb K cs_at "at",
  namesb K "NoSpare" kx_NoSpare,
  namesb K "NoWrites" kx_NoWrites,
  He.eqO (PySem.W.nsIn K mainGlobals "_law_source_of") (some (some (.ref (He.ga K "_law_source_of")))),
  He.eqO (PySem.W.nsIn K mainGlobals "is_integer") (some (some (.ref (He.ga K "is_integer")))),
  He.eqO (PySem.W.nsIn K mainGlobals "is_mark") (some (some (.ref (He.ga K "is_mark")))),
  He.eqO (PySem.W.nsIn K mainGlobals "is_write") (some (some (.ref (He.ga K "is_write")))),
  He.eqO (PySem.W.nsIn K mainGlobals "look_writes") (some (some (.ref (He.ga K "look_writes")))),
  He.eqO (PySem.W.nsIn K mainGlobals "look_spare") (some (some (.ref (He.ga K "look_spare")))),
  He.eqO (PySem.W.nsIn K mainGlobals "next_free") (some (some (.ref (He.ga K "next_free")))),
  He.eqO (PySem.W.nsIn K mainGlobals "redirected") (some (some (.ref (He.ga K "redirected")))),
  He.eqO (PySem.W.nsIn K mainGlobals "row_of") (some (some (.ref (He.ga K "row_of")))),
  He.eqO (PySem.W.nsIn K mainGlobals "sequence") (some (some (.ref (He.ga K "sequence")))),
  He.eqO (PySem.W.nsIn K mainGlobals "_law_told") (some (some (.ref (He.ga K "_law_told")))),
  He.eqO (PySem.W.nsIn K mainGlobals "_law_next") (some (some (.ref (He.ga K "_law_next")))),
  He.eqO (PySem.W.nsIn K mainGlobals "_law_mixed") (some (some (.ref (He.ga K "_law_mixed")))),
  He.eqO (PySem.W.nsIn K mainGlobals "_law_one") (some (some (.ref (He.ga K "_law_one")))),
  He.eqO (PySem.W.nsIn K mainGlobals "law") (some (some (.ref (He.ga K "law")))),
  clsXb K "NoSpare" ["spare"],
  clsXb K "NoWrites" ["at"]]
def ex (K : PySem.W.Frag) : Bool := (exL K).all id
theorem exAt {K : PySem.W.Frag} (h : ex K = true) {b : Bool} (i : Nat) (e : (exL K)[i]? = some b := by rfl) : b = true := List.all_eq_true.mp h b (List.mem_of_getElem? e)
def fn : List He.DefD := [dd__law_source_of, dd_is_integer, dd_is_mark, dd_is_write, dd_look_writes, dd_look_spare, dd_next_free, dd_redirected, dd_row_of, dd_sequence, dd__law_told, dd__law_next, dd__law_mixed, dd__law_one, dd_law, di_NoSpare, di_NoWrites]
abbrev R : PySem.W.OpenRow := PySem.W.OpenLaw.row PySem.Challenge.rw_leastmarks_k41_writes_and_spares_refused
abbrev hk : PySem.W.Hook := He.hookX 7 [] fn [] [] ex
def ob (s : PySem.W.SharedT) : He.AlX := He.obsX 7 [] fn [] [] ex (HandSHeadRun.getT s)
theorem ob_eq (s : PySem.W.SharedT) : ob s = hk.obs s.abs := He.obsX_eq (HandSHeadRun.getT_eq s)
def loose0 : List Str := ["MarkError", "NoStops", "NoWrites", "NoSpare", "is_integer", "CONSTANTS", "is_mark", "is_write", "look_writes", "look_spare", "row_of", "redirected", "next_free", "sequence", "_law_source_of", "_law_next", "_law_one", "_law_mixed", "_law_told"]
def loose : List Str := loose0
theorem run (w : World) : HandSHeadRun.RunEq R (PySem.W.view R.prog [23]) hk ob 6000 loose w := by
  intro os
  kernel_rfl
theorem facts {w : World} {mg : Str → Option Value} {fa : Addr} {h : Heap} (Y : hk.says w h) (G : h.Ns mainGlobals mg) (hmg : mg "law" = some (.ref fa)) :
    ∃ (K : PySem.W.Frag) (fd : FuncData), K.In h ∧ (∀ (s : Shared) (u : Value), BindsTo s fd ⟨[u], []⟩ [("_law_script", u)]) ∧ ∀ base : Heap, K.In base → base.Ns mainGlobals mg → FnG (PySem.Challenge.rw_leastmarks_k41_writes_and_spares_refused).prog w K mg base (L2.CX (PySem.Challenge.rw_leastmarks_k41_writes_and_spares_refused).prog w) 7 fa fd ["_law_script"] (spP ⟨K, mg⟩ 1 f_law) := by
  obtain ⟨K, KX, c⟩ := Y
  have m := c.more
  have T : Txt K mg := ⟨freeb_ok KX G (exAt m 0), freeb_ok KX G (exAt m 1), freeb_ok KX G (exAt m 2), freeb_ok KX G (exAt m 3), freeb_ok KX G (exAt m 4), freeb_ok KX G (exAt m 5), freeb_ok KX G (exAt m 6), freeb_ok KX G (exAt m 7), freeb_ok KX G (exAt m 8), freeb_ok KX G (exAt m 9), freeb_ok KX G (exAt m 10), freeb_ok KX G (exAt m 11), freeb_ok KX G (exAt m 12), freeb_ok KX G (exAt m 13), glob_ok KX G (exAt m 14), glob_ok KX G (exAt m 15), glob_ok KX G (exAt m 16), kitTb_ok KX G (exAt m 17), kitTb_ok KX G (exAt m 18), kitTb_ok KX G (exAt m 19), kitTb_ok KX G (exAt m 20), kitTb_ok KX G (exAt m 21), kitTb_ok KX G (exAt m 22), kitTb_ok KX G (exAt m 23), globb_ok KX G (exAt m 24), noAtb_ok KX G (exAt m 25), noAtb_ok KX G (exAt m 26), namesb_ok KX G (exAt m 27), namesb_ok KX G (exAt m 28)⟩
  obtain ⟨fd__law_source_of, F__law_source_of⟩ := c.t.d.def_ 0 (d := dd__law_source_of) rfl
  obtain ⟨fd_is_integer, F_is_integer⟩ := c.t.d.def_ 1 (d := dd_is_integer) rfl
  obtain ⟨fd_is_mark, F_is_mark⟩ := c.t.d.def_ 2 (d := dd_is_mark) rfl
  obtain ⟨fd_is_write, F_is_write⟩ := c.t.d.def_ 3 (d := dd_is_write) rfl
  obtain ⟨fd_look_writes, F_look_writes⟩ := c.t.d.def_ 4 (d := dd_look_writes) rfl
  obtain ⟨fd_look_spare, F_look_spare⟩ := c.t.d.def_ 5 (d := dd_look_spare) rfl
  obtain ⟨fd_next_free, F_next_free⟩ := c.t.d.def_ 6 (d := dd_next_free) rfl
  obtain ⟨fd_redirected, F_redirected⟩ := c.t.d.def_ 7 (d := dd_redirected) rfl
  obtain ⟨fd_row_of, F_row_of⟩ := c.t.d.def_ 8 (d := dd_row_of) rfl
  obtain ⟨fd_sequence, F_sequence⟩ := c.t.d.def_ 9 (d := dd_sequence) rfl
  obtain ⟨fd__law_told, F__law_told⟩ := c.t.d.def_ 10 (d := dd__law_told) rfl
  obtain ⟨fd__law_next, F__law_next⟩ := c.t.d.def_ 11 (d := dd__law_next) rfl
  obtain ⟨fd__law_mixed, F__law_mixed⟩ := c.t.d.def_ 12 (d := dd__law_mixed) rfl
  obtain ⟨fd__law_one, F__law_one⟩ := c.t.d.def_ 13 (d := dd__law_one) rfl
  obtain ⟨fd_law, F_law⟩ := c.t.d.def_ 14 (d := dd_law) rfl
  obtain ⟨fd_iNoSpare, F_iNoSpare⟩ := c.t.d.def_ 15 (d := di_NoSpare) rfl
  obtain ⟨fd_iNoWrites, F_iNoWrites⟩ := c.t.d.def_ 16 (d := di_NoWrites) rfl
  have g__law_source_of : mg "_law_source_of" = some (.ref (He.ga K "_law_source_of")) := glob_ok KX G (exAt m 29)
  have g_is_integer : mg "is_integer" = some (.ref (He.ga K "is_integer")) := glob_ok KX G (exAt m 30)
  have g_is_mark : mg "is_mark" = some (.ref (He.ga K "is_mark")) := glob_ok KX G (exAt m 31)
  have g_is_write : mg "is_write" = some (.ref (He.ga K "is_write")) := glob_ok KX G (exAt m 32)
  have g_look_writes : mg "look_writes" = some (.ref (He.ga K "look_writes")) := glob_ok KX G (exAt m 33)
  have g_look_spare : mg "look_spare" = some (.ref (He.ga K "look_spare")) := glob_ok KX G (exAt m 34)
  have g_next_free : mg "next_free" = some (.ref (He.ga K "next_free")) := glob_ok KX G (exAt m 35)
  have g_redirected : mg "redirected" = some (.ref (He.ga K "redirected")) := glob_ok KX G (exAt m 36)
  have g_row_of : mg "row_of" = some (.ref (He.ga K "row_of")) := glob_ok KX G (exAt m 37)
  have g_sequence : mg "sequence" = some (.ref (He.ga K "sequence")) := glob_ok KX G (exAt m 38)
  have g__law_told : mg "_law_told" = some (.ref (He.ga K "_law_told")) := glob_ok KX G (exAt m 39)
  have g__law_next : mg "_law_next" = some (.ref (He.ga K "_law_next")) := glob_ok KX G (exAt m 40)
  have g__law_mixed : mg "_law_mixed" = some (.ref (He.ga K "_law_mixed")) := glob_ok KX G (exAt m 41)
  have g__law_one : mg "_law_one" = some (.ref (He.ga K "_law_one")) := glob_ok KX G (exAt m 42)
  have g_law : mg "law" = some (.ref (He.ga K "law")) := glob_ok KX G (exAt m 43)
  have e := hmg.symm.trans g_law
  cases e
  have B__law_source_of : Binds K fd__law_source_of ["_law_cell"] [] := FunD.bindsN F__law_source_of fun _ _ _ _ _ _ us hl => match us, hl with | [_], _ => rfl
  have B_is_integer : Binds K fd_is_integer ["value"] [] := FunD.bindsN F_is_integer fun _ _ _ _ _ _ us hl => match us, hl with | [_], _ => rfl
  have B_is_mark : Binds K fd_is_mark ["value"] [] := FunD.bindsN F_is_mark fun _ _ _ _ _ _ us hl => match us, hl with | [_], _ => rfl
  have B_is_write : Binds K fd_is_write ["value"] [] := FunD.bindsN F_is_write fun _ _ _ _ _ _ us hl => match us, hl with | [_], _ => rfl
  have B_look_writes : Binds K fd_look_writes ["writes"] [] := FunD.bindsN F_look_writes fun _ _ _ _ _ _ us hl => match us, hl with | [_], _ => rfl
  have B_look_spare : Binds K fd_look_spare ["writes", "spare"] [] := FunD.bindsN F_look_spare fun _ _ _ _ _ _ us hl => match us, hl with | [_, _], _ => rfl
  have B_next_free : Binds K fd_next_free ["left"] [] := FunD.bindsN F_next_free fun _ _ _ _ _ _ us hl => match us, hl with | [_], _ => rfl
  have B_redirected : Binds K fd_redirected ["left", "mark", "other"] [] := FunD.bindsN F_redirected fun _ _ _ _ _ _ us hl => match us, hl with | [_, _, _], _ => rfl
  have B_row_of : Binds K fd_row_of ["mark", "source"] [] := FunD.bindsN F_row_of fun _ _ _ _ _ _ us hl => match us, hl with | [_, _], _ => rfl
  have B_sequence : Binds K fd_sequence ["writes", "spare"] [] := FunD.bindsN F_sequence fun _ _ _ _ _ _ us hl => match us, hl with | [_, _], _ => rfl
  have B__law_told : Binds K fd__law_told ["_law_writes", "_law_spare"] [] := FunD.bindsN F__law_told fun _ _ _ _ _ _ us hl => match us, hl with | [_, _], _ => rfl
  have B__law_next : Binds K fd__law_next ["_law_source", "_law_many"] [] := FunD.bindsN F__law_next fun _ _ _ _ _ _ us hl => match us, hl with | [_, _], _ => rfl
  have B__law_mixed : Binds K fd__law_mixed ["_law_source", "_law_some"] [] := FunD.bindsN F__law_mixed fun _ _ _ _ _ _ us hl => match us, hl with | [_, _], _ => rfl
  have B__law_one : Binds K fd__law_one ["_law_source", "_law_some"] [] := FunD.bindsN F__law_one fun _ _ _ _ _ _ us hl => match us, hl with | [_, _], _ => rfl
  have B_law : Binds K fd_law ["_law_script"] [] := FunD.bindsN F_law fun _ _ _ _ _ _ us hl => match us, hl with | [_], _ => rfl
  refine ⟨K, fd_law, KX, fun s u => FunD.bindsA (ps := ["_law_script"]) F_law (fun _ _ _ _ _ _ us hl => match us, hl with | [_], _ => rfl) s [u] rfl, fun base _ _ => ?_⟩
  have X_NoSpare : ClsX (PySem.Challenge.rw_leastmarks_k41_writes_and_spares_refused).prog w K mg base "NoSpare" ["spare"] := xi_NoSpare KX G F_iNoSpare (exAt m 44)
  have X_NoWrites : ClsX (PySem.Challenge.rw_leastmarks_k41_writes_and_spares_refused).prog w K mg base "NoWrites" ["at"] := xi_NoWrites KX G F_iNoWrites (exAt m 45)
  have O__law_source_of : FnG (PySem.Challenge.rw_leastmarks_k41_writes_and_spares_refused).prog w K mg base (L2.CX (PySem.Challenge.rw_leastmarks_k41_writes_and_spares_refused).prog w) 1 (He.ga K "_law_source_of") fd__law_source_of ["_law_cell"] (spS ⟨K, mg⟩ 1 f__law_source_of) := fn_s F__law_source_of sc__law_source_of (b__law_source_of T  )
  have C__law_source_of : CalX (PySem.Challenge.rw_leastmarks_k41_writes_and_spares_refused).prog w K mg base 1 "_law_source_of" (spS ⟨K, mg⟩ 1 f__law_source_of) := ⟨_, fd__law_source_of, _, O__law_source_of, g__law_source_of, F__law_source_of.kp, B__law_source_of⟩
  have O_is_integer : FnG (PySem.Challenge.rw_leastmarks_k41_writes_and_spares_refused).prog w K mg base (L2.CX (PySem.Challenge.rw_leastmarks_k41_writes_and_spares_refused).prog w) 1 (He.ga K "is_integer") fd_is_integer ["value"] (spP ⟨K, mg⟩ 1 f_is_integer) := fn_p F_is_integer sc_is_integer (b_is_integer T  )
  have C_is_integer : CalX (PySem.Challenge.rw_leastmarks_k41_writes_and_spares_refused).prog w K mg base 1 "is_integer" (spP ⟨K, mg⟩ 1 f_is_integer) := ⟨_, fd_is_integer, _, O_is_integer, g_is_integer, F_is_integer.kp, B_is_integer⟩
  have O_is_mark : FnG (PySem.Challenge.rw_leastmarks_k41_writes_and_spares_refused).prog w K mg base (L2.CX (PySem.Challenge.rw_leastmarks_k41_writes_and_spares_refused).prog w) 2 (He.ga K "is_mark") fd_is_mark ["value"] (spP ⟨K, mg⟩ 1 f_is_mark) := fn_p F_is_mark sc_is_mark (b_is_mark T C_is_integer )
  have C_is_mark : CalX (PySem.Challenge.rw_leastmarks_k41_writes_and_spares_refused).prog w K mg base 2 "is_mark" (spP ⟨K, mg⟩ 1 f_is_mark) := ⟨_, fd_is_mark, _, O_is_mark, g_is_mark, F_is_mark.kp, B_is_mark⟩
  have O_is_write : FnG (PySem.Challenge.rw_leastmarks_k41_writes_and_spares_refused).prog w K mg base (L2.CX (PySem.Challenge.rw_leastmarks_k41_writes_and_spares_refused).prog w) 3 (He.ga K "is_write") fd_is_write ["value"] (spP ⟨K, mg⟩ 1 f_is_write) := fn_p F_is_write sc_is_write (b_is_write T C_is_mark )
  have C_is_write : CalX (PySem.Challenge.rw_leastmarks_k41_writes_and_spares_refused).prog w K mg base 3 "is_write" (spP ⟨K, mg⟩ 1 f_is_write) := ⟨_, fd_is_write, _, O_is_write, g_is_write, F_is_write.kp, B_is_write⟩
  have O_look_writes : FnG (PySem.Challenge.rw_leastmarks_k41_writes_and_spares_refused).prog w K mg base (L2.CX (PySem.Challenge.rw_leastmarks_k41_writes_and_spares_refused).prog w) 4 (He.ga K "look_writes") fd_look_writes ["writes"] (spP ⟨K, mg⟩ 1 f_look_writes) := fn_p F_look_writes sc_look_writes (b_look_writes T C_is_write X_NoWrites)
  have C_look_writes : CalX (PySem.Challenge.rw_leastmarks_k41_writes_and_spares_refused).prog w K mg base 4 "look_writes" (spP ⟨K, mg⟩ 1 f_look_writes) := ⟨_, fd_look_writes, _, O_look_writes, g_look_writes, F_look_writes.kp, B_look_writes⟩
  have O_look_spare : FnG (PySem.Challenge.rw_leastmarks_k41_writes_and_spares_refused).prog w K mg base (L2.CX (PySem.Challenge.rw_leastmarks_k41_writes_and_spares_refused).prog w) 3 (He.ga K "look_spare") fd_look_spare ["writes", "spare"] (spP ⟨K, mg⟩ 2 f_look_spare) := fn_p F_look_spare sc_look_spare (b_look_spare T C_is_mark X_NoSpare)
  have C_look_spare : CalX (PySem.Challenge.rw_leastmarks_k41_writes_and_spares_refused).prog w K mg base 3 "look_spare" (spP ⟨K, mg⟩ 2 f_look_spare) := ⟨_, fd_look_spare, _, O_look_spare, g_look_spare, F_look_spare.kp, B_look_spare⟩
  have O_next_free : FnG (PySem.Challenge.rw_leastmarks_k41_writes_and_spares_refused).prog w K mg base (L2.CX (PySem.Challenge.rw_leastmarks_k41_writes_and_spares_refused).prog w) 1 (He.ga K "next_free") fd_next_free ["left"] (spS ⟨K, mg⟩ 1 f_next_free) := fn_s F_next_free sc_next_free (b_next_free T  )
  have C_next_free : CalX (PySem.Challenge.rw_leastmarks_k41_writes_and_spares_refused).prog w K mg base 1 "next_free" (spS ⟨K, mg⟩ 1 f_next_free) := ⟨_, fd_next_free, _, O_next_free, g_next_free, F_next_free.kp, B_next_free⟩
  have O_redirected : FnG (PySem.Challenge.rw_leastmarks_k41_writes_and_spares_refused).prog w K mg base (L2.CX (PySem.Challenge.rw_leastmarks_k41_writes_and_spares_refused).prog w) 1 (He.ga K "redirected") fd_redirected ["left", "mark", "other"] (spS ⟨K, mg⟩ 3 f_redirected) := fn_s F_redirected sc_redirected (b_redirected T  )
  have C_redirected : CalX (PySem.Challenge.rw_leastmarks_k41_writes_and_spares_refused).prog w K mg base 1 "redirected" (spS ⟨K, mg⟩ 3 f_redirected) := ⟨_, fd_redirected, _, O_redirected, g_redirected, F_redirected.kp, B_redirected⟩
  have O_row_of : FnG (PySem.Challenge.rw_leastmarks_k41_writes_and_spares_refused).prog w K mg base (L2.CX (PySem.Challenge.rw_leastmarks_k41_writes_and_spares_refused).prog w) 1 (He.ga K "row_of") fd_row_of ["mark", "source"] (spP ⟨K, mg⟩ 2 f_row_of) := fn_p F_row_of sc_row_of (b_row_of T  )
  have C_row_of : CalX (PySem.Challenge.rw_leastmarks_k41_writes_and_spares_refused).prog w K mg base 1 "row_of" (spP ⟨K, mg⟩ 2 f_row_of) := ⟨_, fd_row_of, _, O_row_of, g_row_of, F_row_of.kp, B_row_of⟩
  have O_sequence : FnG (PySem.Challenge.rw_leastmarks_k41_writes_and_spares_refused).prog w K mg base (L2.CX (PySem.Challenge.rw_leastmarks_k41_writes_and_spares_refused).prog w) 5 (He.ga K "sequence") fd_sequence ["writes", "spare"] (spP ⟨K, mg⟩ 2 f_sequence) := fn_p F_sequence sc_sequence (b_sequence T C_look_spare C_look_writes C_next_free C_redirected C_row_of )
  have C_sequence : CalX (PySem.Challenge.rw_leastmarks_k41_writes_and_spares_refused).prog w K mg base 5 "sequence" (spP ⟨K, mg⟩ 2 f_sequence) := ⟨_, fd_sequence, _, O_sequence, g_sequence, F_sequence.kp, B_sequence⟩
  have O__law_told : FnG (PySem.Challenge.rw_leastmarks_k41_writes_and_spares_refused).prog w K mg base (L2.CX (PySem.Challenge.rw_leastmarks_k41_writes_and_spares_refused).prog w) 6 (He.ga K "_law_told") fd__law_told ["_law_writes", "_law_spare"] (spP ⟨K, mg⟩ 2 f__law_told) := fn_p F__law_told sc__law_told (b__law_told T C_sequence )
  have C__law_told : CalX (PySem.Challenge.rw_leastmarks_k41_writes_and_spares_refused).prog w K mg base 6 "_law_told" (spP ⟨K, mg⟩ 2 f__law_told) := ⟨_, fd__law_told, _, O__law_told, g__law_told, F__law_told.kp, B__law_told⟩
  have O__law_next : FnG (PySem.Challenge.rw_leastmarks_k41_writes_and_spares_refused).prog w K mg base (L2.CX (PySem.Challenge.rw_leastmarks_k41_writes_and_spares_refused).prog w) 1 (He.ga K "_law_next") fd__law_next ["_law_source", "_law_many"] (spS ⟨K, mg⟩ 2 f__law_next) := fn_s F__law_next sc__law_next (b__law_next T  )
  have C__law_next : CalX (PySem.Challenge.rw_leastmarks_k41_writes_and_spares_refused).prog w K mg base 1 "_law_next" (spS ⟨K, mg⟩ 2 f__law_next) := ⟨_, fd__law_next, _, O__law_next, g__law_next, F__law_next.kp, B__law_next⟩
  have O__law_mixed : FnG (PySem.Challenge.rw_leastmarks_k41_writes_and_spares_refused).prog w K mg base (L2.CX (PySem.Challenge.rw_leastmarks_k41_writes_and_spares_refused).prog w) 2 (He.ga K "_law_mixed") fd__law_mixed ["_law_source", "_law_some"] (spS ⟨K, mg⟩ 2 f__law_mixed) := fn_s F__law_mixed sc__law_mixed (b__law_mixed T C__law_next )
  have C__law_mixed : CalX (PySem.Challenge.rw_leastmarks_k41_writes_and_spares_refused).prog w K mg base 2 "_law_mixed" (spS ⟨K, mg⟩ 2 f__law_mixed) := ⟨_, fd__law_mixed, _, O__law_mixed, g__law_mixed, F__law_mixed.kp, B__law_mixed⟩
  have O__law_one : FnG (PySem.Challenge.rw_leastmarks_k41_writes_and_spares_refused).prog w K mg base (L2.CX (PySem.Challenge.rw_leastmarks_k41_writes_and_spares_refused).prog w) 2 (He.ga K "_law_one") fd__law_one ["_law_source", "_law_some"] (spS ⟨K, mg⟩ 2 f__law_one) := fn_s F__law_one sc__law_one (b__law_one T C__law_next )
  have C__law_one : CalX (PySem.Challenge.rw_leastmarks_k41_writes_and_spares_refused).prog w K mg base 2 "_law_one" (spS ⟨K, mg⟩ 2 f__law_one) := ⟨_, fd__law_one, _, O__law_one, g__law_one, F__law_one.kp, B__law_one⟩
  have O_law : FnG (PySem.Challenge.rw_leastmarks_k41_writes_and_spares_refused).prog w K mg base (L2.CX (PySem.Challenge.rw_leastmarks_k41_writes_and_spares_refused).prog w) 7 (He.ga K "law") fd_law ["_law_script"] (spP ⟨K, mg⟩ 1 f_law) := fn_p F_law sc_law (b_law T C__law_mixed C__law_next C__law_one C__law_source_of C__law_told )
  exact O_law
end K41
open PySem PySem.W PySem.Calls PyProof.Rows
theorem PySem.Challenge.cw_leastmarks_k41_writes_and_spares_refused_holds : PySem.Challenge.rw_leastmarks_k41_writes_and_spares_refused.Holds := by
  w_on; o_law
  refine HandSHeadRun.head_any (r := OpenLaw.row PySem.Challenge.rw_leastmarks_k41_writes_and_spares_refused) (q := view (OpenLaw.row PySem.Challenge.rw_leastmarks_k41_writes_and_spares_refused).prog [23]) (H := K41.hk) (ob := K41.ob) (M := 6000) (loose := K41.loose) (d := HandSHeadRun.topDef (OpenLaw.row PySem.Challenge.rw_leastmarks_k41_writes_and_spares_refused).prog 23) (kwd := []) K41.ob_eq
    (by kernel_rfl) (fun s => by kernel_rfl) K41.run (by kernel_rfl) (by kernel_rfl) (by kernel_rfl) (by rfl) (by first | assumption | decide +kernel) (by decide +kernel) ⟨rfl, rfl, rfl, rfl, rfl, by decide +kernel⟩ ?hw ?hc
  case hw => w_witness2
  case hc =>
    refine Gh.walk_ofW (l := PySem.Challenge.rw_leastmarks_k41_writes_and_spares_refused) (n := 63) (k := 7) (x := "_law_script") (f := K41.f_law) rfl (by decide) (by kernel_rfl) ⟨rfl, by decide, by decide⟩ ?F K41.law_true
    intro w mg fa h Y G hmg0
    have hmg : mg ("law" : PySem.Str) = some (.ref fa) := by
      have e : (HandSHeadRun.topDef (OpenLaw.row PySem.Challenge.rw_leastmarks_k41_writes_and_spares_refused).prog 23).name = ("law" : PySem.Str) := by kernel_rfl
      rw [← e]
      exact hmg0
    exact K41.facts Y G hmg
#print axioms PySem.Challenge.cw_leastmarks_k41_writes_and_spares_refused_holds

