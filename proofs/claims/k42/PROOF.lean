import PyProof.Rows.All
import Wide.All
import OpenK.AllK
import Wide.FinOn
import HandS.ForMost
import HandS.Exc
import HandS.WordsExc
import HandS.ExcInit
import HandS.ExcIs
import KE.KExcIs
import HandS.IsInst
import HandS.Deep
import HandS.ExcOwn
import HandS.TupAny
import HandS.Wide
import HandS.Defaults
import HandS.Zip
import HandS.Walk
import HandS.RaiseMore
import HandS.ExcField
import HandS.ExcValue
import HandS.Head2
import HandS.HeadEnd
import HandS.HeadHook2
import HandS.HeadHook4
import HandS.EndBits
import PySem.Challenge.RW_leastmarks_k42_errors_of_one_family
set_option Elab.async false
set_option linter.all false
set_option maxRecDepth 100000
set_option maxHeartbeats 4000000
namespace Gh
open PySem PySem.Spec PyProof.Rows L2

/-! ### data (trees that no one changes), values, ghost objects -/
inductive D where
  | non | bl (b : Bool) | int (i : Int) | str (x : Str)
  | tup (ds : List D) | lst (ds : List D) | dic (kvs : List (D × D)) | ins (c : Str) (fs : List (Str × D))
inductive W where
  | d (x : D) | ref (i : Nat) | tup (ws : List W)
inductive GO where
  | lst (ws : List W) | dic (t : Bool) (kvs : List (D × W)) | ins (c : Str) (fs : List (Str × W)) | dead
structure Exc where
  c : Str
  fs : List (Str × D)
abbrev GEnv := List (Option W)
abbrev Hg := List GO
/-- keys of dicts -/
def keyD : D → Option Key
  | .int i => some (.inl i)
  | .str x => some (.inr x)
  | _ => none
def keysL : List D → Option (List Key)
  | [] => some []
  | x :: r => match keyD x, keysL r with
    | some k, some ks => some (k :: ks)
    | _, _ => none
def keysD : D → Option (List Key)
  | .tup ds => keysL ds
  | _ => none

/-- the module's facts -/
structure Md where
  K : PySem.W.Frag
  mg : Str → Option Value
/-- what stays through a def's body -/
structure GC where
  m : Md
  B : Hp
  F0 : Hp
  wx : WX

/-- a class of instances -/
structure InC (K : PySem.W.Frag) (Ca : Addr) : Prop where
  cl : Cls K Ca
  ha : PySem.W.findIn K (.ref Ca) "__class__" = some (some (.builtin "object.__class__"))
  hn : PySem.W.specialIn K (.builtin "object.__class__") "__get__" = some (some (.builtin "getset_descriptor.__get__"))
  ht : PySem.W.takesIn K (.builtin "object.__class__") = some true
  hm : PySem.W.mroIn K Ca (.type "object") = some true
/-- at a: an object of the class at Ca with these fields: an instance, or an exception that was made -/
inductive InsAt (K : PySem.W.Frag) (F : Hp) (a Ca : Addr) (es : List (Str × V)) : Prop where
  | ins (dx : Addr) (c : InC K Ca) (h : F a = some (.ins Ca dx es))
  | exc (dx : Addr) (c : ExcC K Ca) (h : F a = some (exo a Ca (some dx))) (hd : F dx = some (exd dx es))
  | exc0 (c : ExcC K Ca) (h : F a = some (exo a Ca none)) (he : es = [])
theorem InsAt.mono {K : PySem.W.Frag} {F F' : Hp} {a Ca : Addr} {es : List (Str × V)} (e : Same F F') : InsAt K F a Ca es → InsAt K F' a Ca es
  | .ins dx c h => .ins dx c (e _ _ h)
  | .exc dx c h hd => .exc dx c (e _ _ h) (e _ _ hd)
  | .exc0 c h he => .exc0 c (e _ _ h) he

section
variable (C : Md) (F : Hp)
mutual
def Rp : D → V → Prop
  | .non, v => v = .non
  | .bl b, v => v = .bl b
  | .int i, v => v = .int i
  | .str x, v => v = .str x
  | .tup ds, v => ∃ a xs, v = .ref a ∧ SqT C.K F a xs ∧ RpL ds xs
  | .lst ds, v => ∃ a xs, v = .ref a ∧ SqL C.K F a xs ∧ RpL ds xs
  | .dic kvs, v => ∃ a, v = .ref a ∧ ((∃ es, Rd F a (.dK es) ∧ RpK kvs es) ∨ (∃ es, Rd F a (.dT es) ∧ RpT kvs es))
  | .ins c fs, v => ∃ a Ca es, v = .ref a ∧ C.mg c = some (.ref Ca) ∧ InsAt C.K F a Ca es ∧ RpF fs es
def RpL : List D → List V → Prop
  | [], xs => xs = []
  | d :: ds, xs => ∃ x r, xs = x :: r ∧ Rp d x ∧ RpL ds r
def RpK : List (D × D) → List (Key × V) → Prop
  | [], es => es = []
  | (k, d) :: r, es => ∃ kk x er, es = (kk, x) :: er ∧ keyD k = some kk ∧ Rp d x ∧ RpK r er
def RpT : List (D × D) → List (List Key × V) → Prop
  | [], es => es = []
  | (k, d) :: r, es => ∃ kk x er, es = (kk, x) :: er ∧ keysD k = some kk ∧ Rp d x ∧ RpT r er
def RpF : List (Str × D) → List (Str × V) → Prop
  | [], es => es = []
  | (k, d) :: r, es => ∃ x er, es = (k, x) :: er ∧ Rp d x ∧ RpF r er
end
end

theorem Same.sqL {K : PySem.W.Frag} {H H' : Hp} {a : Addr} {xs : List V} (e : Same H H') (h : SqL K H a xs) : SqL K H' a xs := e.seq h
theorem Same.sqT {K : PySem.W.Frag} {H H' : Hp} {a : Addr} {xs : List V} (e : Same H H') (h : SqT K H a xs) : SqT K H' a xs := by
  rcases h with (h | ⟨o, h⟩) | h
  · exact .inl (.inl (e _ _ h))
  · exact .inl (.inr ⟨o, e _ _ h⟩)
  · exact .inr h
theorem Same.rd {H H' : Hp} {a : Addr} {u : HO} (e : Same H H') (h : Rd H a u) : Rd H' a u := by
  rcases h with h | ⟨o, h⟩
  · exact .inl (e _ _ h)
  · exact .inr ⟨o, e _ _ h⟩

section
variable {C : Md} {F F' : Hp}
mutual
theorem Rp.mono (e : Same F F') : ∀ {d : D} {v : V}, Rp C F d v → Rp C F' d v
  | .non, _, h => by simpa only [Rp] using h
  | .bl _, _, h => by simpa only [Rp] using h
  | .int _, _, h => by simpa only [Rp] using h
  | .str _, _, h => by simpa only [Rp] using h
  | .tup ds, v, h => by
    simp only [Rp] at h ⊢
    obtain ⟨a, xs, h1, h2, h3⟩ := h
    exact ⟨a, xs, h1, Same.sqT e h2, RpL.mono e h3⟩
  | .lst ds, v, h => by
    simp only [Rp] at h ⊢
    obtain ⟨a, xs, h1, h2, h3⟩ := h
    exact ⟨a, xs, h1, Same.sqL e h2, RpL.mono e h3⟩
  | .dic kvs, v, h => by
    simp only [Rp] at h ⊢
    obtain ⟨a, h1, h2⟩ := h
    refine ⟨a, h1, ?_⟩
    rcases h2 with ⟨es, h2, h3⟩ | ⟨es, h2, h3⟩
    · exact .inl ⟨es, Same.rd e h2, RpK.mono e h3⟩
    · exact .inr ⟨es, Same.rd e h2, RpT.mono e h3⟩
  | .ins c fs, v, h => by
    simp only [Rp] at h ⊢
    obtain ⟨a, Ca, es, h1, h2, h3, h4⟩ := h
    exact ⟨a, Ca, es, h1, h2, h3.mono e, RpF.mono e h4⟩
theorem RpL.mono (e : Same F F') : ∀ {ds : List D} {xs : List V}, RpL C F ds xs → RpL C F' ds xs
  | [], _, h => by simpa only [RpL] using h
  | d :: ds, xs, h => by
    simp only [RpL] at h ⊢
    obtain ⟨x, r, h1, h2, h3⟩ := h
    exact ⟨x, r, h1, Rp.mono e h2, RpL.mono e h3⟩
theorem RpK.mono (e : Same F F') : ∀ {ds : List (D × D)} {xs : List (Key × V)}, RpK C F ds xs → RpK C F' ds xs
  | [], _, h => by simpa only [RpK] using h
  | (k, d) :: ds, xs, h => by
    simp only [RpK] at h ⊢
    obtain ⟨kk, x, r, h1, h2, h3, h4⟩ := h
    exact ⟨kk, x, r, h1, h2, Rp.mono e h3, RpK.mono e h4⟩
theorem RpT.mono (e : Same F F') : ∀ {ds : List (D × D)} {xs : List (List Key × V)}, RpT C F ds xs → RpT C F' ds xs
  | [], _, h => by simpa only [RpT] using h
  | (k, d) :: ds, xs, h => by
    simp only [RpT] at h ⊢
    obtain ⟨kk, x, r, h1, h2, h3, h4⟩ := h
    exact ⟨kk, x, r, h1, h2, Rp.mono e h3, RpT.mono e h4⟩
theorem RpF.mono (e : Same F F') : ∀ {ds : List (Str × D)} {xs : List (Str × V)}, RpF C F ds xs → RpF C F' ds xs
  | [], _, h => by simpa only [RpF] using h
  | (k, d) :: ds, xs, h => by
    simp only [RpF] at h ⊢
    obtain ⟨x, r, h1, h2, h3⟩ := h
    exact ⟨x, r, h1, Rp.mono e h2, RpF.mono e h3⟩
end
end

/-! ### values with references -/
section
variable (C : Md) (F : Hp) (ι : Nat → Addr) (n : Nat)
mutual
def RpW : W → V → Prop
  | .d x, v => Rp C F x v
  | .ref i, v => i < n ∧ v = .ref (ι i)
  | .tup ws, v => ∃ a xs, v = .ref a ∧ SqT C.K F a xs ∧ RpWL ws xs
def RpWL : List W → List V → Prop
  | [], xs => xs = []
  | w :: ws, xs => ∃ x r, xs = x :: r ∧ RpW w x ∧ RpWL ws r
end
def RpWK : List (D × W) → List (Key × V) → Prop
  | [], es => es = []
  | (k, d) :: r, es => ∃ kk x er, es = (kk, x) :: er ∧ keyD k = some kk ∧ RpW C F ι n d x ∧ RpWK r er
def RpWT : List (D × W) → List (List Key × V) → Prop
  | [], es => es = []
  | (k, d) :: r, es => ∃ kk x er, es = (kk, x) :: er ∧ keysD k = some kk ∧ RpW C F ι n d x ∧ RpWT r er
def RpWF : List (Str × W) → List (Str × V) → Prop
  | [], es => es = []
  | (k, d) :: r, es => ∃ x er, es = (k, x) :: er ∧ RpW C F ι n d x ∧ RpWF r er
/-- a ghost object as it stands at a -/
def RpO (H : Hp) (a : Addr) : GO → Prop
  | .lst ws => ∃ xs, H a = some (.lst xs) ∧ RpWL C F ι n ws xs
  | .dic false kvs => ∃ es, H a = some (.dK es) ∧ RpWK C F ι n kvs es
  | .dic true kvs => ∃ es, H a = some (.dT es) ∧ RpWT C F ι n kvs es
  | .ins c fs => ∃ Ca dx es, C.mg c = some (.ref Ca) ∧ InC C.K Ca ∧ H a = some (.ins Ca dx es) ∧ RpWF C F ι n fs es
  | .dead => True
end
/-- from one point of a run to a later one -/
structure Ext (F : Hp) (ι : Nat → Addr) (n : Nat) (F' : Hp) (ι' : Nat → Addr) (n' : Nat) : Prop where
  fr : Same F F'
  io : ∀ i, i < n → ι' i = ι i
  le : n ≤ n'
theorem Ext.refl {F : Hp} {ι : Nat → Addr} {n : Nat} : Ext F ι n F ι n := ⟨Same.refl _, fun _ _ => rfl, Nat.le_refl _⟩
theorem Ext.trans {F F1 F2 : Hp} {ι ι1 ι2 : Nat → Addr} {n n1 n2 : Nat} (a : Ext F ι n F1 ι1 n1) (b : Ext F1 ι1 n1 F2 ι2 n2) : Ext F ι n F2 ι2 n2 :=
  ⟨a.fr.trans b.fr, fun i h => (b.io i (Nat.lt_of_lt_of_le h a.le)).trans (a.io i h), Nat.le_trans a.le b.le⟩
section
variable {C : Md} {F F' : Hp} {ι ι' : Nat → Addr} {n n' : Nat}
mutual
theorem RpW.mono (e : Ext F ι n F' ι' n') : ∀ {w : W} {v : V}, RpW C F ι n w v → RpW C F' ι' n' w v
  | .d x, v, h => by
    simp only [RpW] at h ⊢
    exact Rp.mono e.fr h
  | .ref i, v, h => by
    simp only [RpW] at h ⊢
    exact ⟨Nat.lt_of_lt_of_le h.1 e.le, by rw [e.io i h.1]; exact h.2⟩
  | .tup ws, v, h => by
    simp only [RpW] at h ⊢
    obtain ⟨a, xs, h1, h2, h3⟩ := h
    exact ⟨a, xs, h1, Same.sqT e.fr h2, RpWL.mono e h3⟩
theorem RpWL.mono (e : Ext F ι n F' ι' n') : ∀ {ws : List W} {xs : List V}, RpWL C F ι n ws xs → RpWL C F' ι' n' ws xs
  | [], _, h => by simpa only [RpWL] using h
  | w :: ws, xs, h => by
    simp only [RpWL] at h ⊢
    obtain ⟨x, r, h1, h2, h3⟩ := h
    exact ⟨x, r, h1, RpW.mono e h2, RpWL.mono e h3⟩
end
theorem RpWK.mono (e : Ext F ι n F' ι' n') : ∀ {ds : List (D × W)} {xs : List (Key × V)}, RpWK C F ι n ds xs → RpWK C F' ι' n' ds xs
  | [], _, h => by simpa only [RpWK] using h
  | (k, d) :: ds, xs, h => by
    simp only [RpWK] at h ⊢
    obtain ⟨kk, x, r, h1, h2, h3, h4⟩ := h
    exact ⟨kk, x, r, h1, h2, h3.mono e, RpWK.mono e h4⟩
theorem RpWT.mono (e : Ext F ι n F' ι' n') : ∀ {ds : List (D × W)} {xs : List (List Key × V)}, RpWT C F ι n ds xs → RpWT C F' ι' n' ds xs
  | [], _, h => by simpa only [RpWT] using h
  | (k, d) :: ds, xs, h => by
    simp only [RpWT] at h ⊢
    obtain ⟨kk, x, r, h1, h2, h3, h4⟩ := h
    exact ⟨kk, x, r, h1, h2, h3.mono e, RpWT.mono e h4⟩
theorem RpWF.mono (e : Ext F ι n F' ι' n') : ∀ {ds : List (Str × W)} {xs : List (Str × V)}, RpWF C F ι n ds xs → RpWF C F' ι' n' ds xs
  | [], _, h => by simpa only [RpWF] using h
  | (k, d) :: ds, xs, h => by
    simp only [RpWF] at h ⊢
    obtain ⟨x, r, h1, h2, h3⟩ := h
    exact ⟨x, r, h1, h2.mono e, RpWF.mono e h3⟩
theorem RpO.mono {H H' : Hp} {a a' : Addr} (e : Ext F ι n F' ι' n') (hh : ∀ o, H a = some o → H' a' = some o) : ∀ {o : GO}, RpO C F ι n H a o → RpO C F' ι' n' H' a' o
  | .lst ws, h => by
    obtain ⟨xs, h1, h2⟩ := h
    exact ⟨xs, hh _ h1, h2.mono e⟩
  | .dic false kvs, h => by
    obtain ⟨xs, h1, h2⟩ := h
    exact ⟨xs, hh _ h1, h2.mono e⟩
  | .dic true kvs, h => by
    obtain ⟨xs, h1, h2⟩ := h
    exact ⟨xs, hh _ h1, h2.mono e⟩
  | .ins c fs, h => by
    obtain ⟨Ca, dx, es, h1, hc, h2, h3⟩ := h
    exact ⟨Ca, dx, es, h1, hc, hh _ h2, h3.mono e⟩
  | .dead, _ => trivial
/-- a live object stands -/
theorem RpO.some {H : Hp} {a : Addr} : ∀ {o : GO}, o ≠ .dead → RpO C F ι n H a o → ∃ u, H a = Option.some u
  | .lst _, _, ⟨_, h, _⟩ => ⟨_, h⟩
  | .dic false _, _, ⟨_, h, _⟩ => ⟨_, h⟩
  | .dic true _, _, ⟨_, h, _⟩ => ⟨_, h⟩
  | .ins _ _, _, ⟨_, _, _, _, _, h, _⟩ => ⟨_, h⟩
  | .dead, h, _ => absurd rfl h
end

/-! ### the state of a run -/
structure Sim (C : GC) (F H : Hp) (ι : Nat → Addr) (G : Hg) : Prop where
  fh : Same F H
  bh : Same C.B H
  ff : Same C.F0 F
  new : ∀ b o, F b = some o → C.F0 b = some o ∨ C.B b = none
  live : ∀ i o, G[i]? = some o → o ≠ .dead → F (ι i) = none ∧ C.B (ι i) = none ∧ RpO C.m F ι G.length H (ι i) o
  inj : ∀ i j o u, G[i]? = some o → o ≠ .dead → G[j]? = some u → u ≠ .dead → ι i = ι j → i = j
def REnv (C : Md) (F : Hp) (ι : Nat → Addr) (n : Nat) (ρ : GEnv) (σ : L2.St) : Prop :=
  ρ.length = σ.length ∧ ∀ (i : Nat) (w : W), ρ[i]? = some (some w) → ∃ v, σ[i]? = some (some v) ∧ RpW C F ι n w v
theorem REnv.mono {C : Md} {F F' : Hp} {ι ι' : Nat → Addr} {n n' : Nat} {ρ : GEnv} {σ : L2.St} (e : Ext F ι n F' ι' n') (h : REnv C F ι n ρ σ) : REnv C F' ι' n' ρ σ :=
  ⟨h.1, fun i w hi => let ⟨v, h1, h2⟩ := h.2 i w hi; ⟨v, h1, h2.mono e⟩⟩
theorem REnv.set {C : Md} {F : Hp} {ι : Nat → Addr} {n : Nat} {ρ : GEnv} {σ : L2.St} {w : W} {v : V} (h : REnv C F ι n ρ σ) (i : Nat) (r : RpW C F ι n w v) : REnv C F ι n (ρ.set i (some w)) (σ.set i (some v)) := by
  refine ⟨by simp [h.1], fun j u hj => ?_⟩
  by_cases e : i = j
  · subst e
    have hl : i < ρ.length := by
      rcases Nat.lt_or_ge i ρ.length with q | q
      · exact q
      · rw [List.getElem?_eq_none (by simpa using q)] at hj; cases hj
    rw [List.getElem?_set_self hl] at hj
    cases hj
    exact ⟨v, List.getElem?_set_self (by rw [← h.1]; exact hl), r⟩
  · rw [List.getElem?_set_ne e] at hj
    obtain ⟨x, h1, h2⟩ := h.2 j u hj
    exact ⟨x, by rw [List.getElem?_set_ne e]; exact h1, h2⟩

inductive Res (α : Type) where
  | stuck | exc (e : Exc) (G : Hg) | ok (a : α) (G : Hg)
/-- what is known of an exception -/
def XR (C : GC) (F' H' : Hp) (e : Exc) (cls : Value) (d : Option Addr) : Prop :=
  ∃ Ca, C.m.mg e.c = some (.ref Ca) ∧ ExcC C.m.K Ca ∧ cls = .ref Ca ∧ match d with
    | none => e.fs = []
    | some dx => ∃ es, H' dx = some (.xd es) ∧ RpF C.m F' e.fs es
/-- a value's end -/
def Out (C : GC) (F : Hp) (ι : Nat → Addr) (n : Nat) (w : W) (G' : Hg) : VK := fun v H' => ∃ F' ι', Ext F ι n F' ι' G'.length ∧ Sim C F' H' ι' G' ∧ RpW C.m F' ι' G'.length w v
def XOut (C : GC) (F : Hp) (ι : Nat → Addr) (n : Nat) (e : Exc) (G' : Hg) : XK := fun cls d H' => ∃ F' ι', Ext F ι n F' ι' G'.length ∧ Sim C F' H' ι' G' ∧ XR C F' H' e cls d
/-- an expression's ghost: from slots and ghost objects -/
abbrev GE := GEnv → Hg → Res W
def Post (C : GC) (F : Hp) (ι : Nat → Addr) (n : Nat) (σ : L2.St) (r : Res W) (Q : VK) : Prop :=
  match r with
  | .stuck => False
  | .exc e G' => ∀ cls d H', XOut C F ι n e G' cls d H' → C.wx cls d σ H'
  | .ok w G' => ∀ v H', Out C F ι n w G' v H' → Q v H'
def gTE (C : GC) (g : GE) : TE := fun σ H Q => ∃ F ι ρ G, Sim C F H ι G ∧ REnv C.m F ι G.length ρ σ ∧ Post C F ι G.length σ (g ρ G) Q
abbrev GEs := GEnv → Hg → Res (List W)
def OutL (C : GC) (F : Hp) (ι : Nat → Addr) (n : Nat) (ws : List W) (G' : Hg) : List V → Hp → Prop := fun vs H' => ∃ F' ι', Ext F ι n F' ι' G'.length ∧ Sim C F' H' ι' G' ∧ RpWL C.m F' ι' G'.length ws vs
def PostL (C : GC) (F : Hp) (ι : Nat → Addr) (n : Nat) (σ : L2.St) (r : Res (List W)) (Q : List V → Hp → Prop) : Prop :=
  match r with
  | .stuck => False
  | .exc e G' => ∀ cls d H', XOut C F ι n e G' cls d H' → C.wx cls d σ H'
  | .ok w G' => ∀ v H', OutL C F ι n w G' v H' → Q v H'
def gTA (C : GC) (g : GEs) : TA := fun σ H Q => ∃ F ι ρ G, Sim C F H ι G ∧ REnv C.m F ι G.length ρ σ ∧ PostL C F ι G.length σ (g ρ G) Q
/-- a test -/
abbrev GT := GEnv → Hg → Res Bool
def OutB (C : GC) (F : Hp) (ι : Nat → Addr) (n : Nat) (w : Bool) (G' : Hg) : Bool → Hp → Prop := fun v H' => v = w ∧ ∃ F' ι', Ext F ι n F' ι' G'.length ∧ Sim C F' H' ι' G'
def PostB (C : GC) (F : Hp) (ι : Nat → Addr) (n : Nat) (σ : L2.St) (r : Res Bool) (Q : Bool → Hp → Prop) : Prop :=
  match r with
  | .stuck => False
  | .exc e G' => ∀ cls d H', XOut C F ι n e G' cls d H' → C.wx cls d σ H'
  | .ok w G' => ∀ v H', OutB C F ι n w G' v H' → Q v H'
def gTT (C : GC) (g : GT) : TT := fun σ H Q => ∃ F ι ρ G, Sim C F H ι G ∧ REnv C.m F ι G.length ρ σ ∧ PostB C F ι G.length σ (g ρ G) Q

theorem PE.imp {X : Cx} {e : Expr} {t t' : TE} (h : PE X e t) (k : ∀ σ H Q, t' σ H Q → t σ H Q) : PE X e t' := ⟨fun pins s σ H Q I q => h.run pins s σ H Q I (k _ _ _ q)⟩
theorem PT.imp {X : Cx} {e : Expr} {t t' : TT} (h : PT X e t) (k : ∀ σ H Q, t' σ H Q → t σ H Q) : PT X e t' := ⟨fun pins s σ H Q I q => h.run pins s σ H Q I (k _ _ _ q)⟩
theorem PW.imp {X : Cx} {e : Expr} {t t' : TT} (h : PW X e t) (k : ∀ σ H Q, t' σ H Q → t σ H Q) : PW X e t' := ⟨fun wh pins s σ H Q I q => h.run wh pins s σ H Q I (k _ _ _ q)⟩
theorem PA.imp {X : Cx} {e : List Expr} {t t' : TA} (h : PA X e t) (k : ∀ σ H Q, t' σ H Q → t σ H Q) : PA X e t' := ⟨fun p pins s σ H Q I q => h.run p pins s σ H Q I (k _ _ _ q)⟩
theorem PS.imp {X : Cx} {e : Stmt} {t t' : TS} (h : PS X e t) (k : ∀ D σ H, t' D σ H → t D σ H) : PS X e t' := ⟨fun pins s σ H D I q => h.run pins s σ H D I (k _ _ _ q)⟩
theorem PSs.imp {X : Cx} {e : List Stmt} {t t' : TS} (h : PSs X e t) (k : ∀ D σ H, t' D σ H → t D σ H) : PSs X e t' := ⟨fun pins s σ H D I q => h.run pins s σ H D I (k _ _ _ q)⟩

section
variable {C : GC} {F F1 H : Hp} {ι ι1 : Nat → Addr} {n n1 : Nat} {σ : L2.St} {Q : VK}
theorem Out.base {w : W} {G' : Hg} {v : V} {H' : Hp} (e : Ext F ι n F1 ι1 n1) (h : Out C F1 ι1 n1 w G' v H') : Out C F ι n w G' v H' :=
  let ⟨F', ι', a, b, c⟩ := h; ⟨F', ι', e.trans a, b, c⟩
theorem XOut.base {w : Exc} {G' : Hg} {cls : Value} {d : Option Addr} {H' : Hp} (e : Ext F ι n F1 ι1 n1) (h : XOut C F1 ι1 n1 w G' cls d H') : XOut C F ι n w G' cls d H' :=
  let ⟨F', ι', a, b, c⟩ := h; ⟨F', ι', e.trans a, b, c⟩
theorem Post.base {r : Res W} (e : Ext F ι n F1 ι1 n1) (h : Post C F ι n σ r Q) : Post C F1 ι1 n1 σ r Q := by
  cases r with
  | stuck => exact h
  | exc x G' => exact fun cls d H' q => h cls d H' (q.base e)
  | ok w G' => exact fun v H' q => h v H' (q.base e)
end
end Gh

set_option Elab.async false
set_option linter.all false
set_option maxRecDepth 100000
set_option maxHeartbeats 4000000
namespace Gh
open PySem PySem.Spec PyProof.Rows L2

/-! ### steps of the state -/
section
variable {C : GC} {F H : Hp} {ι : Nat → Addr} {G : Hg}
theorem Sim.free {p : Addr} (s : Sim C F H ι G) (h : H p = none) : F p = none := s.fh.free h
theorem Sim.freeB {p : Addr} (s : Sim C F H ι G) (h : H p = none) : C.B p = none := s.bh.free h
/-- something new that no one will change is laid -/
theorem Sim.lay {p : Addr} {o : HO} (s : Sim C F H ι G) (h : H p = none) : Sim C (upd F p o) (upd H p o) ι G ∧ Ext F ι G.length (upd F p o) ι G.length := by
  have hF := s.free h
  have hB := s.freeB h
  have ext : Ext F ι G.length (upd F p o) ι G.length := ⟨fun b u q => by rw [upd_ne (ne_of_none q hF)]; exact q, fun _ _ => rfl, Nat.le_refl _⟩
  have np : ∀ i g, G[i]? = some g → g ≠ .dead → ι i ≠ p := fun i g hi hg => by
    obtain ⟨_, _, r⟩ := s.live i g hi hg
    obtain ⟨u, hu⟩ := r.some hg
    exact ne_of_none hu h
  refine ⟨⟨fun b u q => ?_, fun b u q => ?_, s.ff.trans ext.fr, fun b u q => ?_, fun i g hi hg => ?_, s.inj⟩, ext⟩
  · by_cases e : b = p
    · subst e; rw [upd_same] at q; cases q; exact upd_same
    · rw [upd_ne e] at q ⊢; exact s.fh _ _ q
  · rw [upd_ne (ne_of_none q hB)]; exact s.bh _ _ q
  · by_cases e : b = p
    · subst e; exact .inr hB
    · rw [upd_ne e] at q; exact s.new _ _ q
  · obtain ⟨a, b, r⟩ := s.live i g hi hg
    have n := np i g hi hg
    exact ⟨by rw [upd_ne n]; exact a, b, r.mono ext fun u q => by rw [upd_ne n]; exact q⟩
/-- something that the run does not follow is laid -/
theorem Sim.drop {p : Addr} {o : HO} (s : Sim C F H ι G) (h : H p = none) : Sim C F (upd H p o) ι G := by
  have hF := s.free h
  have hB := s.freeB h
  refine ⟨fun b u q => by rw [upd_ne (ne_of_none q hF)]; exact s.fh _ _ q, fun b u q => by rw [upd_ne (ne_of_none q hB)]; exact s.bh _ _ q, s.ff, s.new, fun i g hi hg => ?_, s.inj⟩
  obtain ⟨a, b, r⟩ := s.live i g hi hg
  obtain ⟨u, hu⟩ := r.some hg
  exact ⟨a, b, r.mono .refl fun u q => by rw [upd_ne (ne_of_none hu h)]; exact q⟩
/-- a new ghost object -/
def putI (ι : Nat → Addr) (n : Nat) (p : Addr) : Nat → Addr := fun i => if i = n then p else ι i
theorem putI_same {n : Nat} {p : Addr} : putI ι n p n = p := if_pos rfl
theorem putI_lt {n i : Nat} {p : Addr} (h : i < n) : putI ι n p i = ι i := if_neg (Nat.ne_of_lt h)
theorem Sim.make {p : Addr} {o : HO} {g : GO} (s : Sim C F H ι G) (h : H p = none) (r : ∀ ι' n', Ext F ι G.length F ι' n' → RpO C.m F ι' n' (upd H p o) p g) :
    Sim C F (upd H p o) (putI ι G.length p) (G ++ [g]) ∧ Ext F ι G.length F (putI ι G.length p) (G ++ [g]).length := by
  have hF := s.free h
  have hB := s.freeB h
  have ext : Ext F ι G.length F (putI ι G.length p) (G ++ [g]).length := ⟨Same.refl _, fun i hi => putI_lt hi, by simp⟩
  have at_ : ∀ i u, (G ++ [g])[i]? = some u → (i < G.length ∧ G[i]? = some u) ∨ (i = G.length ∧ u = g) := fun i u q => by
    rcases Nat.lt_or_ge i G.length with z | z
    · rw [List.getElem?_append_left z] at q
      exact .inl ⟨z, q⟩
    · rw [List.getElem?_append_right z] at q
      rcases Nat.eq_or_lt_of_le z with e | e
      · rw [← e, Nat.sub_self] at q
        exact .inr ⟨e.symm, (Option.some.inj q).symm⟩
      · rw [List.getElem?_eq_none (by simp; omega)] at q; cases q
  refine ⟨⟨fun b u q => by rw [upd_ne (ne_of_none q hF)]; exact s.fh _ _ q, fun b u q => by rw [upd_ne (ne_of_none q hB)]; exact s.bh _ _ q, s.ff, s.new, fun i u hi hu => ?_, fun i j u v hi hu hj hv e => ?_⟩, ext⟩
  · rcases at_ i u hi with ⟨z, q⟩ | ⟨z, q⟩
    · rw [putI_lt z]
      obtain ⟨a, b, t⟩ := s.live i u q hu
      obtain ⟨v, hv⟩ := t.some hu
      exact ⟨a, b, t.mono ext fun w q => by rw [upd_ne (ne_of_none hv h)]; exact q⟩
    · subst z q
      rw [putI_same]
      exact ⟨hF, hB, r _ _ ext⟩
  · rcases at_ i u hi with ⟨zi, qi⟩ | ⟨zi, qi⟩ <;> rcases at_ j v hj with ⟨zj, qj⟩ | ⟨zj, qj⟩
    · rw [putI_lt zi, putI_lt zj] at e
      exact s.inj i j u v qi hu qj hv e
    · rw [putI_lt zi, zj, putI_same] at e
      obtain ⟨_, _, t⟩ := s.live i u qi hu
      obtain ⟨v, hv⟩ := t.some hu
      exact absurd e (ne_of_none hv h)
    · rw [putI_lt zj, zi, putI_same] at e
      obtain ⟨_, _, t⟩ := s.live j v qj hv
      obtain ⟨v, hv⟩ := t.some hv
      exact absurd e.symm (ne_of_none hv h)
    · rw [zi, zj]
/-- a ghost object is changed -/
theorem Sim.write {i : Nat} {o : HO} {g g0 : GO} (s : Sim C F H ι G) (hi : G[i]? = some g0) (h0 : g0 ≠ .dead) (r : RpO C.m F ι G.length (upd H (ι i) o) (ι i) g) :
    Sim C F (upd H (ι i) o) ι (G.set i g) := by
  obtain ⟨hF, hB, _⟩ := s.live i g0 hi h0
  have hl : i < G.length := by
    rcases Nat.lt_or_ge i G.length with z | z
    · exact z
    · rw [List.getElem?_eq_none z] at hi; cases hi
  have at_ : ∀ j u, (G.set i g)[j]? = some u → (j = i ∧ u = g) ∨ (j ≠ i ∧ G[j]? = some u) := fun j u q => by
    by_cases e : i = j
    · subst e
      rw [List.getElem?_set_self hl] at q
      exact .inl ⟨rfl, (Option.some.inj q).symm⟩
    · rw [List.getElem?_set_ne e] at q
      exact .inr ⟨fun z => e z.symm, q⟩
  refine ⟨fun b u q => by rw [upd_ne (ne_of_none q hF)]; exact s.fh _ _ q, fun b u q => by rw [upd_ne (ne_of_none q hB)]; exact s.bh _ _ q, s.ff, s.new, fun j u hj hu => ?_, fun j k u v hj hu hk hv e => ?_⟩
  · rw [List.length_set]
    rcases at_ j u hj with ⟨z, q⟩ | ⟨z, q⟩
    · subst z q
      exact ⟨hF, hB, r⟩
    · obtain ⟨a, b, t⟩ := s.live j u q hu
      have ne : ι j ≠ ι i := fun e => z (s.inj j i u g0 q hu hi h0 e)
      exact ⟨a, b, t.mono .refl fun w q => by rw [upd_ne ne]; exact q⟩
  · rcases at_ j u hj with ⟨z, q⟩ | ⟨z, q⟩ <;> rcases at_ k v hk with ⟨z2, q2⟩ | ⟨z2, q2⟩
    · rw [z, z2]
    · exact (s.inj k j v g0 q2 hv (by rw [z]; exact hi) h0 e.symm).symm
    · exact s.inj j k u g0 q hu (by rw [z2]; exact hi) h0 e
    · exact s.inj j k u v q hu q2 hv e
/-- a ghost object is frozen: no one changes it any more -/
theorem Sim.freeze {i : Nat} {o : HO} {g0 : GO} (s : Sim C F H ι G) (hi : G[i]? = some g0) (h0 : g0 ≠ .dead) (ho : H (ι i) = some o) :
    Sim C (upd F (ι i) o) H ι (G.set i .dead) ∧ Ext F ι G.length (upd F (ι i) o) ι (G.set i .dead).length := by
  obtain ⟨hF, hB, _⟩ := s.live i g0 hi h0
  have ext : Ext F ι G.length (upd F (ι i) o) ι (G.set i .dead).length := ⟨fun b u q => by rw [upd_ne (ne_of_none q hF)]; exact q, fun _ _ => rfl, by simp⟩
  have at_ : ∀ j u, (G.set i .dead)[j]? = some u → u ≠ .dead → j ≠ i ∧ G[j]? = some u := fun j u q hu => by
    by_cases e : i = j
    · subst e
      rw [List.getElem?_set] at q
      split at q
      · split at q
        · exact absurd (Option.some.inj q).symm hu
        · cases q
      · exact absurd rfl ‹_›
    · rw [List.getElem?_set_ne e] at q
      exact ⟨fun z => e z.symm, q⟩
  refine ⟨⟨fun b u q => ?_, s.bh, s.ff.trans ext.fr, fun b u q => ?_, fun j u hj hu => ?_, fun j k u v hj hu hk hv e => ?_⟩, ext⟩
  · by_cases e : b = ι i
    · subst e; rw [upd_same] at q; cases q; exact ho
    · rw [upd_ne e] at q; exact s.fh _ _ q
  · by_cases e : b = ι i
    · subst e; exact .inr hB
    · rw [upd_ne e] at q; exact s.new _ _ q
  · obtain ⟨z, q⟩ := at_ j u hj hu
    obtain ⟨a, b, t⟩ := s.live j u q hu
    have ne : ι j ≠ ι i := fun e => z (s.inj j i u g0 q hu hi h0 e)
    exact ⟨by rw [upd_ne ne]; exact a, b, t.mono ext fun w q => q⟩
  · obtain ⟨z, q⟩ := at_ j u hj hu
    obtain ⟨z2, q2⟩ := at_ k v hk hv
    exact s.inj j k u v q hu q2 hv e
end

/-! ### the monad -/
def Res.bind {α β : Type} : Res α → (α → Hg → Res β) → Res β
  | .stuck, _ => .stuck
  | .exc e G, _ => .exc e G
  | .ok a G, k => k a G
def lift {α : Type} : Option (α × Hg) → Res α
  | none => .stuck
  | some (a, G) => .ok a G
def liftP {α : Type} (o : Option α) (G : Hg) : Res α := match o with
  | none => .stuck
  | some a => .ok a G
section
variable {C : GC} {F : Hp} {ι : Nat → Addr} {n : Nat} {σ : L2.St} {Q Q' : VK}
theorem Post.imp {r : Res W} (h : Post C F ι n σ r Q) (k : ∀ v H', Q v H' → Q' v H') : Post C F ι n σ r Q' := by
  cases r with
  | stuck => exact h
  | exc x G' => exact h
  | ok w G' => exact fun v H' q => k _ _ (h v H' q)
/-- the first part of a run in two parts -/
theorem Post.fst {r : Res W} {k : W → Hg → Res W} (h : Post C F ι n σ (r.bind k) Q) :
    Post C F ι n σ r fun v H1 => ∃ F1 ι1 w G1, Ext F ι n F1 ι1 G1.length ∧ Sim C F1 H1 ι1 G1 ∧ RpW C.m F1 ι1 G1.length w v ∧ Post C F1 ι1 G1.length σ (k w G1) Q := by
  cases r with
  | stuck => exact h
  | exc x G' => exact h
  | ok w G' => exact fun v H' ⟨F1, ι1, e, s, rr⟩ => ⟨F1, ι1, w, G', e, s, rr, Post.base e h⟩
theorem Post.fstL {r : Res W} {k : W → Hg → Res (List W)} {Q : List V → Hp → Prop} (h : PostL C F ι n σ (r.bind k) Q) :
    Post C F ι n σ r fun v H1 => ∃ F1 ι1 w G1, Ext F ι n F1 ι1 G1.length ∧ Sim C F1 H1 ι1 G1 ∧ RpW C.m F1 ι1 G1.length w v ∧ PostL C F1 ι1 G1.length σ (k w G1) Q := by
  cases r with
  | stuck => exact h
  | exc x G' => exact h
  | ok w G' =>
    refine fun v H' ⟨F1, ι1, e, s, rr⟩ => ⟨F1, ι1, w, G', e, s, rr, ?_⟩
    have h : PostL C F ι n σ (k w G') Q := h
    cases hk : k w G' with
    | stuck => rw [hk] at h; exact h
    | exc x G2 => rw [hk] at h; exact fun cls d H2 q => h cls d H2 (q.base e)
    | ok ws G2 => rw [hk] at h; exact fun vs H2 ⟨F2, ι2, a, b, c⟩ => h vs H2 ⟨F2, ι2, e.trans a, b, c⟩
theorem PostL.fst {r : Res (List W)} {k : List W → Hg → Res W} (h : Post C F ι n σ (r.bind k) Q) :
    PostL C F ι n σ r fun v H1 => ∃ F1 ι1 w G1, Ext F ι n F1 ι1 G1.length ∧ Sim C F1 H1 ι1 G1 ∧ RpWL C.m F1 ι1 G1.length w v ∧ Post C F1 ι1 G1.length σ (k w G1) Q := by
  cases r with
  | stuck => exact h
  | exc x G' => exact h
  | ok w G' => exact fun v H' ⟨F1, ι1, e, s, rr⟩ => ⟨F1, ι1, w, G', e, s, rr, Post.base e h⟩
theorem PostL.imp {r : Res (List W)} {Q Q' : List V → Hp → Prop} (h : PostL C F ι n σ r Q) (k : ∀ v H', Q v H' → Q' v H') : PostL C F ι n σ r Q' := by
  cases r with
  | stuck => exact h
  | exc x G' => exact h
  | ok w G' => exact fun v H' q => k _ _ (h v H' q)
theorem PostL.base {F1 : Hp} {ι1 : Nat → Addr} {n1 : Nat} {r : Res (List W)} {Q : List V → Hp → Prop} (e : Ext F ι n F1 ι1 n1) (h : PostL C F ι n σ r Q) : PostL C F1 ι1 n1 σ r Q := by
  cases r with
  | stuck => exact h
  | exc x G' => exact fun cls d H' q => h cls d H' (q.base e)
  | ok w G' => exact fun v H' ⟨F2, ι2, a, b, c⟩ => h v H' ⟨F2, ι2, e.trans a, b, c⟩
theorem PostL.fstL {r : Res (List W)} {k : List W → Hg → Res (List W)} {Q : List V → Hp → Prop} (h : PostL C F ι n σ (r.bind k) Q) :
    PostL C F ι n σ r fun v H1 => ∃ F1 ι1 w G1, Ext F ι n F1 ι1 G1.length ∧ Sim C F1 H1 ι1 G1 ∧ RpWL C.m F1 ι1 G1.length w v ∧ PostL C F1 ι1 G1.length σ (k w G1) Q := by
  cases r with
  | stuck => exact h
  | exc x G' => exact h
  | ok w G' => exact fun v H' ⟨F1, ι1, e, s, rr⟩ => ⟨F1, ι1, w, G', e, s, rr, PostL.base e h⟩
end
section
variable {C : GC} {F : Hp} {ι : Nat → Addr} {n : Nat} {σ : L2.St} {Q : Bool → Hp → Prop}
theorem PostB.imp {r : Res Bool} {Q Q' : Bool → Hp → Prop} (h : PostB C F ι n σ r Q) (k : ∀ v H', Q v H' → Q' v H') : PostB C F ι n σ r Q' := by
  cases r with
  | stuck => exact h
  | exc x G' => exact h
  | ok w G' => exact fun v H' q => k _ _ (h v H' q)
theorem PostB.base {F1 : Hp} {ι1 : Nat → Addr} {n1 : Nat} {r : Res Bool} (e : Ext F ι n F1 ι1 n1) (h : PostB C F ι n σ r Q) : PostB C F1 ι1 n1 σ r Q := by
  cases r with
  | stuck => exact h
  | exc x G' => exact fun cls d H' q => h cls d H' (q.base e)
  | ok w G' => exact fun v H' ⟨z, F2, ι2, a, b⟩ => h v H' ⟨z, F2, ι2, e.trans a, b⟩
theorem PostB.fst {r : Res W} {k : W → Hg → Res Bool} (h : PostB C F ι n σ (r.bind k) Q) :
    Post C F ι n σ r fun v H1 => ∃ F1 ι1 w G1, Ext F ι n F1 ι1 G1.length ∧ Sim C F1 H1 ι1 G1 ∧ RpW C.m F1 ι1 G1.length w v ∧ PostB C F1 ι1 G1.length σ (k w G1) Q := by
  cases r with
  | stuck => exact h
  | exc x G' => exact h
  | ok w G' => exact fun v H' ⟨F1, ι1, e, s, rr⟩ => ⟨F1, ι1, w, G', e, s, rr, PostB.base e h⟩
theorem PostB.fstB {r : Res Bool} {k : Bool → Hg → Res Bool} (h : PostB C F ι n σ (r.bind k) Q) :
    PostB C F ι n σ r fun v H1 => ∃ F1 ι1 G1, Ext F ι n F1 ι1 G1.length ∧ Sim C F1 H1 ι1 G1 ∧ PostB C F1 ι1 G1.length σ (k v G1) Q := by
  cases r with
  | stuck => exact h
  | exc x G' => exact h
  | ok w G' =>
    rintro v H' ⟨rfl, F1, ι1, e, s⟩
    exact ⟨F1, ι1, G', e, s, PostB.base e h⟩
theorem PostB.fstE {Q : VK} {r : Res Bool} {k : Bool → Hg → Res W} (h : Post C F ι n σ (r.bind k) Q) :
    PostB C F ι n σ r fun v H1 => ∃ F1 ι1 G1, Ext F ι n F1 ι1 G1.length ∧ Sim C F1 H1 ι1 G1 ∧ Post C F1 ι1 G1.length σ (k v G1) Q := by
  cases r with
  | stuck => exact h
  | exc x G' => exact h
  | ok w G' =>
    rintro v H' ⟨rfl, F1, ι1, e, s⟩
    exact ⟨F1, ι1, G', e, s, Post.base e h⟩
end

/-! ### judgements -/
abbrev md (X : Cx) : Md := ⟨X.K, X.mg⟩
abbrev gc (X : Cx) (B F0 : Hp) (wx : WX) : GC := ⟨md X, B, F0, wx⟩
structure GJE (X : Cx) (e : Expr) (g : GE) : Prop where
  run : ∀ B F0 wx, Takes X wx → PE X e (gTE (gc X B F0 wx) g)
structure GJA (X : Cx) (e : List Expr) (g : GEs) : Prop where
  run : ∀ B F0 wx, Takes X wx → PA X e (gTA (gc X B F0 wx) g)
structure GJT (X : Cx) (e : Expr) (g : GT) : Prop where
  run : ∀ B F0 wx, Takes X wx → PT X e (gTT (gc X B F0 wx) g)
structure GJW (X : Cx) (e : Expr) (g : GT) : Prop where
  run : ∀ B F0 wx, Takes X wx → PW X e (gTT (gc X B F0 wx) g)
theorem GJW.pt {X : Cx} {e : Expr} {g : GT} (h : GJW X e g) : GJT X e g := ⟨fun B F0 wx tk => (h.run B F0 wx tk).pt⟩

/-! ### names and constants -/
def gVar (i : Nat) : GE := fun ρ G => match ρ[i]? with
  | some (some w) => .ok w G
  | _ => .stuck
def gC (x : D) : GE := fun _ G => .ok (.d x) G
section
variable {X : Cx}
theorem ge_var (i : Nat) {x : Str} {pos : Pos} (hN : X.N[i]? = some x := by rfl) (hv : Vis X.env.scope x := by first | exact Or.inl rfl | exact Or.inr (Or.inl rfl) | exact Or.inr (Or.inr rfl)) (hd : (x == ("__debug__" : Str)) = false := by decide)
    (hcd : (x == ("__classdict__" : Str)) = false := by decide) : GJE X (.Name x pos) (gVar i) := ⟨fun B F0 wx _ => by
  refine PE.imp (pe_var hN hv hd hcd) fun σ H Q ⟨F, ι, ρ, G, hs, he, hp⟩ => ?_
  unfold gVar at hp
  cases hr : ρ[i]? with
  | none => rw [hr] at hp; exact hp.elim
  | some o =>
    cases o with
    | none => rw [hr] at hp; exact hp.elim
    | some w =>
      rw [hr] at hp
      obtain ⟨v, h1, h2⟩ := he.2 i w hr
      exact ⟨v, h1, hp v H ⟨F, ι, .refl, hs, h2⟩⟩⟩
/-- a constant: its reading leaves the heap as it is -/
theorem ge_const {e : Expr} {v : V} {d : D} (h : PE X e (tC v)) (r : ∀ F, Rp (md X) F d v) : GJE X e (gC d) := ⟨fun B F0 wx _ => by
  refine PE.imp h fun σ H Q ⟨F, ι, ρ, G, hs, he, hp⟩ => ?_
  exact hp v H ⟨F, ι, .refl, hs, by simp only [RpW]; exact r F⟩⟩
theorem ge_int {i : Int} {j pos} : GJE X (.Constant (.int i) j pos) (gC (.int i)) := ge_const pe_int fun _ => by simp only [Rp]
theorem ge_str {i : Str} {j pos} : GJE X (.Constant (.str i) j pos) (gC (.str i)) := ge_const pe_str fun _ => by simp only [Rp]
theorem ge_bl {i : Bool} {j pos} : GJE X (.Constant (.bool i) j pos) (gC (.bl i)) := ge_const pe_bl fun _ => by simp only [Rp]
theorem ge_non {j pos} : GJE X (.Constant .none j pos) (gC .non) := ge_const pe_non fun _ => by simp only [Rp]
/-- a module's constant -/
structure GlobD (K : PySem.W.Frag) (mg : Str → Option Value) (x : Str) (d : D) : Prop where
  ex : ∃ u v, mg x = some u ∧ RelV v u ∧ ∀ F, Rp ⟨K, mg⟩ F d v
theorem ge_glob {x : Str} {d : D} {pos : Pos} (h : GlobD X.K X.mg x d) (hg : Gl X x := by rfl) (hd : (x == ("__debug__" : Str)) = false := by decide) : GJE X (.Name x pos) (gC d) := by
  obtain ⟨u, v, h1, h2, h3⟩ := h.ex
  exact ge_const (pe_glob hg h1 h2 hd) h3
end

/-! ### two-place operations by values -/
def gBin (f : W → W → Hg → Option (W × Hg)) (a b : GE) : GE := fun ρ G => (a ρ G).bind fun x G1 => (b ρ G1).bind fun y G2 => lift (f x y G2)
/-- f is what the reading r does -/
def OpG (X : Cx) (r : R2) (f : W → W → Hg → Option (W × Hg)) : Prop := ∀ (C : GC) (F H : Hp) (ι : Nat → Addr) (G : Hg) (w u : W) (x y : V) (z : W) (G' : Hg) (Q : VK), C.m = md X → Sim C F H ι G → RpW C.m F ι G.length w x → RpW C.m F ι G.length u y →
  f w u G = some (z, G') → (∀ v H', Out C F ι G.length z G' v H' → Q v H') → r x y H Q
theorem gTE_bin {X : Cx} {B F0 : Hp} {wx : WX} {r : R2} {f : W → W → Hg → Option (W × Hg)} {ga gb : GE} (hf : OpG X r f) {σ : L2.St} {H : Hp} {Q : VK} (h : gTE (gc X B F0 wx) (gBin f ga gb) σ H Q) :
    tOp r (gTE (gc X B F0 wx) ga) (gTE (gc X B F0 wx) gb) σ H Q := by
  obtain ⟨F, ι, ρ, G, hs, he, hp⟩ := h
  refine ⟨F, ι, ρ, G, hs, he, (Post.fst hp).imp fun x H1 ⟨F1, ι1, w, G1, e1, s1, r1, p1⟩ => ⟨F1, ι1, ρ, G1, s1, he.mono e1, (Post.fst p1).imp fun y H2 ⟨F2, ι2, u, G2, e2, s2, r2, p2⟩ => ?_⟩⟩
  cases q : f w u G2 with
  | none => rw [q] at p2; exact p2.elim
  | some o =>
    obtain ⟨z, G3⟩ := o
    rw [q] at p2
    exact hf _ F2 H2 ι2 G2 w u x y z G3 Q rfl s2 (r1.mono e2) r2 q p2
section
variable {X : Cx} {a b : Expr} {ga gb : GE} {pos : Pos} {r : R2} {f : W → W → Hg → Option (W × Hg)}
theorem ge_op {op : Operator} (ho : OpR X (binaryOp op) r) (hf : OpG X r f) (ha : GJE X a ga) (hb : GJE X b gb) : GJE X (.BinOp a op b pos) (gBin f ga gb) :=
  ⟨fun B F0 wx tk => PE.imp (pe_op ho (ha.run B F0 wx tk) (hb.run B F0 wx tk)) fun _ _ _ h => gTE_bin hf h⟩
theorem ge_cmp {op : CmpOp} (ho : OpR X (compareOp op) r) (hf : OpG X r f) (ha : GJE X a ga) (hb : GJE X b gb) (hm : behindInMarks op b = false := by first | exact nomark _ | rfl) : GJE X (.Compare a [op] [b] pos) (gBin f ga gb) :=
  ⟨fun B F0 wx tk => PE.imp (pe_cmpR ho (ha.run B F0 wx tk) (hb.run B F0 wx tk) hm) fun _ _ _ h => gTE_bin hf h⟩
theorem ge_ix {r : R2} (ho : IxR X r) (hf : OpG X r f) (ha : GJE X a ga) (hb : GJE X b gb) (hs : PlainIx b := by exact fun _ _ => rfl) : GJE X (.Subscript a b pos) (gBin f ga gb) :=
  ⟨fun B F0 wx tk => PE.imp (pe_ix ho (ha.run B F0 wx tk) (hb.run B F0 wx tk) hs) fun _ _ _ h => gTE_bin hf h⟩
end

/-! ### argument lists, displays, calls of built-ins by values -/
def gNilA : GEs := fun _ G => .ok [] G
def gConsA (a : GE) (r : GEs) : GEs := fun ρ G => (a ρ G).bind fun x G1 => (r ρ G1).bind fun xs G2 => .ok (x :: xs) G2
section
variable {X : Cx} {e : Expr} {es : List Expr} {g : GE} {gs : GEs} {pos : Pos}
theorem ga_nil : GJA X [] gNilA := ⟨fun B F0 wx _ => PA.imp pa_nil fun σ H Q ⟨F, ι, ρ, G, hs, he, hp⟩ => hp [] H ⟨F, ι, .refl, hs, by simp only [RpWL]⟩⟩
theorem ga_cons (ha : GJE X e g) (hr : GJA X es gs) (hs : starEach (e :: es) X.env = (false, eval e X.env) :: starEach es X.env := by rfl) : GJA X (e :: es) (gConsA g gs) := ⟨fun B F0 wx tk => by
  refine PA.imp (pa_cons (ha.run B F0 wx tk) (hr.run B F0 wx tk) hs) fun σ H Q ⟨F, ι, ρ, G, s, he, hp⟩ => ?_
  refine ⟨F, ι, ρ, G, s, he, (Post.fstL hp).imp fun x H1 ⟨F1, ι1, w, G1, e1, s1, r1, p1⟩ => ⟨F1, ι1, ρ, G1, s1, he.mono e1, (PostL.fstL p1).imp fun xs H2 ⟨F2, ι2, ws, G2, e2, s2, r2, p2⟩ => ?_⟩⟩
  exact p2 (x :: xs) H2 ⟨F2, ι2, .refl, s2, by simp only [RpWL]; exact ⟨x, xs, rfl, r1.mono e2, r2⟩⟩⟩
end
/-- a call of a known thing with values -/
def CallG (X : Cx) (r : List V → Hp → VK → Prop) (f : List W → Hg → Option (W × Hg)) : Prop := ∀ (C : GC) (F H : Hp) (ι : Nat → Addr) (G : Hg) (ws : List W) (xs : List V) (z : W) (G' : Hg) (Q : VK), C.m = md X → Sim C F H ι G → RpWL C.m F ι G.length ws xs →
  f ws G = some (z, G') → (∀ v H', Out C F ι G.length z G' v H' → Q v H') → r xs H Q
def gCall (f : List W → Hg → Option (W × Hg)) (a : GEs) : GE := fun ρ G => (a ρ G).bind fun xs G1 => lift (f xs G1)
section
variable {X : Cx} {e : Expr} {es : List Expr} {gs : GEs} {p pos : Pos} {x : Str} {r : List V → Hp → VK → Prop} {f : List W → Hg → Option (W × Hg)}
theorem gTE_call {B F0 : Hp} {wx : WX} (hf : CallG X r f) {σ : L2.St} {H : Hp} {Q : VK} (h : gTE (gc X B F0 wx) (gCall f gs) σ H Q) : gTA (gc X B F0 wx) gs σ H fun vs H1 => r vs H1 Q := by
  obtain ⟨F, ι, ρ, G, hs, he, hp⟩ := h
  refine ⟨F, ι, ρ, G, hs, he, (PostL.fst hp).imp fun xs H1 ⟨F1, ι1, ws, G1, e1, s1, r1, p1⟩ => ?_⟩
  cases q : f ws G1 with
  | none => rw [q] at p1; exact p1.elim
  | some o =>
    obtain ⟨z, G3⟩ := o
    rw [q] at p1
    exact hf _ F1 H1 ι1 G1 ws xs z G3 Q rfl s1 r1 q p1
theorem ge_callB {id : String} (hc : CallR X (.builtin id) r) (hf : CallG X r f) (hm : X.mg x = none) (ha : GJA X (e :: es) gs) (hv : bootBuiltins x = some (.builtin id) := by decide +kernel) (hg : Gl X x := by rfl) (hn : x ≠ "__name__" := by decide) (hdb : (x == ("__debug__" : Str)) = false := by decide)
    (he : starEach (e :: es) X.env = (false, eval e X.env) :: starEach es X.env := by rfl) (hpl : (backTo pos (starEach es X.env)).any (·.1) = false := by rfl) : GJE X (.Call (.Name x p) (e :: es) [] pos) (gCall f gs) :=
  ⟨fun B F0 wx tk => PE.imp (pe_callB hc hg hm hv (ha.run B F0 wx tk) hn hdb he hpl) fun _ _ _ h => gTE_call hf h⟩
theorem ge_callTy {T : String} (hc : CallR X (.type T) r) (hf : CallG X r f) (hm : X.mg x = none) (ha : GJA X (e :: es) gs) (hv : bootBuiltins x = some (.type T) := by decide +kernel) (hg : Gl X x := by rfl) (hn : x ≠ "__name__" := by decide) (hdb : (x == ("__debug__" : Str)) = false := by decide)
    (he : starEach (e :: es) X.env = (false, eval e X.env) :: starEach es X.env := by rfl) (hpl : (backTo pos (starEach es X.env)).any (·.1) = false := by rfl) : GJE X (.Call (.Name x p) (e :: es) [] pos) (gCall f gs) :=
  ⟨fun B F0 wx tk => PE.imp (pe_callTy hc hg hm hv (ha.run B F0 wx tk) hn hdb he hpl) fun _ _ _ h => gTE_call hf h⟩
end

/-! ### tests -/
/-- a value that is a bool, as a test -/
def asB : W → Option Bool
  | .d (.bl b) => some b
  | _ => none
def gTst (a : GE) : GT := fun ρ G => (a ρ G).bind fun x G1 => liftP (asB x) G1
section
variable {X : Cx} {a b : Expr} {ga gb : GE} {ta tb : GT} {pos : Pos}
theorem gTT_tst {B F0 : Hp} {wx : WX} {σ : L2.St} {H : Hp} {Q : Bool → Hp → Prop} (h : gTT (gc X B F0 wx) (gTst ga) σ H Q) : gTE (gc X B F0 wx) ga σ H fun x H1 => ∃ k, x = .bl k ∧ Q k H1 := by
  obtain ⟨F, ι, ρ, G, hs, he, hp⟩ := h
  refine ⟨F, ι, ρ, G, hs, he, (PostB.fst hp).imp fun x H1 ⟨F1, ι1, w, G1, e1, s1, r1, p1⟩ => ?_⟩
  cases w with
  | ref i => exact p1.elim
  | tup ws => exact p1.elim
  | d x' =>
    cases x' with
    | bl k =>
      simp only [RpW, Rp] at r1
      exact ⟨k, r1, p1 k H1 ⟨rfl, F1, ι1, .refl, s1⟩⟩
    | _ => exact p1.elim
theorem gt_val (ha : GJE X a ga) (he : ∀ whole, isTrue a X.env whole = (do let v ← whole; standAt a.pos; holding [v] (truthy v)) := by intro _; rfl) : GJT X a (gTst ga) :=
  ⟨fun B F0 wx tk => PT.imp (pt_val (ha.run B F0 wx tk) he) fun _ _ _ h => gTT_tst h⟩
theorem gt_cmp {op : CmpOp} {r : R2} {f : W → W → Hg → Option (W × Hg)} (ho : OpR X (compareOp op) r) (hf : OpG X r f) (ha : GJE X a ga) (hb : GJE X b gb) (hm : behindInMarks op b = false := by first | exact nomark _ | rfl) : GJT X (.Compare a [op] [b] pos) (gTst (gBin f ga gb)) :=
  ⟨fun B F0 wx tk => PT.imp (pt_cmpR ho (ha.run B F0 wx tk) (hb.run B F0 wx tk) hm) fun σ H Q h => gTE_bin hf (gTT_tst h)⟩
def gAnd (a b : GT) : GT := fun ρ G => (a ρ G).bind fun x G1 => if x then b ρ G1 else .ok false G1
def gOr (a b : GT) : GT := fun ρ G => (a ρ G).bind fun x G1 => if x then .ok true G1 else b ρ G1
def gNot (a : GT) : GT := fun ρ G => (a ρ G).bind fun x G1 => .ok (!x) G1
theorem gw_and1 (ha : GJT X a ta) : GJW X (.BoolOp .And [a] pos) ta := ⟨fun B F0 wx tk => pw_and1 (ha.run B F0 wx tk)⟩
theorem gw_or1 (ha : GJT X a ta) : GJW X (.BoolOp .Or [a] pos) ta := ⟨fun B F0 wx tk => pw_or1 (ha.run B F0 wx tk)⟩
theorem gw_and {rest : List Expr} (ha : GJT X a ta) (hb : GJW X (.BoolOp .And (b :: rest) pos) tb) : GJW X (.BoolOp .And (a :: b :: rest) pos) (gAnd ta tb) := ⟨fun B F0 wx tk => by
  refine PW.imp (pw_and (ha.run B F0 wx tk) (hb.run B F0 wx tk)) fun σ H Q ⟨F, ι, ρ, G, hs, he, hp⟩ => ?_
  refine ⟨F, ι, ρ, G, hs, he, (PostB.fstB hp).imp fun x H1 ⟨F1, ι1, G1, e1, s1, p1⟩ => ?_⟩
  cases x with
  | true => exact ⟨F1, ι1, ρ, G1, s1, he.mono e1, p1⟩
  | false => exact p1 false H1 ⟨rfl, F1, ι1, .refl, s1⟩⟩
theorem gw_or {rest : List Expr} (ha : GJT X a ta) (hb : GJW X (.BoolOp .Or (b :: rest) pos) tb) : GJW X (.BoolOp .Or (a :: b :: rest) pos) (gOr ta tb) := ⟨fun B F0 wx tk => by
  refine PW.imp (pw_or (ha.run B F0 wx tk) (hb.run B F0 wx tk)) fun σ H Q ⟨F, ι, ρ, G, hs, he, hp⟩ => ?_
  refine ⟨F, ι, ρ, G, hs, he, (PostB.fstB hp).imp fun x H1 ⟨F1, ι1, G1, e1, s1, p1⟩ => ?_⟩
  cases x with
  | false => exact ⟨F1, ι1, ρ, G1, s1, he.mono e1, p1⟩
  | true => exact p1 true H1 ⟨rfl, F1, ι1, .refl, s1⟩⟩
theorem gt_not (ha : GJT X a ta) : GJT X (.UnaryOp .Not a pos) (gNot ta) := ⟨fun B F0 wx tk => by
  refine PT.imp (pt_not (ha.run B F0 wx tk)) fun σ H Q ⟨F, ι, ρ, G, hs, he, hp⟩ => ?_
  refine ⟨F, ι, ρ, G, hs, he, (PostB.fstB hp).imp fun x H1 ⟨F1, ι1, G1, e1, s1, p1⟩ => ?_⟩
  exact p1 _ H1 ⟨rfl, F1, ι1, .refl, s1⟩⟩
/-! .. as values -/
def gAndV (a b : GE) : GE := fun ρ G => (a ρ G).bind fun x G1 => match asB x with
  | none => .stuck
  | some true => b ρ G1
  | some false => .ok (.d (.bl false)) G1
def gOrV (a b : GE) : GE := fun ρ G => (a ρ G).bind fun x G1 => match asB x with
  | none => .stuck
  | some true => .ok (.d (.bl true)) G1
  | some false => b ρ G1
def gNotV (a : GE) : GE := fun ρ G => (a ρ G).bind fun x G1 => match asB x with
  | none => .stuck
  | some k => .ok (.d (.bl (!k))) G1
theorem asB_is {C : Md} {F : Hp} {ι : Nat → Addr} {n : Nat} {w : W} {v : V} {k : Bool} (h : asB w = some k) (r : RpW C F ι n w v) : v = .bl k := by
  cases w with
  | ref i => cases h
  | tup ws => cases h
  | d x' =>
    cases x' with
    | bl b =>
      simp only [RpW, Rp] at r
      cases h
      exact r
    | _ => cases h
theorem ge_one {op} (ha : GJE X a ga) : GJE X (.BoolOp op [a] pos) ga := ⟨fun B F0 wx tk => pe_one (ha.run B F0 wx tk)⟩
theorem ge_and {rest : List Expr} (ha : GJE X a ga) (hb : GJE X (.BoolOp .And (b :: rest) pos) gb) : GJE X (.BoolOp .And (a :: b :: rest) pos) (gAndV ga gb) := ⟨fun B F0 wx tk => by
  refine PE.imp (pe_and (ha.run B F0 wx tk) (hb.run B F0 wx tk)) fun σ H Q ⟨F, ι, ρ, G, hs, he, hp⟩ => ?_
  refine ⟨F, ι, ρ, G, hs, he, (Post.fst hp).imp fun x H1 ⟨F1, ι1, w, G1, e1, s1, r1, p1⟩ => ?_⟩
  cases k : asB w with
  | none => rw [k] at p1; exact p1.elim
  | some c =>
    rw [k] at p1
    refine ⟨c, asB_is k r1, ?_⟩
    cases c with
    | true => exact ⟨F1, ι1, ρ, G1, s1, he.mono e1, p1⟩
    | false => exact p1 _ H1 ⟨F1, ι1, .refl, s1, by simp only [RpW, Rp]⟩⟩
theorem ge_or {rest : List Expr} (ha : GJE X a ga) (hb : GJE X (.BoolOp .Or (b :: rest) pos) gb) : GJE X (.BoolOp .Or (a :: b :: rest) pos) (gOrV ga gb) := ⟨fun B F0 wx tk => by
  refine PE.imp (pe_or (ha.run B F0 wx tk) (hb.run B F0 wx tk)) fun σ H Q ⟨F, ι, ρ, G, hs, he, hp⟩ => ?_
  refine ⟨F, ι, ρ, G, hs, he, (Post.fst hp).imp fun x H1 ⟨F1, ι1, w, G1, e1, s1, r1, p1⟩ => ?_⟩
  cases k : asB w with
  | none => rw [k] at p1; exact p1.elim
  | some c =>
    rw [k] at p1
    refine ⟨c, asB_is k r1, ?_⟩
    cases c with
    | false => exact ⟨F1, ι1, ρ, G1, s1, he.mono e1, p1⟩
    | true => exact p1 _ H1 ⟨F1, ι1, .refl, s1, by simp only [RpW, Rp]⟩⟩
theorem ge_not (ha : GJE X a ga) : GJE X (.UnaryOp .Not a pos) (gNotV ga) := ⟨fun B F0 wx tk => by
  refine PE.imp (pe_not (ha.run B F0 wx tk)) fun σ H Q ⟨F, ι, ρ, G, hs, he, hp⟩ => ?_
  refine ⟨F, ι, ρ, G, hs, he, (Post.fst hp).imp fun x H1 ⟨F1, ι1, w, G1, e1, s1, r1, p1⟩ => ?_⟩
  cases k : asB w with
  | none => rw [k] at p1; exact p1.elim
  | some c =>
    rw [k] at p1
    exact ⟨c, asB_is k r1, p1 _ H1 ⟨F1, ι1, .refl, s1, by simp only [RpW, Rp]⟩⟩⟩
def gIfE (c : GT) (a b : GE) : GE := fun ρ G => (c ρ G).bind fun x G1 => if x then a ρ G1 else b ρ G1
theorem ge_if {c : Expr} {tc : GT} (hc : GJT X c tc) (ha : GJE X a ga) (hb : GJE X b gb) : GJE X (.IfExp c a b pos) (gIfE tc ga gb) := ⟨fun B F0 wx tk => by
  refine PE.imp (pe_ifExp (hc.run B F0 wx tk) (ha.run B F0 wx tk) (hb.run B F0 wx tk)) fun σ H Q ⟨F, ι, ρ, G, hs, he, hp⟩ => ?_
  refine ⟨F, ι, ρ, G, hs, he, (PostB.fstE hp).imp fun x H1 ⟨F1, ι1, G1, e1, s1, p1⟩ => ?_⟩
  cases x with
  | true => exact ⟨F1, ι1, ρ, G1, s1, he.mono e1, p1⟩
  | false => exact ⟨F1, ι1, ρ, G1, s1, he.mono e1, p1⟩⟩
end
end Gh

set_option Elab.async false
set_option linter.all false
set_option maxRecDepth 100000
set_option maxHeartbeats 4000000
namespace Gh
open PySem PySem.Spec PyProof.Rows L2

/-! ### trees as the library's data -/
mutual
def toPy : D → PyData
  | .non => .none
  | .bl b => .bool b
  | .int i => .int i
  | .str x => .str x
  | .tup ds => .tuple (toPyL ds)
  | .lst ds => .list (toPyL ds)
  | .dic _ => .dict []
  | .ins _ _ => .dict []
def toPyL : List D → List PyData
  | [] => []
  | d :: ds => toPy d :: toPyL ds
end
section
variable {C : Md} {F : Hp}
mutual
theorem Rp.dp : ∀ {d : D} {v : V}, (toPy d).canLay0 = true → Rp C F d v → Dp C.K F v (toPy d)
  | .non, v, _, h => by simp only [Rp] at h; subst h; simp only [toPy]; exact .non
  | .bl b, v, _, h => by simp only [Rp] at h; subst h; simp only [toPy]; exact .bl b
  | .int i, v, _, h => by simp only [Rp] at h; subst h; simp only [toPy]; exact .int i
  | .str x, v, _, h => by simp only [Rp] at h; subst h; simp only [toPy]; exact .str x
  | .tup ds, v, c, h => by
    simp only [Rp] at h
    obtain ⟨a, xs, rfl, h2, h3⟩ := h
    simp only [toPy, PyData.canLay0] at c ⊢
    exact .tup h2 (RpL.dp c h3)
  | .lst ds, v, c, h => by
    simp only [Rp] at h
    obtain ⟨a, xs, rfl, h2, h3⟩ := h
    simp only [toPy, PyData.canLay0] at c ⊢
    exact .lst h2 (RpL.dp c h3)
  | .dic _, v, c, _ => by simp [toPy, PyData.canLay0] at c
  | .ins _ _, v, c, _ => by simp [toPy, PyData.canLay0] at c
theorem RpL.dp : ∀ {ds : List D} {xs : List V}, PyData.canLayAll0 (toPyL ds) = true → RpL C F ds xs → DpAll C.K F xs (toPyL ds)
  | [], xs, _, h => by simp only [RpL] at h; subst h; simp only [toPyL]; exact .nil
  | d :: ds, xs, c, h => by
    simp only [RpL] at h
    obtain ⟨x, r, rfl, h2, h3⟩ := h
    simp only [toPyL, PyData.canLayAll0, Bool.and_eq_true] at c ⊢
    exact .cons (Rp.dp c.1 h2) (RpL.dp c.2 h3)
end
end

/-! ### what a value reads as here -/
def allD : List W → Option (List D)
  | [] => some []
  | .d x :: r => (allD r).map (x :: ·)
  | _ :: _ => none
theorem allD_rp {C : Md} {F : Hp} {ι : Nat → Addr} {n : Nat} : ∀ {ws : List W} {ds : List D} {xs : List V}, allD ws = some ds → RpWL C F ι n ws xs → RpL C F ds xs
  | [], ds, xs, h, r => by
    cases h
    simp only [RpWL] at r
    simpa only [RpL] using r
  | .d x :: ws, ds, xs, h, r => by
    simp only [allD] at h
    cases q : allD ws with
    | none => rw [q] at h; cases h
    | some es =>
      rw [q] at h
      cases h
      simp only [RpWL, RpW] at r
      obtain ⟨y, r', rfl, h1, h2⟩ := r
      simp only [RpL]
      exact ⟨y, r', rfl, h1, allD_rp q h2⟩
  | .ref _ :: _, _, _, h, _ => by cases h
  | .tup _ :: _, _, _, h, _ => by cases h
theorem RpL.wl {C : Md} {F : Hp} {ι : Nat → Addr} {n : Nat} : ∀ {ds : List D} {xs : List V}, RpL C F ds xs → RpWL C F ι n (ds.map .d) xs
  | [], xs, h => by simpa only [RpL, List.map_nil, RpWL] using h
  | d :: ds, xs, h => by
    simp only [RpL] at h
    obtain ⟨x, r, rfl, h1, h2⟩ := h
    simp only [List.map_cons, RpWL, RpW]
    exact ⟨x, r, rfl, h1, RpL.wl h2⟩
theorem RpWL.length {C : Md} {F : Hp} {ι : Nat → Addr} {n : Nat} : ∀ {ws : List W} {xs : List V}, RpWL C F ι n ws xs → ws.length = xs.length
  | [], xs, h => by simp only [RpWL] at h; subst h; rfl
  | w :: ws, xs, h => by
    simp only [RpWL] at h
    obtain ⟨x, r, rfl, _, h2⟩ := h
    simp [RpWL.length h2]
theorem RpWL.get {C : Md} {F : Hp} {ι : Nat → Addr} {n : Nat} : ∀ {ws : List W} {xs : List V} {i : Nat} {w : W}, RpWL C F ι n ws xs → ws[i]? = some w → ∃ x, xs[i]? = some x ∧ RpW C F ι n w x
  | [], xs, i, w, h, e => by simp at e
  | w' :: ws, xs, i, w, h, e => by
    simp only [RpWL] at h
    obtain ⟨x, r, rfl, h1, h2⟩ := h
    cases i with
    | zero => simp at e; subst e; exact ⟨x, rfl, h1⟩
    | succ i => simpa using RpWL.get (i := i) h2 (by simpa using e)
theorem RpWL.getV {C : Md} {F : Hp} {ι : Nat → Addr} {n : Nat} {ws : List W} {xs : List V} {i : Nat} {x : V} (h : RpWL C F ι n ws xs) (e : xs[i]? = some x) : ∃ w, ws[i]? = some w ∧ RpW C F ι n w x := by
  have hi : i < ws.length := by rw [h.length]; exact (List.getElem?_eq_some_iff.mp e).1
  obtain ⟨y, h1, h2⟩ := h.get (List.getElem?_eq_getElem hi)
  rw [e] at h1
  cases h1
  exact ⟨_, List.getElem?_eq_getElem hi, h2⟩
theorem RpWL.append {C : Md} {F : Hp} {ι : Nat → Addr} {n : Nat} : ∀ {ws us : List W} {xs ys : List V}, RpWL C F ι n ws xs → RpWL C F ι n us ys → RpWL C F ι n (ws ++ us) (xs ++ ys)
  | [], us, xs, ys, h, k => by simp only [RpWL] at h; subst h; simpa using k
  | w :: ws, us, xs, ys, h, k => by
    simp only [RpWL] at h
    obtain ⟨x, r, rfl, h1, h2⟩ := h
    simp only [List.cons_append, RpWL]
    exact ⟨x, r ++ ys, rfl, h1, h2.append k⟩
theorem RpWL.one {C : Md} {F : Hp} {ι : Nat → Addr} {n : Nat} {w : W} {x : V} (h : RpW C F ι n w x) : RpWL C F ι n [w] [x] := by
  simp only [RpWL]
  exact ⟨x, [], rfl, h, rfl⟩
theorem RpWL.take {C : Md} {F : Hp} {ι : Nat → Addr} {n : Nat} : ∀ {ws : List W} {xs : List V} (k : Nat), RpWL C F ι n ws xs → RpWL C F ι n (ws.take k) (xs.take k)
  | [], xs, k, h => by simp only [RpWL] at h; subst h; simp [RpWL]
  | w :: ws, xs, 0, h => by simp [RpWL]
  | w :: ws, xs, k + 1, h => by
    simp only [RpWL] at h
    obtain ⟨x, r, rfl, h1, h2⟩ := h
    simp only [List.take_succ_cons, RpWL]
    exact ⟨x, _, rfl, h1, h2.take k⟩
theorem RpWL.drop {C : Md} {F : Hp} {ι : Nat → Addr} {n : Nat} : ∀ {ws : List W} {xs : List V} (k : Nat), RpWL C F ι n ws xs → RpWL C F ι n (ws.drop k) (xs.drop k)
  | [], xs, k, h => by simp only [RpWL] at h; subst h; simp [RpWL]
  | w :: ws, xs, 0, h => by simpa using h
  | w :: ws, xs, k + 1, h => by
    simp only [RpWL] at h
    obtain ⟨x, r, rfl, h1, h2⟩ := h
    simp only [List.drop_succ_cons]
    exact h2.drop k
/-- a list or tuple: which, its items -/
def seqW : W → Hg → Option (Bool × List W)
  | .d (.lst ds), _ => some (true, ds.map .d)
  | .d (.tup ds), _ => some (false, ds.map .d)
  | .tup ws, _ => some (false, ws)
  | .ref i, G => match G[i]? with
    | some (.lst ws) => some (true, ws)
    | _ => none
  | _, _ => none
section
variable {C : GC} {F H : Hp} {ι : Nat → Addr} {G : Hg}
theorem Sim.seq {w : W} {b : Bool} {ws : List W} {v : V} (s : Sim C F H ι G) (e : seqW w G = some (b, ws)) (r : RpW C.m F ι G.length w v) :
    ∃ a xs, v = .ref a ∧ (if b = true then SqL C.m.K H a xs else SqT C.m.K H a xs) ∧ RpWL C.m F ι G.length ws xs := by
  cases w with
  | d x =>
    simp only [RpW] at r
    cases x with
    | lst ds =>
      cases e
      simp only [Rp] at r
      obtain ⟨a, xs, h1, h2, h3⟩ := r
      exact ⟨a, xs, h1, by rw [if_pos rfl]; exact Same.sqL s.fh h2, h3.wl⟩
    | tup ds =>
      cases e
      simp only [Rp] at r
      obtain ⟨a, xs, h1, h2, h3⟩ := r
      exact ⟨a, xs, h1, by rw [if_neg Bool.false_ne_true]; exact Same.sqT s.fh h2, h3.wl⟩
    | _ => cases e
  | tup us =>
    cases e
    simp only [RpW] at r
    obtain ⟨a, xs, h1, h2, h3⟩ := r
    exact ⟨a, xs, h1, by rw [if_neg Bool.false_ne_true]; exact Same.sqT s.fh h2, h3⟩
  | ref i =>
    simp only [seqW] at e
    simp only [RpW] at r
    obtain ⟨hi, rfl⟩ := r
    cases q : G[i]? with
    | none => rw [q] at e; cases e
    | some o =>
      rw [q] at e
      cases o with
      | lst us =>
        cases e
        obtain ⟨_, _, xs, h1, h2⟩ := s.live i _ q (by intro z; cases z)
        exact ⟨_, xs, rfl, by rw [if_pos rfl]; exact .inl (.inl h1), h2⟩
      | _ => cases e
/-- a tree that is read here (a list's contents as they are now) -/
def snap : W → Hg → Option D
  | .d x, _ => some x
  | .ref i, G => match G[i]? with
    | some (.lst ws) => (allD ws).map .lst
    | _ => none
  | .tup _, _ => none
theorem Sim.snap {w : W} {d : D} {v : V} (s : Sim C F H ι G) (e : snap w G = some d) (r : RpW C.m F ι G.length w v) : Rp C.m H d v := by
  cases w with
  | d x => cases e; simp only [RpW] at r; exact r.mono s.fh
  | tup us => cases e
  | ref i =>
    simp only [Gh.snap] at e
    simp only [RpW] at r
    obtain ⟨hi, rfl⟩ := r
    cases q : G[i]? with
    | none => rw [q] at e; cases e
    | some o =>
      rw [q] at e
      cases o with
      | lst us =>
        simp only at e
        cases z : allD us with
        | none => rw [z] at e; cases e
        | some ds =>
          rw [z] at e
          cases e
          obtain ⟨_, _, xs, h1, h2⟩ := s.live i _ q (by intro z; cases z)
          simp only [Rp]
          exact ⟨_, xs, rfl, .inl (.inl h1), (allD_rp z h2).mono s.fh⟩
      | _ => cases e
end

/-! ### ends of operations -/
section
variable {C : GC} {F H : Hp} {ι : Nat → Addr} {G : Hg}
/-- a plain value, the heap as it is -/
theorem out_flat {d : D} {v : V} (s : Sim C F H ι G) (r : Rp C.m F d v) : Out C F ι G.length (.d d) G v H := ⟨F, ι, .refl, s, by simpa only [RpW] using r⟩
theorem out_w {w : W} {v : V} (s : Sim C F H ι G) (r : RpW C.m F ι G.length w v) : Out C F ι G.length w G v H := ⟨F, ι, .refl, s, r⟩
/-- a new tuple -/
def mkTup (ws : List W) : W := match allD ws with
  | some ds => .d (.tup ds)
  | none => .tup ws
theorem out_tup {ws : List W} {xs : List V} {p : Addr} (s : Sim C F H ι G) (r : RpWL C.m F ι G.length ws xs) (h : H p = none) : Out C F ι G.length (mkTup ws) G (.ref p) (upd H p (.tup xs)) := by
  obtain ⟨s', e⟩ := s.lay (o := .tup xs) h
  refine ⟨_, _, e, s', ?_⟩
  unfold mkTup
  cases q : allD ws with
  | none =>
    simp only [RpW]
    exact ⟨p, xs, rfl, .inl (.inl upd_same), r.mono e⟩
  | some ds =>
    simp only [RpW, Rp]
    exact ⟨p, xs, rfl, .inl (.inl upd_same), (allD_rp q r).mono e.fr⟩
/-- a new list of trees, that no one will change -/
theorem out_lst {ds : List D} {xs : List V} {p : Addr} (s : Sim C F H ι G) (r : RpL C.m F ds xs) (h : H p = none) : Out C F ι G.length (.d (.lst ds)) G (.ref p) (upd H p (.lst xs)) := by
  obtain ⟨s', e⟩ := s.lay (o := .lst xs) h
  refine ⟨_, _, e, s', ?_⟩
  simp only [RpW, Rp]
  exact ⟨p, xs, rfl, .inl (.inl upd_same), r.mono e.fr⟩
/-- a new list that may be changed -/
theorem out_new {ws : List W} {xs : List V} {p : Addr} (s : Sim C F H ι G) (r : RpWL C.m F ι G.length ws xs) (h : H p = none) : Out C F ι G.length (.ref G.length) (G ++ [.lst ws]) (.ref p) (upd H p (.lst xs)) := by
  obtain ⟨s', e⟩ := s.make (o := .lst xs) (g := .lst ws) h fun ι' n' e => ⟨xs, upd_same, r.mono e⟩
  refine ⟨_, _, e, s', ?_⟩
  simp only [RpW]
  exact ⟨by simp, by rw [putI_same]⟩
end

/-! ### displays -/
def small (n : Nat) : Bool := Nat.ble n 16777216
theorem small_le {n : Nat} (h : small n = true) : n ≤ sizeLine := by rw [sizeLine_eq]; exact Nat.le_of_ble_eq_true h
def gTup (a : GEs) : GE := fun ρ G => (a ρ G).bind fun ws G1 => if small ws.length then .ok (mkTup ws) G1 else .stuck
def gLst (a : GEs) : GE := fun ρ G => (a ρ G).bind fun ws G1 => match small ws.length, allD ws with
  | true, some ds => .ok (.d (.lst ds)) G1
  | _, _ => .stuck
def gNew (a : GEs) : GE := fun ρ G => (a ρ G).bind fun ws G1 => if small ws.length then .ok (.ref G1.length) (G1 ++ [.lst ws]) else .stuck
section
variable {X : Cx} {es : List Expr} {gs : GEs} {pos : Pos}
theorem ge_tup {x1} (h : GJA X es gs) : GJE X (.Tuple es x1 pos) (gTup gs) := ⟨fun B F0 wx tk => by
  refine PE.imp (pe_tup (h.run B F0 wx tk)) fun σ H Q ⟨F, ι, ρ, G, hs, he, hp⟩ => ?_
  refine ⟨F, ι, ρ, G, hs, he, (PostL.fst hp).imp fun xs H1 ⟨F1, ι1, ws, G1, e1, s1, r1, p1⟩ => ?_⟩
  cases q : small ws.length with
  | false => rw [q] at p1; exact p1.elim
  | true =>
    rw [q] at p1
    exact ⟨by rw [← r1.length]; exact small_le q, fun p hp => p1 _ _ (out_tup s1 r1 hp)⟩⟩
theorem ge_lst (h : GJA X es gs) : GJE X (.List es pos) (gLst gs) := ⟨fun B F0 wx tk => by
  refine PE.imp (pe_lst (h.run B F0 wx tk)) fun σ H Q ⟨F, ι, ρ, G, hs, he, hp⟩ => ?_
  refine ⟨F, ι, ρ, G, hs, he, (PostL.fst hp).imp fun xs H1 ⟨F1, ι1, ws, G1, e1, s1, r1, p1⟩ => ?_⟩
  cases q : small ws.length with
  | false => rw [q] at p1; exact p1.elim
  | true =>
    cases z : allD ws with
    | none => rw [q, z] at p1; exact p1.elim
    | some ds =>
      rw [q, z] at p1
      exact ⟨by rw [← r1.length]; exact small_le q, fun p hp => p1 _ _ (out_lst s1 (allD_rp z r1) hp)⟩⟩
theorem ge_new (h : GJA X es gs) : GJE X (.List es pos) (gNew gs) := ⟨fun B F0 wx tk => by
  refine PE.imp (pe_lst (h.run B F0 wx tk)) fun σ H Q ⟨F, ι, ρ, G, hs, he, hp⟩ => ?_
  refine ⟨F, ι, ρ, G, hs, he, (PostL.fst hp).imp fun xs H1 ⟨F1, ι1, ws, G1, e1, s1, r1, p1⟩ => ?_⟩
  cases q : small ws.length with
  | false => rw [q] at p1; exact p1.elim
  | true =>
    rw [q] at p1
    exact ⟨by rw [← r1.length]; exact small_le q, fun p hp => p1 _ _ (out_new s1 r1 hp)⟩⟩
end

/-! ### operations on ints -/
def fI (f : Int → Int → Option D) : W → W → Hg → Option (W × Hg)
  | .d (.int i), .d (.int j), G => (f i j).map fun d => (.d d, G)
  | _, _, _ => none
theorem fI_inv {f : Int → Int → Option D} {w u : W} {G G' : Hg} {z : W} (h : fI f w u G = some (z, G')) : ∃ i j d, w = .d (.int i) ∧ u = .d (.int j) ∧ f i j = some d ∧ z = .d d ∧ G' = G := by
  cases w with
  | d x =>
    cases x with
    | int i =>
      cases u with
      | d y =>
        cases y with
        | int j =>
          simp only [fI] at h
          cases q : f i j with
          | none => rw [q] at h; cases h
          | some d => rw [q] at h; cases h; exact ⟨i, j, d, rfl, rfl, q, rfl, rfl⟩
        | _ => cases h
      | _ => cases h
    | _ => cases h
  | _ => cases h
theorem og_int {X : Cx} {r : R2} {f : Int → Int → Option D} (h : ∀ (C : GC) (F H : Hp) (i j : Int) (d : D) (Q : VK), f i j = some d → (∀ v, Rp C.m F d v → Q v H) → r (.int i) (.int j) H Q) : OpG X r (fI f) := by
  intro C F H ι G w u x y z G' Q hK s rw_ ru e hQ
  obtain ⟨i, j, d, rfl, rfl, q, rfl, rfl⟩ := fI_inv e
  simp only [RpW, Rp] at rw_ ru
  subst rw_ ru
  exact h C F H i j d Q q fun v hv => hQ v H (out_flat s hv)
def iAdd (i j : Int) : Option D := some (.int (i + j))
def iSub (i j : Int) : Option D := some (.int (i - j))
def iDiv (i j : Int) : Option D := if 0 < j ∧ j < 1073741824 then some (.int (i / j)) else none
def iMod (i j : Int) : Option D := if 0 < j then some (.int (i % j)) else none
def iMul (i j : Int) : Option D := if -(2 ^ 64) < i ∧ i < 2 ^ 64 ∨ -(2 ^ 64) < j ∧ j < 2 ^ 64 then some (.int (i * j)) else none
def iPow (i j : Int) : Option D := if 0 ≤ j ∧ j ≤ 1000000 ∧ i.natAbs < 2 ^ 64 then some (.int (i ^ j.toNat)) else none
section
variable {X : Cx}
theorem of_some {P : Prop} [Decidable P] {d e : D} (h : (if P then some d else none) = some e) : P ∧ d = e := by
  by_cases p : P
  · rw [if_pos p] at h; exact ⟨p, Option.some.inj h⟩
  · rw [if_neg p] at h; cases h
theorem rpI {C : Md} {F : Hp} {i : Int} : Rp C F (.int i) (.int i) := by simp only [Rp]
theorem rpB {C : Md} {F : Hp} {i : Bool} : Rp C F (.bl i) (.bl i) := by simp only [Rp]
theorem rpS {C : Md} {F : Hp} {i : Str} : Rp C F (.str i) (.str i) := by simp only [Rp]
theorem rpN {C : Md} {F : Hp} : Rp C F .non .non := by simp only [Rp]
theorem og_sub : OpG X (rI0 fun i j => .int (i - j)) (fI iSub) := og_int fun C F H i j d Q q hQ => by
  cases q; exact ⟨i, j, rfl, rfl, hQ _ rpI⟩
theorem og_div : OpG X (rI CDiv fun i j => .int (i / j)) (fI iDiv) := og_int fun C F H i j d Q q hQ => by
  obtain ⟨p, rfl⟩ := of_some q; exact ⟨i, j, rfl, rfl, p, hQ _ rpI⟩
theorem og_mod : OpG X (rI (fun _ j => 0 < j) fun i j => .int (i % j)) (fI iMod) := og_int fun C F H i j d Q q hQ => by
  obtain ⟨p, rfl⟩ := of_some q; exact ⟨i, j, rfl, rfl, p, hQ _ rpI⟩
theorem og_pow : OpG X (rI CPow fun i j => .int (i ^ j.toNat)) (fI iPow) := og_int fun C F H i j d Q q hQ => by
  obtain ⟨p, rfl⟩ := of_some q; exact ⟨i, j, rfl, rfl, p, hQ _ rpI⟩
def iCmp (p : Int → Int → Bool) (i j : Int) : Option D := some (.bl (p i j))
theorem og_lt : OpG X (rI0 fun i j => .bl (decide (i < j))) (fI (iCmp fun i j => decide (i < j))) := og_int fun C F H i j d Q q hQ => by cases q; exact ⟨i, j, rfl, rfl, hQ _ rpB⟩
theorem og_le : OpG X (rI0 fun i j => .bl (decide (i ≤ j))) (fI (iCmp fun i j => decide (i ≤ j))) := og_int fun C F H i j d Q q hQ => by cases q; exact ⟨i, j, rfl, rfl, hQ _ rpB⟩
theorem og_gt : OpG X (rI0 fun i j => .bl (decide (j < i))) (fI (iCmp fun i j => decide (j < i))) := og_int fun C F H i j d Q q hQ => by cases q; exact ⟨i, j, rfl, rfl, hQ _ rpB⟩
theorem og_ge : OpG X (rI0 fun i j => .bl (decide (j ≤ i))) (fI (iCmp fun i j => decide (j ≤ i))) := og_int fun C F H i j d Q q hQ => by cases q; exact ⟨i, j, rfl, rfl, hQ _ rpB⟩
end

/-! ### == and != , in and not in, of trees -/
def okD (d : D) : Bool := SeqAt.shaped (toPy d)
def eqD (x y : D) : Bool := PyData.eqv (toPy x) (toPy y)
def fEq (neg : Bool) : W → W → Hg → Option (W × Hg) := fun w u G => match snap w G, snap u G with
  | some x, some y => if okD x && okD y then some (.d (.bl (neg ^^ eqD x y)), G) else none
  | _, _ => none
theorem fEq_inv {neg : Bool} {w u : W} {G G' : Hg} {z : W} (h : fEq neg w u G = some (z, G')) : ∃ x y, snap w G = some x ∧ snap u G = some y ∧ okD x = true ∧ okD y = true ∧ z = .d (.bl (neg ^^ eqD x y)) ∧ G' = G := by
  unfold fEq at h
  cases q : snap w G with
  | none => rw [q] at h; cases h
  | some x =>
    cases q2 : snap u G with
    | none => rw [q, q2] at h; cases h
    | some y =>
      rw [q, q2] at h
      simp only at h
      by_cases c : (okD x && okD y) = true
      · rw [if_pos c] at h
        cases h
        rw [Bool.and_eq_true] at c
        exact ⟨x, y, rfl, rfl, c.1, c.2, rfl, rfl⟩
      · rw [if_neg c] at h; cases h
theorem og_eq {X : Cx} : OpG X (rEqD X.K) (fEq false) := by
  intro C F H ι G w u x y z G' Q hK s rw_ ru e hQ
  obtain ⟨d, f, h1, h2, o1, o2, rfl, rfl⟩ := fEq_inv e
  have e1 := Rp.dp (SeqAt.canLay_of_shaped o1) (s.snap h1 rw_)
  have e2 := Rp.dp (SeqAt.canLay_of_shaped o2) (s.snap h2 ru)
  rw [hK] at e1 e2
  exact ⟨_, _, e1, e2, o1, o2, hQ _ _ (out_flat s (by rw [Bool.false_xor]; exact rpB))⟩
theorem og_ne {X : Cx} : OpG X (rNeD X.K) (fEq true) := by
  intro C F H ι G w u x y z G' Q hK s rw_ ru e hQ
  obtain ⟨d, f, h1, h2, o1, o2, rfl, rfl⟩ := fEq_inv e
  have e1 := Rp.dp (SeqAt.canLay_of_shaped o1) (s.snap h1 rw_)
  have e2 := Rp.dp (SeqAt.canLay_of_shaped o2) (s.snap h2 ru)
  rw [hK] at e1 e2
  exact ⟨_, _, e1, e2, o1, o2, hQ _ _ (out_flat s (by rw [Bool.true_xor]; exact rpB))⟩
/-- in, not in, over lists and tuples of trees -/
def rInA (K : PySem.W.Frag) (neg : Bool) : R2 := fun x y H Q => ∃ d ds, Dp K H x d ∧ (Dp K H y (.list ds) ∨ Dp K H y (.tuple ds)) ∧ SeqAt.shaped d = true ∧ PyData.canLayAll0 ds = true ∧ Q (.bl (neg ^^ (ds.any fun z => PyData.eqv z d))) H
theorem op_inA {X : Cx} (hu : X.A.units + 65 < cLine) : OpR X (compareOp .In) (rInA X.K false) := by
  intro pins s σ H x y v u Q I rx ry h
  obtain ⟨d, ds, hd, he, sd, se, q⟩ := h
  obtain ⟨as, r1⟩ := Dp.reads I d x v hd rx
  rw [Bool.false_xor] at q
  rcases he with he | he
  · obtain ⟨bs, r2⟩ := Dp.reads I (.list ds) y u he ry
    exact SeqAt.in_list_reads r2 r1 se (SeqAt.canLay_of_shaped sd) (room_in_shaped sd hu) ⟨.bl _, H, I, rfl, q⟩
  · obtain ⟨bs, r2⟩ := Dp.reads I (.tuple ds) y u he ry
    exact SeqAt.in_tuple_reads r2 r1 se (SeqAt.canLay_of_shaped sd) (room_in_shaped sd hu) ⟨.bl _, H, I, rfl, q⟩
theorem op_notInA {X : Cx} (hu : X.A.units + 65 < cLine) : OpR X (compareOp .NotIn) (rInA X.K true) := by
  intro pins s σ H x y v u Q I rx ry h
  obtain ⟨d, ds, hd, he, sd, se, q⟩ := h
  obtain ⟨as, r1⟩ := Dp.reads I d x v hd rx
  rw [Bool.true_xor] at q
  rcases he with he | he
  · obtain ⟨bs, r2⟩ := Dp.reads I (.list ds) y u he ry
    exact SeqAt.notIn_list_reads r2 r1 se (SeqAt.canLay_of_shaped sd) (room_in_shaped sd hu) ⟨.bl _, H, I, rfl, q⟩
  · obtain ⟨bs, r2⟩ := Dp.reads I (.tuple ds) y u he ry
    exact SeqAt.notIn_tuple_reads r2 r1 se (SeqAt.canLay_of_shaped sd) (room_in_shaped sd hu) ⟨.bl _, H, I, rfl, q⟩
def seqD : D → Option (List D)
  | .lst ds => some ds
  | .tup ds => some ds
  | _ => none
def okL (ds : List D) : Bool := PyData.canLayAll0 (toPyL ds)
def inD (x : D) (ds : List D) : Bool := ds.any fun z => eqD z x
def fIn (neg : Bool) : W → W → Hg → Option (W × Hg) := fun w u G => match snap w G, (snap u G).bind seqD with
  | some x, some ds => if okD x && okL ds then some (.d (.bl (neg ^^ inD x ds)), G) else none
  | _, _ => none
theorem any_py (x : PyData) : ∀ ds : List D, (toPyL ds).any (fun z => PyData.eqv z x) = ds.any fun z => PyData.eqv (toPy z) x
  | [] => rfl
  | d :: ds => by simp only [toPyL, List.any_cons, any_py x ds]
theorem og_in {X : Cx} {neg : Bool} : OpG X (rInA X.K neg) (fIn neg) := by
  intro C F H ι G w u x y z G' Q hK s rw_ ru e hQ
  unfold fIn at e
  cases q : snap w G with
  | none => rw [q] at e; cases e
  | some d =>
    cases q2 : snap u G with
    | none => rw [q, q2] at e; cases e
    | some t =>
      cases q3 : seqD t with
      | none => rw [q, q2] at e; simp only [Option.bind_some, q3] at e; cases e
      | some ds =>
        rw [q, q2] at e
        simp only [Option.bind_some, q3] at e
        by_cases c : (okD d && okL ds) = true
        · rw [if_pos c] at e
          cases e
          rw [Bool.and_eq_true] at c
          have e1 := Rp.dp (SeqAt.canLay_of_shaped c.1) (s.snap q rw_)
          have r2 := s.snap q2 ru
          rw [hK] at e1
          refine ⟨_, toPyL ds, e1, ?_, c.1, c.2, hQ _ _ (out_flat s (by rw [any_py]; exact rpB))⟩
          cases t with
          | lst es =>
            cases q3
            have z := Rp.dp (d := .lst ds) (by simp only [toPy, PyData.canLay0]; exact c.2) r2
            rw [hK] at z
            simp only [toPy] at z
            exact .inl z
          | tup es =>
            cases q3
            have z := Rp.dp (d := .tup ds) (by simp only [toPy, PyData.canLay0]; exact c.2) r2
            rw [hK] at z
            simp only [toPy] at z
            exact .inr z
          | _ => cases q3
        · rw [if_neg c] at e; cases e

/-! ### is None -/
def isN : W → Bool
  | .d .non => true
  | _ => false
theorem isN_v {C : Md} {F : Hp} {ι : Nat → Addr} {n : Nat} {w : W} {v : V} (r : RpW C F ι n w v) : decide (v = .non) = isN w := by
  cases w with
  | ref i => simp only [RpW] at r; obtain ⟨_, rfl⟩ := r; rfl
  | tup ws => simp only [RpW] at r; obtain ⟨a, xs, rfl, _⟩ := r; rfl
  | d x =>
    simp only [RpW] at r
    cases x with
    | non => simp only [Rp] at r; subst r; rfl
    | bl b => simp only [Rp] at r; subst r; rfl
    | int b => simp only [Rp] at r; subst r; rfl
    | str b => simp only [Rp] at r; subst r; rfl
    | tup b => simp only [Rp] at r; obtain ⟨a, xs, rfl, _⟩ := r; rfl
    | lst b => simp only [Rp] at r; obtain ⟨a, xs, rfl, _⟩ := r; rfl
    | dic b => simp only [Rp] at r; obtain ⟨a, rfl, _⟩ := r; rfl
    | ins c b => simp only [Rp] at r; obtain ⟨a, _, _, rfl, _⟩ := r; rfl
def gIsN (neg : Bool) (a : GE) : GE := fun ρ G => (a ρ G).bind fun w G1 => .ok (.d (.bl (neg ^^ isN w))) G1
section
variable {X : Cx} {a : Expr} {ga : GE} {pos : Pos}
theorem ge_isN {j pos'} (ha : GJE X a ga) : GJE X (.Compare a [.Is] [.Constant .none j pos'] pos) (gIsN false ga) := ⟨fun B F0 wx tk => by
  refine PE.imp (pe_cmp (pc_isN (ha.run B F0 wx tk)) rfl) fun σ H Q ⟨F, ι, ρ, G, hs, he, hp⟩ => ?_
  refine ⟨F, ι, ρ, G, hs, he, (Post.fst hp).imp fun x H1 ⟨F1, ι1, w, G1, e1, s1, r1, p1⟩ => ?_⟩
  refine p1 _ _ (out_flat s1 ?_)
  rw [isN_v r1, Bool.false_xor]
  exact rpB⟩
theorem ge_notN {j pos'} (ha : GJE X a ga) : GJE X (.Compare a [.IsNot] [.Constant .none j pos'] pos) (gIsN true ga) := ⟨fun B F0 wx tk => by
  refine PE.imp (pe_cmp (pc_notN (ha.run B F0 wx tk)) rfl) fun σ H Q ⟨F, ι, ρ, G, hs, he, hp⟩ => ?_
  refine ⟨F, ι, ρ, G, hs, he, (Post.fst hp).imp fun x H1 ⟨F1, ι1, w, G1, e1, s1, r1, p1⟩ => ?_⟩
  refine p1 _ _ (out_flat s1 ?_)
  rw [isN_v r1, Bool.true_xor]
  exact rpB⟩
end
end Gh

set_option Elab.async false
set_option linter.all false
set_option maxRecDepth 100000
set_option maxHeartbeats 4000000
namespace Gh
open PySem PySem.Spec PyProof.Rows L2

/-! ### statements -/
inductive SRes where
  | stuck | exc (e : Exc) (ρ : GEnv) (G : Hg) | nx (ρ : GEnv) (G : Hg) | bk (ρ : GEnv) (G : Hg) | ct (ρ : GEnv) (G : Hg) | ret (w : W) (G : Hg)
abbrev GS := GEnv → Hg → SRes
def SOut (C : GC) (F : Hp) (ι : Nat → Addr) (n : Nat) (ρ' : GEnv) (G' : Hg) : L2.St → Hp → Prop := fun σ' H' => ∃ F' ι', Ext F ι n F' ι' G'.length ∧ Sim C F' H' ι' G' ∧ REnv C.m F' ι' G'.length ρ' σ'
def PostS (C : GC) (F : Hp) (ι : Nat → Addr) (n : Nat) (r : SRes) (D : Ends) : Prop :=
  match r with
  | .stuck => False
  | .exc e ρ' G' => ∀ cls d σ' H' F' ι', Ext F ι n F' ι' G'.length → Sim C F' H' ι' G' → REnv C.m F' ι' G'.length ρ' σ' → XR C F' H' e cls d → C.wx cls d σ' H'
  | .nx ρ' G' => ∀ σ' H', SOut C F ι n ρ' G' σ' H' → D.nx σ' H'
  | .bk ρ' G' => ∀ σ' H', SOut C F ι n ρ' G' σ' H' → D.bk σ' H'
  | .ct ρ' G' => ∀ σ' H', SOut C F ι n ρ' G' σ' H' → D.ct σ' H'
  | .ret w G' => ∀ v H', Out C F ι n w G' v H' → D.rt v H'
def gTS (C : GC) (g : GS) : TS := fun D σ H => ∃ F ι ρ G, Sim C F H ι G ∧ REnv C.m F ι G.length ρ σ ∧ PostS C F ι G.length (g ρ G) D
structure GJS (X : Cx) (st : Stmt) (g : GS) : Prop where
  run : ∀ B F0 wx, Takes X wx → PS X st (gTS (gc X B F0 wx) g)
structure GJSs (X : Cx) (st : List Stmt) (g : GS) : Prop where
  run : ∀ B F0 wx, Takes X wx → PSs X st (gTS (gc X B F0 wx) g)
section
variable {C : GC} {F F1 : Hp} {ι ι1 : Nat → Addr} {n n1 : Nat} {D D' : Ends}
theorem SOut.base {ρ' : GEnv} {G' : Hg} {σ' : L2.St} {H' : Hp} (e : Ext F ι n F1 ι1 n1) (h : SOut C F1 ι1 n1 ρ' G' σ' H') : SOut C F ι n ρ' G' σ' H' :=
  let ⟨F', ι', a, b, c⟩ := h; ⟨F', ι', e.trans a, b, c⟩
theorem PostS.base {r : SRes} (e : Ext F ι n F1 ι1 n1) (h : PostS C F ι n r D) : PostS C F1 ι1 n1 r D := by
  cases r with
  | stuck => exact h
  | exc x ρ' G' => exact fun cls d σ' H' F' ι' a b c q => h cls d σ' H' F' ι' (e.trans a) b c q
  | nx ρ' G' => exact fun σ' H' q => h σ' H' (q.base e)
  | bk ρ' G' => exact fun σ' H' q => h σ' H' (q.base e)
  | ct ρ' G' => exact fun σ' H' q => h σ' H' (q.base e)
  | ret w G' => exact fun v H' q => h v H' (q.base e)
end
/-- an expression's result goes into a statement -/
def Res.toS {α : Type} (ρ : GEnv) : Res α → (α → Hg → SRes) → SRes
  | .stuck, _ => .stuck
  | .exc e G, _ => .exc e ρ G
  | .ok a G, k => k a G
section
variable {C : GC} {F H : Hp} {ι : Nat → Addr} {n : Nat} {σ : L2.St} {ρ : GEnv} {D : Ends}
theorem PostS.fst {r : Res W} {k : W → Hg → SRes} (he : REnv C.m F ι n ρ σ) (h : PostS C F ι n (r.toS ρ k) D) :
    Post C F ι n σ r fun v H1 => ∃ F1 ι1 w G1, Ext F ι n F1 ι1 G1.length ∧ Sim C F1 H1 ι1 G1 ∧ RpW C.m F1 ι1 G1.length w v ∧ REnv C.m F1 ι1 G1.length ρ σ ∧ PostS C F1 ι1 G1.length (k w G1) D := by
  cases r with
  | stuck => exact h
  | exc x G' => exact fun cls d H' ⟨F', ι', a, b, c⟩ => h cls d σ H' F' ι' a b (he.mono a) c
  | ok w G' => exact fun v H' ⟨F1, ι1, e, s, rr⟩ => ⟨F1, ι1, w, G', e, s, rr, he.mono e, PostS.base e h⟩
theorem PostS.fstB {r : Res Bool} {k : Bool → Hg → SRes} (he : REnv C.m F ι n ρ σ) (h : PostS C F ι n (r.toS ρ k) D) :
    PostB C F ι n σ r fun v H1 => ∃ F1 ι1 G1, Ext F ι n F1 ι1 G1.length ∧ Sim C F1 H1 ι1 G1 ∧ REnv C.m F1 ι1 G1.length ρ σ ∧ PostS C F1 ι1 G1.length (k v G1) D := by
  cases r with
  | stuck => exact h
  | exc x G' => exact fun cls d H' ⟨F', ι', a, b, c⟩ => h cls d σ H' F' ι' a b (he.mono a) c
  | ok w G' =>
    rintro v H' ⟨rfl, F1, ι1, e, s⟩
    exact ⟨F1, ι1, G', e, s, he.mono e, PostS.base e h⟩
end

def gNil : GS := fun ρ G => .nx ρ G
def gSeq (a b : GS) : GS := fun ρ G => match a ρ G with
  | .nx ρ' G' => b ρ' G'
  | r => r
section
variable {X : Cx} {st : Stmt} {rest : List Stmt} {g u : GS} {e : Expr} {ge : GE} {pos : Pos}
theorem gss_nil : GJSs X [] gNil := ⟨fun B F0 wx _ => PSs.imp pss_nil fun D σ H ⟨F, ι, ρ, G, s, he, hp⟩ => hp σ H ⟨F, ι, .refl, s, he⟩⟩
theorem gss_cons (h1 : GJS X st g) (h2 : GJSs X rest u) : GJSs X (st :: rest) (gSeq g u) := ⟨fun B F0 wx tk => by
  refine PSs.imp (pss_cons (h1.run B F0 wx tk) (h2.run B F0 wx tk)) fun D σ H ⟨F, ι, ρ, G, s, he, hp⟩ => ⟨F, ι, ρ, G, s, he, ?_⟩
  unfold gSeq at hp
  cases q : g ρ G with
  | nx ρ' G' =>
    rw [q] at hp
    exact fun σ' H' ⟨F', ι', a, b, c⟩ => ⟨F', ι', ρ', G', b, c, PostS.base a hp⟩
  | stuck => rw [q] at hp; exact hp
  | exc x ρ' G' => rw [q] at hp; exact hp
  | bk ρ' G' => rw [q] at hp; exact hp
  | ct ρ' G' => rw [q] at hp; exact hp
  | ret w G' => rw [q] at hp; exact hp⟩
theorem gss_one (h1 : GJS X st g) : GJSs X [st] g := ⟨fun B F0 wx tk => pss_one (h1.run B F0 wx tk)⟩
def gBrk : GS := fun ρ G => .bk ρ G
def gCnt : GS := fun ρ G => .ct ρ G
theorem gs_pass : GJS X (.Pass pos) gNil := ⟨fun B F0 wx _ => PS.imp ps_pass fun D σ H ⟨F, ι, ρ, G, s, he, hp⟩ => hp σ H ⟨F, ι, .refl, s, he⟩⟩
theorem gs_break : GJS X (.Break pos) gBrk := ⟨fun B F0 wx _ => PS.imp ps_break fun D σ H ⟨F, ι, ρ, G, s, he, hp⟩ => hp σ H ⟨F, ι, .refl, s, he⟩⟩
theorem gs_cont : GJS X (.Continue pos) gCnt := ⟨fun B F0 wx _ => PS.imp ps_continue fun D σ H ⟨F, ι, ρ, G, s, he, hp⟩ => hp σ H ⟨F, ι, .refl, s, he⟩⟩
def gExpr (e : GE) : GS := fun ρ G => (e ρ G).toS ρ fun _ G' => .nx ρ G'
theorem gs_expr (he : GJE X e ge) (hs : swapsWith e none pos.line X.env = pure false := by rfl) : GJS X (.Expr e pos) (gExpr ge) := ⟨fun B F0 wx tk => by
  refine PS.imp (ps_expr (he.run B F0 wx tk) hs) fun D σ H ⟨F, ι, ρ, G, s, he, hp⟩ => ?_
  exact ⟨F, ι, ρ, G, s, he, (PostS.fst he hp).imp fun v H1 ⟨F1, ι1, w, G1, e1, s1, r1, he1, p1⟩ => p1 σ H1 ⟨F1, ι1, .refl, s1, he1⟩⟩⟩
def gRet (e : GE) : GS := fun ρ G => (e ρ G).toS ρ fun w G' => .ret w G'
theorem gs_ret (he : GJE X e ge) : GJS X (.Return (some e) pos) (gRet ge) := ⟨fun B F0 wx tk => by
  refine PS.imp (ps_ret (he.run B F0 wx tk)) fun D σ H ⟨F, ι, ρ, G, s, he, hp⟩ => ?_
  exact ⟨F, ι, ρ, G, s, he, (PostS.fst he hp).imp fun v H1 ⟨F1, ι1, w, G1, e1, s1, r1, he1, p1⟩ => p1 v H1 ⟨F1, ι1, .refl, s1, r1⟩⟩⟩
def gRetN : GS := fun _ G => .ret (.d .non) G
theorem gs_retN : GJS X (.Return none pos) gRetN := ⟨fun B F0 wx tk => by
  refine PS.imp ps_retN fun D σ H ⟨F, ι, ρ, G, s, he, hp⟩ => ?_
  exact hp _ _ (out_flat s rpN)⟩
def gIf (c : GT) (a b : GS) : GS := fun ρ G => (c ρ G).toS ρ fun k G' => if k then a ρ G' else b ρ G'
theorem gs_if {c : Expr} {a b : List Stmt} {tc : GT} {ga gb : GS} (hc : GJT X c tc) (ha : GJSs X a ga) (hb : GJSs X b gb) : GJS X (.If c a b pos) (gIf tc ga gb) := ⟨fun B F0 wx tk => by
  refine PS.imp (ps_if (hc.run B F0 wx tk) (ha.run B F0 wx tk) (hb.run B F0 wx tk)) fun D σ H ⟨F, ι, ρ, G, s, he, hp⟩ => ?_
  refine ⟨F, ι, ρ, G, s, he, (PostS.fstB he hp).imp fun k H1 ⟨F1, ι1, G1, e1, s1, he1, p1⟩ => ?_⟩
  cases k with
  | true => exact ⟨F1, ι1, ρ, G1, s1, he1, p1⟩
  | false => exact ⟨F1, ι1, ρ, G1, s1, he1, p1⟩⟩
end

/-! ### targets -/
abbrev GTg := W → GEnv → Hg → Option (GEnv × Hg)
/-- own: the only slots that are stored to -/
def gTG (C : GC) (own : List Nat) (t : GTg) : TG := fun v σ H Q => ∃ F ι ρ G w, Sim C F H ι G ∧ REnv C.m F ι G.length ρ σ ∧ RpW C.m F ι G.length w v ∧ match t w ρ G with
  | none => False
  | some (ρ', G') => ∀ σ' H', SOut C F ι G.length ρ' G' σ' H' → wipe σ' own = wipe σ own → Q σ' H'
structure GJG (X : Cx) (tg : Expr) (own : List Nat) (t : GTg) : Prop where
  run : ∀ B F0 wx, Takes X wx → PG X tg (gTG (gc X B F0 wx) own t)
theorem PG.imp {X : Cx} {e : Expr} {t t' : TG} (h : PG X e t) (k : ∀ v σ H Q, t' v σ H Q → t v σ H Q) : PG X e t' := ⟨fun pins s σ H v u Q I r q => h.run pins s σ H v u Q I r (k _ _ _ _ q)⟩
theorem PGs.imp {X : Cx} {e : List Expr} {t t' : TGs} (h : PGs X e t) (k : ∀ v σ H Q, t' v σ H Q → t v σ H Q) : PGs X e t' := ⟨fun pins s σ H v u Q I r q => h.run pins s σ H v u Q I r (k _ _ _ _ q)⟩
def gNm (i : Nat) : GTg := fun w ρ G => some (ρ.set i (some w), G)
theorem wipe_set {own : List Nat} {i : Nat} (h : i ∈ own) (x : Option V) : ∀ σ : L2.St, wipe (σ.set i x) own = wipe σ own := by
  induction own with
  | nil => cases h
  | cons j r ih =>
    intro σ
    unfold wipe
    by_cases hm : i ∈ r
    · rw [ih hm]
    · have e : i = j := by
        rcases List.mem_cons.mp h with z | z
        · exact z
        · exact absurd z hm
      subst e
      have comm : ∀ (r : List Nat), i ∉ r → ∀ (σ : L2.St), wipe (σ.set i x) r = (wipe σ r).set i x := by
        intro r
        induction r with
        | nil => intro _ σ; rfl
        | cons k r' ih' =>
          intro hk σ
          unfold wipe
          rw [ih' (fun z => hk (List.mem_cons_of_mem _ z)) σ, List.set_comm _ _ (fun z => hk (by rw [z]; exact List.mem_cons_self))]
      rw [comm r hm, List.set_set]
section
variable {X : Cx} {pos : Pos}
theorem gg_name (i : Nat) {own : List Nat} {x : Str} (hN : X.N.Nodup) (hi : X.N[i]? = some x := by rfl) (hx : Loc X.env.scope x := by first | exact Or.inl rfl | exact Or.inr rfl) (ho : i ∈ own := by decide) (hf : X.fn x = true ∨ X.env.scope.names.lookup x = some .local := by first | exact .inl rfl | exact .inr rfl) :
    GJG X (.Name x pos) own (gNm i) := ⟨fun B F0 wx _ => PG.imp (pg_name hN hi hx hf) fun v σ H Q ⟨F, ι, ρ, G, w, s, he, r, h⟩ => h _ H ⟨F, ι, .refl, s, he.set i r⟩ (wipe_set ho _ σ)⟩
def gTgs : List GTg → List W → GEnv → Hg → Option (GEnv × Hg)
  | [], [], ρ, G => some (ρ, G)
  | t :: ts, w :: ws, ρ, G => match t w ρ G with
    | some (ρ', G') => gTgs ts ws ρ' G'
    | none => none
  | _, _, _, _ => none
def gTGs (C : GC) (own : List Nat) (ts : List GTg) : TGs := fun vs σ H Q => ∃ F ι ρ G ws, Sim C F H ι G ∧ REnv C.m F ι G.length ρ σ ∧ RpWL C.m F ι G.length ws vs ∧ match gTgs ts ws ρ G with
  | none => False
  | some (ρ', G') => ∀ σ' H', SOut C F ι G.length ρ' G' σ' H' → wipe σ' own = wipe σ own → Q σ' H'
structure GJGs (X : Cx) (tg : List Expr) (own : List Nat) (t : List GTg) : Prop where
  run : ∀ B F0 wx, Takes X wx → PGs X tg (gTGs (gc X B F0 wx) own t)
theorem ggs_nil {own : List Nat} : GJGs X [] own [] := ⟨fun B F0 wx _ => PGs.imp pgs_nil fun vs σ H Q ⟨F, ι, ρ, G, ws, s, he, r, h⟩ => by
  cases ws with
  | nil =>
    simp only [RpWL] at r
    exact ⟨r, h σ H ⟨F, ι, .refl, s, he⟩ rfl⟩
  | cons w ws => exact h.elim⟩
theorem ggs_cons {own : List Nat} {t : Expr} {ts : List Expr} {g : GTg} {gs : List GTg} (h1 : GJG X t own g) (h2 : GJGs X ts own gs) (hs : (assignEach (t :: ts) X.env).map (·.2) = assign t X.env :: (assignEach ts X.env).map (·.2) := by rfl) : GJGs X (t :: ts) own (g :: gs) := ⟨fun B F0 wx tk => by
  refine PGs.imp (pgs_cons (h1.run B F0 wx tk) (h2.run B F0 wx tk) hs) fun vs σ H Q ⟨F, ι, ρ, G, ws, s, he, r, h⟩ => ?_
  cases ws with
  | nil => exact h.elim
  | cons w ws =>
    simp only [RpWL] at r
    obtain ⟨x, xs, rfl, r1, r2⟩ := r
    refine ⟨x, xs, rfl, F, ι, ρ, G, w, s, he, r1, ?_⟩
    simp only [gTgs] at h
    cases q : g w ρ G with
    | none => rw [q] at h; exact h.elim
    | some o =>
      obtain ⟨ρ1, G1⟩ := o
      rw [q] at h
      rintro σ1 H1 ⟨F1, ι1, e1, s1, he1⟩ k1
      refine ⟨F1, ι1, ρ1, G1, ws, s1, he1, r2.mono e1, ?_⟩
      simp only at h
      cases q2 : gTgs gs ws ρ1 G1 with
      | none => rw [q2] at h; exact h.elim
      | some o2 =>
        rw [q2] at h
        rintro σ2 H2 ⟨F2, ι2, e2, s2, he2⟩ k2
        exact h σ2 H2 ⟨F2, ι2, e1.trans e2, s2, he2⟩ (k2.trans k1)⟩
def gTp (ts : List GTg) : GTg := fun w ρ G => match seqW w G with
  | some (false, ws) => gTgs ts ws ρ G
  | _ => none
theorem gTgs_len : ∀ {ts : List GTg} {ws : List W} {ρ ρ' : GEnv} {G G' : Hg}, gTgs ts ws ρ G = some (ρ', G') → ws.length = ts.length
  | [], [], _, _, _, _, _ => rfl
  | [], _ :: _, _, _, _, _, h => by cases h
  | _ :: _, [], _, _, _, _, h => by cases h
  | t :: ts, w :: ws, ρ, ρ', G, G', h => by
    simp only [gTgs] at h
    cases q : t w ρ G with
    | none => rw [q] at h; cases h
    | some o => rw [q] at h; simp [gTgs_len h]
theorem gg_tup {own : List Nat} {es : List Expr} {k : Nat} {gs : List GTg} (hc : X.calm = true) (h : GJGs X es own gs)
    (hn : (assignEach es X.env).length = gs.length := by rfl) (hst : (assignEach es X.env).findIdx? (·.1) = none := by rfl) : GJG X (.Tuple es k pos) own (gTp gs) := ⟨fun B F0 wx tk => by
  refine PG.imp (pg_tup hc (h.run B F0 wx tk) hn hst) fun v σ H Q ⟨F, ι, ρ, G, w, s, he, r, hh⟩ => ?_
  unfold gTp at hh
  cases q : seqW w G with
  | none => rw [q] at hh; exact hh.elim
  | some o =>
    obtain ⟨b, ws⟩ := o
    cases b with
    | true => rw [q] at hh; exact hh.elim
    | false =>
      rw [q] at hh
      simp only at hh
      obtain ⟨a, xs, rfl, h1, h2⟩ := s.seq q r
      rw [if_neg Bool.false_ne_true] at h1
      refine ⟨a, xs, rfl, h1, ?_, F, ι, ρ, G, ws, s, he, h2, hh⟩
      rw [← h2.length]
      cases q2 : gTgs gs ws ρ G with
      | none => rw [q2] at hh; exact hh.elim
      | some o => obtain ⟨_, _⟩ := o; exact gTgs_len q2⟩
def gAsg (e : GE) (t : GTg) : GS := fun ρ G => (e ρ G).toS ρ fun w G' => match t w ρ G' with
  | none => .stuck
  | some (ρ', G2) => .nx ρ' G2
theorem gs_asg {tg e : Expr} {ge : GE} {own : List Nat} {t : GTg} (he : GJE X e ge) (hg : GJG X tg own t) (hs : swapsWithSole [tg] e pos.line X.env = pure false := by rfl) (hw : swappedStores [tg] e X.env = pure none := by rfl)
    (h1 : (assignEach [tg] X.env).map (·.2) = [assign tg X.env] := by rfl) : GJS X (.Assign [tg] e pos) (gAsg ge t) := ⟨fun B F0 wx tk => by
  refine PS.imp (ps_asg (he.run B F0 wx tk) (hg.run B F0 wx tk) hs hw h1) fun D σ H ⟨F, ι, ρ, G, s, he, hp⟩ => ?_
  refine ⟨F, ι, ρ, G, s, he, (PostS.fst he hp).imp fun v H1 ⟨F1, ι1, w, G1, e1, s1, r1, he1, p1⟩ => ⟨F1, ι1, ρ, G1, w, s1, he1, r1, ?_⟩⟩
  cases q : t w ρ G1 with
  | none => rw [q] at p1; exact p1.elim
  | some o =>
    obtain ⟨ρ', G2⟩ := o
    rw [q] at p1
    exact fun σ' H' h _ => p1 σ' H' h⟩
/-- a name's plain store -/
theorem gs_set {i : Nat} {x : Str} {e : Expr} {ge : GE} {pos' : Pos} (hN : X.N.Nodup) (he : GJE X e ge) (hi : X.N[i]? = some x := by rfl) (hx : Loc X.env.scope x := by first | exact Or.inl rfl | exact Or.inr rfl) (hs : swapsWith e (some (.Name x pos')) pos.line X.env = pure false := by rfl)
    (hf : X.fn x = true ∨ X.env.scope.names.lookup x = some .local := by first | exact .inl rfl | exact .inr rfl) : GJS X (.Assign [.Name x pos'] e pos) (gAsg ge (gNm i)) := ⟨fun B F0 wx tk => by
  refine PS.imp (ps_set hN hi hx (he.run B F0 wx tk) hs hf) fun D σ H ⟨F, ι, ρ, G, s, he, hp⟩ => ?_
  refine ⟨F, ι, ρ, G, s, he, (PostS.fst he hp).imp fun v H1 ⟨F1, ι1, w, G1, e1, s1, r1, he1, p1⟩ => ?_⟩
  exact p1 _ H1 ⟨F1, ι1, .refl, s1, he1.set i r1⟩⟩
/-- o[i] = v -/
def gSb (o i : GE) (f : W → W → W → Hg → Option Hg) : GTg := fun v ρ G => match o ρ G with
  | .ok wo G1 => match i ρ G1 with
    | .ok wi G2 => (f wo wi v G2).map fun G3 => (ρ, G3)
    | _ => none
  | _ => none
def SetG (X : Cx) (t : TSet) (f : W → W → W → Hg → Option Hg) : Prop := ∀ (C : GC) (F H : Hp) (ι : Nat → Addr) (G : Hg) (wo wi wv : W) (o i v : V) (G' : Hg) (Q : Hp → Prop), C.m = md X → Sim C F H ι G → RpW C.m F ι G.length wo o → RpW C.m F ι G.length wi i → RpW C.m F ι G.length wv v →
  f wo wi wv G = some G' → (∀ H', (∃ F' ι', Ext F ι G.length F' ι' G'.length ∧ Sim C F' H' ι' G') → Q H') → t o i v H Q
theorem gg_sub {o i : Expr} {own : List Nat} {go gi : GE} {t : TSet} {f : W → W → W → Hg → Option Hg} (hs : PSet X t) (hf : SetG X t f) (ho : GJE X o go) (hi : GJE X i gi)
    (ha : ∀ v, assign (.Subscript o i pos) X.env v = (do
      let ov ← holding [v] (eval o X.env)
      let iv ← holding [v, ov] (eval i X.env)
      standAt pos
      holding [v, ov, iv] (setItem ov iv v)
      release [v, ov, iv] []) := by intro _; rfl) : GJG X (.Subscript o i pos) own (gSb go gi f) := ⟨fun B F0 wx tk => by
  refine PG.imp (pg_sub (ho.run B F0 wx tk) (hi.run B F0 wx tk) hs ha) fun v σ H Q ⟨F, ι, ρ, G, w, s, he, r, hh⟩ => ?_
  unfold gSb at hh
  refine ⟨F, ι, ρ, G, s, he, ?_⟩
  cases q : go ρ G with
  | stuck => rw [q] at hh; exact hh.elim
  | exc e G' => rw [q] at hh; exact hh.elim
  | ok wo G1 =>
    rw [q] at hh
    rintro vo H1 ⟨F1, ι1, e1, s1, r1⟩
    refine ⟨F1, ι1, ρ, G1, s1, he.mono e1, ?_⟩
    simp only at hh
    cases q2 : gi ρ G1 with
    | stuck => rw [q2] at hh; exact hh.elim
    | exc e G' => rw [q2] at hh; exact hh.elim
    | ok wi G2 =>
      rw [q2] at hh
      rintro vi H2 ⟨F2, ι2, e2, s2, r2⟩
      simp only at hh
      cases q3 : f wo wi w G2 with
      | none => rw [q3] at hh; exact hh.elim
      | some G3 =>
        rw [q3] at hh
        refine hf _ F2 H2 ι2 G2 wo wi w vo vi v G3 _ rfl s2 (r1.mono e2) r2 (r.mono (e1.trans e2)) q3 fun H3 ⟨F3, ι3, e3, s3⟩ => ?_
        have ee := (e1.trans e2).trans e3
        exact hh σ H3 ⟨F3, ι3, ee, s3, he.mono ee⟩ rfl⟩
end

/-! ### loops -/
/-- an iterable: its items, and what must stay of the ghost objects while it is walked -/
abbrev GI := GEnv → Hg → Res (List W × (Hg → Bool))
/-- J walks ws while ck holds -/
def ItG (M : Md) (J : It) (F : Hp) (ι : Nat → Addr) (n : Nat) (ws : List W) (ck : Hg → Bool) : Prop :=
  ∀ (C : GC) (F2 H2 : Hp) (ι2 : Nat → Addr) (G2 : Hg), C.m = M → Ext F ι n F2 ι2 G2.length → Sim C F2 H2 ι2 G2 → ck G2 = true →
    (∀ (i : Nat) (w : W), ws[i]? = some w → J.go i H2 ∧ ∀ x H3, J.yld i H2 x H3 → ∃ F3, Ext F2 ι2 G2.length F3 ι2 G2.length ∧ Sim C F3 H3 ι2 G2 ∧ RpW M F3 ι2 G2.length w x) ∧ J.stop ws.length H2
def PostI (C : GC) (F : Hp) (ι : Nat → Addr) (n : Nat) (σ : L2.St) (r : Res (List W × (Hg → Bool))) (R : It → Hp → Prop) : Prop :=
  match r with
  | .stuck => False
  | .exc e G' => ∀ cls d H', XOut C F ι n e G' cls d H' → C.wx cls d σ H'
  | .ok (ws, ck) G' => ∀ J H' F' ι', Ext F ι n F' ι' G'.length → Sim C F' H' ι' G' → ItG C.m J F' ι' G'.length ws ck → R J H'
def gTI (C : GC) (g : GI) : TI := fun σ H R => ∃ F ι ρ G, Sim C F H ι G ∧ REnv C.m F ι G.length ρ σ ∧ PostI C F ι G.length σ (g ρ G) R
structure GJI (X : Cx) (tg iter : Expr) (g : GI) : Prop where
  run : ∀ B F0 wx, Takes X wx → PI X tg iter (gTI (gc X B F0 wx) g)
def forL (t : GTg) (body : GS) (ck : Hg → Bool) : List W → GS
  | [], ρ, G => if ck G then .nx ρ G else .stuck
  | w :: ws, ρ, G => if ck G then (match t w ρ G with
    | none => .stuck
    | some (ρ', G') => match body ρ' G' with
      | .nx ρ2 G2 => forL t body ck ws ρ2 G2
      | .ct ρ2 G2 => forL t body ck ws ρ2 G2
      | .bk ρ2 G2 => .nx ρ2 G2
      | r => r) else .stuck
def gFor (it : GI) (t : GTg) (body : GS) : GS := fun ρ G => (it ρ G).toS ρ fun p G' => forL t body p.2 p.1 ρ G'
section
variable {X : Cx} {pos : Pos}
theorem gs_for {tg iter : Expr} {body : List Stmt} {own : List Nat} {gi : GI} {t : GTg} {gb : GS} (hp : PassesOwn (model X.prog X.w) X.A X.env X.xe) (hc : X.calm = true) (hi : GJI X tg iter gi) (hg : GJG X tg own t) (hb : GJSs X body gb)
    (hs : ∀ x, foldedSetIterable iter X.env x = pure x := by intro _; rfl) : GJS X (.For tg iter body [] pos) (gFor gi t gb) := ⟨fun B F0 wx tk => by
  refine PS.imp (ps_for hp hc (hi.run B F0 wx tk) (hg.run B F0 wx tk) (hb.run B F0 wx tk) hs) fun D σ H ⟨F, ι, ρ, G, s, he, hh⟩ => ?_
  refine ⟨F, ι, ρ, G, s, he, ?_⟩
  unfold gFor at hh
  cases q : gi ρ G with
  | stuck => rw [q] at hh; exact hh
  | exc e G' => rw [q] at hh; exact fun cls d H' ⟨F', ι', a, b, c⟩ => hh cls d σ H' F' ι' a b (he.mono a) c
  | ok p G1 =>
    obtain ⟨ws, ck⟩ := p
    rw [q] at hh
    intro J H1 F1 ι1 e1 s1 it
    refine ⟨fun i m σ H => m = ws.length - i ∧ i ≤ ws.length ∧ ∃ F2 ι2 ρ2 G2, Ext F1 ι1 G1.length F2 ι2 G2.length ∧ Sim (gc X B F0 wx) F2 H ι2 G2 ∧ REnv (md X) F2 ι2 G2.length ρ2 σ ∧ PostS (gc X B F0 wx) F2 ι2 G2.length (forL t gb ck (ws.drop i) ρ2 G2) D,
      ⟨ws.length, by simp, Nat.zero_le _, F1, ι1, ρ, G1, .refl, s1, he.mono e1, PostS.base e1 hh⟩, ?_⟩
    rintro i m σ2 H2 ⟨rfl, hi, F2, ι2, ρ2, G2, e2, s2, he2, p2⟩
    rcases Nat.lt_or_ge i ws.length with hlt | hge
    · have hd : ws.drop i = ws[i] :: ws.drop (i + 1) := by rw [List.drop_eq_getElem_cons hlt]
      rw [hd] at p2
      simp only [forL] at p2
      cases c : ck G2 with
      | false => rw [c] at p2; exact p2.elim
      | true =>
        rw [c, if_pos rfl] at p2
        obtain ⟨it1, it2⟩ := it _ F2 H2 ι2 G2 rfl e2 s2 c
        obtain ⟨go, yl⟩ := it1 i ws[i] (List.getElem?_eq_getElem hlt)
        refine .inr ⟨go, fun σ' H' => ∃ F3 ι3 ρ3 G3, Ext F1 ι1 G1.length F3 ι3 G3.length ∧ Sim (gc X B F0 wx) F3 H' ι3 G3 ∧ REnv (md X) F3 ι3 G3.length ρ3 σ' ∧ PostS (gc X B F0 wx) F3 ι3 G3.length (forL t gb ck (ws.drop (i + 1)) ρ3 G3) D,
          fun σ' H' h => ⟨_, by omega, rfl, hlt, h⟩, fun x H3 y => ?_⟩
        obtain ⟨F3, e3, s3, r3⟩ := yl x H3 y
        have p3 := PostS.base e3 p2
        refine ⟨F3, ι2, ρ2, G2, ws[i], s3, he2.mono e3, r3, ?_⟩
        cases qt : t ws[i] ρ2 G2 with
        | none => rw [qt] at p3; exact p3.elim
        | some o =>
          obtain ⟨ρ4, G4⟩ := o
          rw [qt] at p3
          rintro σ4 H4 ⟨F4, ι4, e4, s4, he4⟩ _
          have p4 := PostS.base e4 p3
          refine ⟨F4, ι4, ρ4, G4, s4, he4, ?_⟩
          simp only at p4
          have e14 : Ext F1 ι1 G1.length F4 ι4 G4.length := (e2.trans e3).trans e4
          cases qb : gb ρ4 G4 with
          | stuck => rw [qb] at p4; exact p4
          | exc x ρ' G' => rw [qb] at p4; exact p4
          | nx ρ' G' =>
            rw [qb] at p4
            exact fun σ5 H5 ⟨F5, ι5, e5, s5, he5⟩ => ⟨F5, ι5, ρ', G', e14.trans e5, s5, he5, PostS.base e5 p4⟩
          | ct ρ' G' =>
            rw [qb] at p4
            exact fun σ5 H5 ⟨F5, ι5, e5, s5, he5⟩ => ⟨F5, ι5, ρ', G', e14.trans e5, s5, he5, PostS.base e5 p4⟩
          | bk ρ' G' =>
            rw [qb] at p4
            exact p4
          | ret w G' => rw [qb] at p4; exact p4
    · have e : i = ws.length := by omega
      subst e
      rw [List.drop_length] at p2
      simp only [forL] at p2
      cases c : ck G2 with
      | false => rw [c] at p2; exact p2.elim
      | true =>
        rw [c, if_pos rfl] at p2
        obtain ⟨_, it2⟩ := it _ F2 H2 ι2 G2 rfl e2 s2 c
        exact .inl ⟨it2, p2 σ2 H2 ⟨F2, ι2, .refl, s2, he2⟩⟩⟩
def whileN (c : GT) (body : GS) : Nat → GS
  | 0, _, _ => .stuck
  | k + 1, ρ, G => (c ρ G).toS ρ fun b G' => if b then (match body ρ G' with
    | .nx ρ2 G2 => whileN c body k ρ2 G2
    | .ct ρ2 G2 => whileN c body k ρ2 G2
    | .bk ρ2 G2 => .nx ρ2 G2
    | r => r) else .nx ρ G'
theorem gs_while (k : Nat) {c : Expr} {body : List Stmt} {tc : GT} {gb : GS} (hp : PassesOwn (model X.prog X.w) X.A X.env X.xe) (hc : GJT X c tc) (hb : GJSs X body gb) : GJS X (.While c body [] pos) (whileN tc gb k) := ⟨fun B F0 wx tk => by
  refine PS.imp (ps_while hp (hc.run B F0 wx tk) (hb.run B F0 wx tk)) fun D σ H ⟨F, ι, ρ, G, s, he, hh⟩ => ?_
  refine ⟨fun m σ H => ∃ F ι ρ G, Sim (gc X B F0 wx) F H ι G ∧ REnv (md X) F ι G.length ρ σ ∧ PostS (gc X B F0 wx) F ι G.length (whileN tc gb m ρ G) D, ⟨k, F, ι, ρ, G, s, he, hh⟩, ?_⟩
  rintro m σ H ⟨F, ι, ρ, G, s, he, hh⟩
  cases m with
  | zero => exact hh.elim
  | succ m =>
    simp only [whileN] at hh
    refine ⟨F, ι, ρ, G, s, he, (PostS.fstB he hh).imp fun b H1 ⟨F1, ι1, G1, e1, s1, he1, p1⟩ => ?_⟩
    cases b with
    | false => exact p1 σ H1 ⟨F1, ι1, .refl, s1, he1⟩
    | true =>
      refine ⟨fun σ' H' => ∃ F ι ρ G, Sim (gc X B F0 wx) F H' ι G ∧ REnv (md X) F ι G.length ρ σ' ∧ PostS (gc X B F0 wx) F ι G.length (whileN tc gb m ρ G) D, fun σ' H' h => ⟨m, Nat.lt_succ_self m, h⟩, F1, ι1, ρ, G1, s1, he1, ?_⟩
      rw [if_pos rfl] at p1
      cases qb : gb ρ G1 with
      | stuck => rw [qb] at p1; exact p1
      | exc x ρ' G' => rw [qb] at p1; exact p1
      | nx ρ' G' =>
        rw [qb] at p1
        exact fun σ5 H5 ⟨F5, ι5, e5, s5, he5⟩ => ⟨F5, ι5, ρ', G', s5, he5, PostS.base e5 p1⟩
      | ct ρ' G' =>
        rw [qb] at p1
        exact fun σ5 H5 ⟨F5, ι5, e5, s5, he5⟩ => ⟨F5, ι5, ρ', G', s5, he5, PostS.base e5 p1⟩
      | bk ρ' G' => rw [qb] at p1; exact p1
      | ret w G' => rw [qb] at p1; exact p1⟩
end
end Gh

set_option Elab.async false
set_option linter.all false
set_option maxRecDepth 100000
set_option maxHeartbeats 4000000
namespace Gh
open PySem PySem.Spec PyProof.Rows L2

/-! ### + of ints, texts, lists, tuples -/
section
variable {X : Cx}
/-- list + list, any two that are read -/
def rCatLA (K : PySem.W.Frag) : R2 := fun x y H Q => ∃ l b xs zs, x = .ref l ∧ y = .ref b ∧ SqL K H l xs ∧ SqL K H b zs ∧ xs.length + zs.length ≤ sizeLine ∧ ∀ p, H p = none → Q (.ref p) (upd H p (.lst (xs ++ zs)))
theorem op_catLA : OpR X (binaryOp .Add) (rCatLA X.K) := by
  intro pins s σ H x y v u Q I rx ry h
  obtain ⟨l, b, xs, zs, rfl, rfl, hH, hB, hz, q⟩ := h
  cases rx
  cases ry
  obtain ⟨its, r, ⟨⟨cls, dd, data, sl⟩, n, ho, hc, _, hd⟩, hl⟩ := I.list hH
  obtain ⟨its2, r2, ⟨⟨cls2, dd2, data2, sl2⟩, n2, ho2, hc2, _, hd2⟩, hl2⟩ := I.list hB
  simp only at hc hd hc2 hd2
  subst hc hd hc2 hd2
  have h1 := r.length
  have h2 := r2.length
  refine concat_meets ⟨_, ho, rfl⟩ ⟨_, ho2, rfl⟩ noFill_list_add seq_list_add PySem.F.slot_list_add PySem.F.entry_list_add (PySem.F.args_list_add_2 _ _) (list_addW l b its.toArray its2.toArray n n2 dd dd2 sl sl2 (by rw [List.size_toArray, List.size_toArray]; omega)) ⟨ho, ho2, ?_⟩
  have ea : its.toArray ++ its2.toArray = (its ++ its2).toArray := by simp
  rw [ea]
  exact ⟨.ref _, _, I.lnew (t' := s.toks) (r.append r2) (by rw [List.length_append]; omega), rfl, q _ I.fresh⟩
def rAddA (K : PySem.W.Frag) : R2 := fun x y H Q => (rI0 (fun i j => .int (i + j))) x y H Q ∨ (∃ i j, x = .str i ∧ y = .str j ∧ i.length + j.length ≤ sizeLine ∧ Q (.str (i ++ j)) H) ∨ rCatLA K x y H Q ∨ rCatA K x y H Q
theorem op_addA : OpR X (binaryOp .Add) (rAddA X.K) := by
  intro pins s σ H x y v u Q I rx ry h
  rcases h with h | h | h | h
  · exact op_add pins s σ H x y v u Q I rx ry h
  · exact op_add_str pins s σ H x y v u Q I rx ry h
  · exact op_catLA pins s σ H x y v u Q I rx ry h
  · exact op_catA pins s σ H x y v u Q I rx ry h
/-- a list's result: a tree -/
def mkLst (ws : List W) : Option W := (allD ws).map fun ds => .d (.lst ds)
def fAddS (w u : W) (G : Hg) : Option (W × Hg) := match seqW w G, seqW u G with
  | some (true, ws), some (true, us) => if small (ws.length + us.length) then (mkLst (ws ++ us)).map fun z => (z, G) else none
  | some (false, ws), some (false, us) => if small (ws.length + us.length) then (if ws.isEmpty then some (u, G) else if us.isEmpty then some (w, G) else some (mkTup (ws ++ us), G)) else none
  | _, _ => none
def fAdd : W → W → Hg → Option (W × Hg)
  | .d (.int i), .d (.int j), G => some (.d (.int (i + j)), G)
  | .d (.str i), .d (.str j), G => if small (i.length + j.length) then some (.d (.str (i ++ j)), G) else none
  | w, u, G => fAddS w u G
theorem isEmpty_nil {α : Type} {l : List α} (h : l.isEmpty = true) : l = [] := List.isEmpty_iff.mp h
theorem RpWL.nilV {M : Md} {F : Hp} {ι : Nat → Addr} {n : Nat} {ws : List W} {xs : List V} (r : RpWL M F ι n ws xs) : xs = [] ↔ ws.isEmpty = true := by
  have := r.length
  cases ws with
  | nil => simp only [RpWL] at r; simp [r]
  | cons w ws => cases xs with
    | nil => simp at this
    | cons => simp
theorem og_addS (C : GC) (F H : Hp) (ι : Nat → Addr) (G : Hg) (w u : W) (x y : V) (z : W) (G' : Hg) (Q : VK) (hK : C.m = md X) (s : Sim C F H ι G) (rw_ : RpW C.m F ι G.length w x) (ru : RpW C.m F ι G.length u y)
    (e : fAddS w u G = some (z, G')) (hQ : ∀ v H', Out C F ι G.length z G' v H' → Q v H') : rAddA X.K x y H Q := by
  have hKK : C.m.K = X.K := by rw [hK]
  unfold fAddS at e
  cases q : seqW w G with
  | none => rw [q] at e; cases e
  | some o =>
    obtain ⟨b, ws⟩ := o
    cases q2 : seqW u G with
    | none => rw [q, q2] at e; cases b <;> cases e
    | some o2 =>
      obtain ⟨b2, us⟩ := o2
      rw [q, q2] at e
      obtain ⟨a, xs, rfl, h1, h2⟩ := s.seq q rw_
      obtain ⟨a2, ys, rfl, h3, h4⟩ := s.seq q2 ru
      rw [hKK] at h1 h3
      cases b with
      | true =>
        cases b2 with
        | false => cases e
        | true =>
          simp only at e
          rw [if_pos rfl] at h1 h3
          cases c : small (ws.length + us.length) with
          | false => rw [c] at e; cases e
          | true =>
            rw [c, if_pos rfl] at e
            unfold mkLst at e
            cases k : allD (ws ++ us) with
            | none => rw [k] at e; cases e
            | some ds =>
              rw [k] at e
              cases e
              refine .inr (.inr (.inl ⟨a, a2, xs, ys, rfl, rfl, h1, h3, by rw [← h2.length, ← h4.length]; exact small_le c, fun p hp => hQ _ _ (out_lst s (allD_rp k (h2.append h4)) hp)⟩))
      | false =>
        cases b2 with
        | true => cases e
        | false =>
          simp only at e
          rw [if_neg Bool.false_ne_true] at h1 h3
          cases c : small (ws.length + us.length) with
          | false => rw [c] at e; cases e
          | true =>
            rw [c, if_pos rfl] at e
            refine .inr (.inr (.inr ⟨a, a2, xs, ys, rfl, rfl, h1, h3, by rw [← h2.length, ← h4.length]; exact small_le c, fun hx => ?_, fun hx hy => ?_, fun hx hy p hp => ?_⟩))
            · rw [if_pos (h2.nilV.mp hx)] at e
              cases e
              exact hQ _ _ (out_w s ru)
            · rw [if_neg (fun k => hx (h2.nilV.mpr k)), if_pos (h4.nilV.mp hy)] at e
              cases e
              exact hQ _ _ (out_w s rw_)
            · rw [if_neg (fun k => hx (h2.nilV.mpr k)), if_neg (fun k => hy (h4.nilV.mpr k))] at e
              cases e
              exact hQ _ _ (out_tup s (h2.append h4) hp)
theorem og_add : OpG X (rAddA X.K) fAdd := by
  intro C F H ι G w u x y z G' Q hK s rw_ ru e hQ
  have gen : fAddS w u G = some (z, G') → rAddA X.K x y H Q := fun e => og_addS C F H ι G w u x y z G' Q hK s rw_ ru e hQ
  cases w with
  | d a =>
    cases a with
    | int i =>
      cases u with
      | d b =>
        cases b with
        | int j =>
          simp only [fAdd] at e
          cases e
          simp only [RpW, Rp] at rw_ ru
          subst rw_ ru
          exact .inl ⟨i, j, rfl, rfl, hQ _ _ (out_flat s rpI)⟩
        | _ => exact gen e
      | _ => exact gen e
    | str i =>
      cases u with
      | d b =>
        cases b with
        | str j =>
          simp only [fAdd] at e
          cases c : small (i.length + j.length) with
          | false => rw [c] at e; cases e
          | true =>
            rw [c, if_pos rfl] at e
            cases e
            simp only [RpW, Rp] at rw_ ru
            subst rw_ ru
            exact .inr (.inl ⟨i, j, rfl, rfl, small_le c, hQ _ _ (out_flat s rpS)⟩)
        | _ => exact gen e
      | _ => exact gen e
    | _ => exact gen e
  | _ => exact gen e
/-- list + list, as a new list that may be changed -/
def fAddN (w u : W) (G : Hg) : Option (W × Hg) := match seqW w G, seqW u G with
  | some (true, ws), some (true, us) => if small (ws.length + us.length) then some (.ref G.length, G ++ [.lst (ws ++ us)]) else none
  | _, _ => none
theorem og_addN : OpG X (rAddA X.K) fAddN := by
  intro C F H ι G w u x y z G' Q hK s rw_ ru e hQ
  have hKK : C.m.K = X.K := by rw [hK]
  unfold fAddN at e
  cases q : seqW w G with
  | none => rw [q] at e; cases e
  | some o =>
    obtain ⟨b, ws⟩ := o
    cases q2 : seqW u G with
    | none => rw [q, q2] at e; cases b <;> cases e
    | some o2 =>
      obtain ⟨b2, us⟩ := o2
      rw [q, q2] at e
      obtain ⟨a, xs, rfl, h1, h2⟩ := s.seq q rw_
      obtain ⟨a2, ys, rfl, h3, h4⟩ := s.seq q2 ru
      rw [hKK] at h1 h3
      cases b with
      | false => cases e
      | true =>
        cases b2 with
        | false => cases e
        | true =>
          simp only at e
          rw [if_pos rfl] at h1 h3
          cases c : small (ws.length + us.length) with
          | false => rw [c] at e; cases e
          | true =>
            rw [c, if_pos rfl] at e
            cases e
            exact .inr (.inr (.inl ⟨a, a2, xs, ys, rfl, rfl, h1, h3, by rw [← h2.length, ← h4.length]; exact small_le c, fun p hp => hQ _ _ (out_new s (h2.append h4) hp)⟩))
/-! ### * -/
theorem og_mul : OpG X (rI CMul fun i j => .int (i * j)) (fI iMul) := og_int fun C F H i j d Q q hQ => by
  obtain ⟨p, rfl⟩ := of_some q; exact ⟨i, j, rfl, rfl, p, hQ _ rpI⟩
end
/-- the same with more to be kept -/
theorem Sim.keep {C : GC} {F H : Hp} {ι : Nat → Addr} {G : Hg} {p : Addr} {o : HO} (s : Sim C F H ι G) (h : H p = none) : Sim { C with B := upd C.B p o } F (upd H p o) ι G := by
  have s' := s.drop (o := o) h
  have hB := s.freeB h
  have hF := s.free h
  refine ⟨s'.fh, fun b u q => ?_, s.ff, fun b u q => ?_, fun i g hi hg => ?_, s.inj⟩
  · by_cases e : b = p
    · subst e
      have q1 : upd C.B b o b = some u := q
      rw [upd_same] at q1
      cases q1
      exact upd_same
    · have q' : C.B b = some u := by rw [← upd_ne (H := C.B) (o := o) e]; exact q
      exact s'.bh _ _ q'
  · rcases s.new b u q with z | z
    · exact .inl z
    · refine .inr ?_
      show upd C.B p o b = none
      rw [upd_ne (fun e => by rw [e, hF] at q; cases q)]
      exact z
  · obtain ⟨a, b, r⟩ := s'.live i g hi hg
    refine ⟨a, ?_, r⟩
    obtain ⟨u, hu⟩ := (s.live i g hi hg).2.2.some hg
    show upd C.B p o (ι i) = none
    rw [upd_ne (ne_of_none hu h)]
    exact b
theorem Sim.unkeep {C : GC} {F H : Hp} {ι : Nat → Addr} {G : Hg} {p : Addr} {o : HO} (s : Sim { C with B := upd C.B p o } F H ι G) (h : C.B p = none) : Sim C F H ι G := by
  refine ⟨s.fh, fun b u q => s.bh b u ?_, s.ff, fun b u q => ?_, fun i g hi hg => ?_, s.inj⟩
  · show upd C.B p o b = some u
    rw [upd_ne (ne_of_none q h)]
    exact q
  · rcases s.new b u q with z | z
    · exact .inl z
    · refine .inr ?_
      by_cases e : b = p
      · rw [e]; exact h
      · have z' : upd C.B p o b = none := z
        rw [upd_ne e] at z'
        exact z'
  · obtain ⟨a, b, r⟩ := s.live i g hi hg
    refine ⟨a, ?_, r⟩
    have z' : upd C.B p o (ι i) = none := b
    by_cases e : ι i = p
    · rw [e]; exact h
    · rw [upd_ne e] at z'; exact z'
/-- a thing that was kept is frozen -/
theorem Sim.adopt {C : GC} {F H : Hp} {ι : Nat → Addr} {G : Hg} {p : Addr} {o : HO} (s : Sim { C with B := upd C.B p o } F H ι G) (h : C.B p = none) (hF : F p = none) : Sim C (upd F p o) H ι G ∧ Ext F ι G.length (upd F p o) ι G.length ∧ H p = some o := by
  have hp : H p = some o := s.bh p o upd_same
  have ext : Ext F ι G.length (upd F p o) ι G.length := ⟨fun b u q => by rw [upd_ne (ne_of_none q hF)]; exact q, fun _ _ => rfl, Nat.le_refl _⟩
  have t := s.unkeep h
  refine ⟨⟨fun b u q => ?_, t.bh, t.ff.trans ext.fr, fun b u q => ?_, fun i g hi hg => ?_, t.inj⟩, ext, hp⟩
  · by_cases e : b = p
    · subst e; rw [upd_same] at q; cases q; exact hp
    · rw [upd_ne e] at q; exact s.fh _ _ q
  · by_cases e : b = p
    · subst e; exact .inr h
    · rw [upd_ne e] at q; exact t.new _ _ q
  · obtain ⟨a, b, r⟩ := s.live i g hi hg
    have np : ι i ≠ p := fun e => by
      have z : upd C.B p o (ι i) = none := b
      rw [e, upd_same] at z
      cases z
    exact ⟨by rw [upd_ne np]; exact a, (t.live i g hi hg).2.1, r.mono ext fun u q => q⟩
/-- [..] * k -/
def repEnd (ws : List W) : W → Hg → Res W := fun z G2 => match z, allD ws with
  | .d (.int j), some ds => if (decide (-(2 ^ 63) ≤ j) && decide (j < 2 ^ 63)) && small (ws.length * j.toNat) then .ok (.d (.lst (List.replicate j.toNat ds).flatten)) G2 else .stuck
  | _, _ => .stuck
def gRep (a : GEs) (k : GE) : GE := fun ρ G => (a ρ G).bind fun ws G1 => if small ws.length then (k ρ G1).bind (repEnd ws) else .stuck
theorem RpL.append {M : Md} {F : Hp} : ∀ {ds es : List D} {xs ys : List V}, RpL M F ds xs → RpL M F es ys → RpL M F (ds ++ es) (xs ++ ys)
  | [], es, xs, ys, h, k => by simp only [RpL] at h; subst h; simpa using k
  | w :: ws, us, xs, ys, h, k => by
    simp only [RpL] at h
    obtain ⟨x, r, rfl, h1, h2⟩ := h
    simp only [List.cons_append, RpL]
    exact ⟨x, r ++ ys, rfl, h1, h2.append k⟩
theorem RpL.rep {M : Md} {F : Hp} {ds : List D} {xs : List V} (h : RpL M F ds xs) : ∀ k : Nat, RpL M F (List.replicate k ds).flatten (List.replicate k xs).flatten
  | 0 => by simp [RpL]
  | k + 1 => by
    rw [List.replicate_succ, List.replicate_succ, List.flatten_cons, List.flatten_cons]
    exact h.append (h.rep k)
section
variable {X : Cx} {es : List Expr} {gs : GEs} {b : Expr} {gb : GE} {pos pos' : Pos}
theorem ge_rep (h : GJA X es gs) (hb : GJE X b gb) : GJE X (.BinOp (.List es pos') .Mult b pos) (gRep gs gb) := ⟨fun B F0 wx tk => by
  refine ⟨fun pins s0 σ H Q I hh => ?_⟩
  obtain ⟨F, ι, ρ, G, s, he, hp⟩ := hh
  -- what the whole asks
  have key : ∀ (xs : List V) (H1 : Hp) (F1 : Hp) (ι1 : Nat → Addr) (ws : List W) (G1 : Hg), Ext F ι G.length F1 ι1 G1.length → Sim (gc X B F0 wx) F1 H1 ι1 G1 → RpWL (md X) F1 ι1 G1.length ws xs →
      Post (gc X B F0 wx) F1 ι1 G1.length σ ((gb ρ G1).bind (repEnd ws)) Q → ∀ p, H1 p = none → ∃ B' : Hp, gTE (gc X B' F0 wx) gb σ (upd H1 p (.lst xs)) fun y H2 => rRep (.ref p) y H2 Q := by
    intro xs H1 F1 ι1 ws G1 e1 s1 r1 p1 p hp1
    have hB := s1.freeB hp1
    have hF := s1.free hp1
    refine ⟨upd B p (.lst xs), F1, ι1, ρ, G1, s1.keep (o := .lst xs) hp1, he.mono e1, ?_⟩
    cases q : gb ρ G1 with
    | stuck => rw [q] at p1; exact p1
    | exc e G' => rw [q] at p1; exact fun cls d H' ⟨F', ι', a, b', c⟩ => p1 cls d H' ⟨F', ι', a, b'.unkeep (C := gc X B F0 wx) hB, c⟩
    | ok z G2 =>
      rw [q] at p1
      rintro y H2 ⟨F2, ι2, e2, s2, r2⟩
      have p2 := Post.base e2 p1
      simp only [Res.bind, repEnd] at p2
      cases z with
      | d zd =>
        cases zd with
        | int j =>
          cases k : allD ws with
          | none => rw [k] at p2; exact p2.elim
          | some ds =>
            rw [k] at p2
            simp only at p2
            cases c : ((decide (-(2 ^ 63) ≤ j) && decide (j < 2 ^ 63)) && small (ws.length * j.toNat)) with
            | false => rw [c] at p2; exact p2.elim
            | true =>
              rw [c, if_pos rfl] at p2
              simp only [Bool.and_eq_true, decide_eq_true_eq] at c
              simp only [RpW, Rp] at r2
              subst r2
              have hl := r1.length
              refine ⟨p, j, xs, rfl, rfl, s2.bh p _ upd_same, c.1.1, c.1.2, by rw [← hl]; exact small_le c.2, fun p2' hp2 => ?_⟩
              have t := s2.unkeep (C := gc X B F0 wx) hB
              have r1' := allD_rp k (r1.mono e2)
              exact p2 _ _ (out_lst t (r1'.rep _) hp2)
        | _ => exact p2.elim
      | _ => exact p2.elim
  refine wpAny_BinOp ?_
  have hL := (pe_lst (pos := pos') (h.run B F0 wx tk)).run pins s0 σ H (fun x H1 => ∃ p, x = .ref p ∧ ∃ B' : Hp, gTE (gc X B' F0 wx) gb σ H1 fun y H2 => rRep (.ref p) y H2 Q) I ?_
  · refine thn hL fun v s1 ⟨x, H1, I1, r1, p, ex, B', hg⟩ => ?_
    subst ex
    refine thn ((hb.run B' F0 wx tk).run pins s1 σ H1 _ I1 hg) fun u s2 ⟨y, H2, I2, r2, q2⟩ => ?_
    exact op_rep pins s2 σ H2 (.ref p) y v u Q I2 r1 r2 q2
  · refine ⟨F, ι, ρ, G, s, he, (PostL.fst hp).imp fun xs H1 ⟨F1, ι1, ws, G1, e1, s1, r1, p1⟩ => ?_⟩
    cases q : small ws.length with
    | false => rw [q] at p1; exact p1.elim
    | true =>
      rw [q, if_pos rfl] at p1
      exact ⟨by rw [← r1.length]; exact small_le q, fun p hp1 => ⟨p, rfl, key xs H1 F1 ι1 ws G1 e1 s1 r1 p1 p hp1⟩⟩⟩
end
end Gh

set_option Elab.async false
set_option linter.all false
set_option maxRecDepth 100000
set_option maxHeartbeats 4000000
namespace Gh
open PySem PySem.Spec PyProof.Rows L2

/-! ### functions: those that leave all ghost objects alone (pure) -/
inductive PRes where
  | stuck | exc (e : Exc) | ok (d : D)
/-! a tree read off a value, to a depth -/
def mapO {α β : Type} (f : α → Option β) : List α → Option (List β)
  | [] => some []
  | a :: r => match f a with
    | none => none
    | some b => match mapO f r with
      | none => none
      | some bs => some (b :: bs)
theorem mapO_cons {α β : Type} {f : α → Option β} {a : α} {r : List α} {bs : List β} (h : mapO f (a :: r) = some bs) : ∃ b c, f a = some b ∧ mapO f r = some c ∧ bs = b :: c := by
  simp only [mapO] at h
  cases q : f a with
  | none => rw [q] at h; cases h
  | some b =>
    cases q2 : mapO f r with
    | none => rw [q, q2] at h; cases h
    | some c => rw [q, q2] at h; cases h; exact ⟨b, c, rfl, rfl, rfl⟩
def onSnd {α : Type} (f : W → Option D) (p : α × W) : Option (α × D) := (f p.2).map fun d => (p.1, d)
theorem onSnd_some {α : Type} {f : W → Option D} {p : α × W} {q : α × D} (h : onSnd f p = some q) : ∃ d, f p.2 = some d ∧ q = (p.1, d) := by
  unfold onSnd at h
  cases z : f p.2 with
  | none => rw [z] at h; cases h
  | some d => rw [z] at h; cases h; exact ⟨d, rfl, rfl⟩
def rdW : Nat → W → Hg → Option D
  | 0, w, _ => match w with
    | .d x => some x
    | _ => none
  | k + 1, w, G => match w with
    | .d x => some x
    | .tup ws => (mapO (fun w => rdW k w G) ws).map .tup
    | .ref i => match G[i]? with
      | some (.lst ws) => (mapO (fun w => rdW k w G) ws).map .lst
      | some (.dic _ kvs) => (mapO (onSnd fun w => rdW k w G) kvs).map .dic
      | some (.ins c fs) => (mapO (onSnd fun w => rdW k w G) fs).map (.ins c)
      | _ => none
open Classical in
/-- the frozen heap with all live ghost objects -/
noncomputable def allF (F H : Hp) (ι : Nat → Addr) (G : Hg) : Hp := fun a => if (∃ i o, G[i]? = some o ∧ o ≠ .dead ∧ ι i = a) then H a else F a
section
variable {C : GC} {F H : Hp} {ι : Nat → Addr} {G : Hg}
theorem allF_old (s : Sim C F H ι G) : Same F (allF F H ι G) := fun b o q => by
  unfold allF
  split
  · exact s.fh _ _ q
  · exact q
theorem allF_sub (s : Sim C F H ι G) : Same (allF F H ι G) H := fun b o q => by
  unfold allF at q
  split at q
  · exact q
  · exact s.fh _ _ q
theorem allF_live {i : Nat} {o : GO} (hi : G[i]? = some o) (h : o ≠ .dead) : allF F H ι G (ι i) = H (ι i) := by
  unfold allF
  exact if_pos ⟨i, o, hi, h, rfl⟩
theorem allF_new (s : Sim C F H ι G) : ∀ b o, allF F H ι G b = some o → C.F0 b = some o ∨ C.B b = none := fun b o q => by
  unfold allF at q
  split at q
  · rename_i hx
    obtain ⟨i, g, hi, hg, rfl⟩ := hx
    exact .inr (s.live i g hi hg).2.1
  · exact s.new _ _ q
section
variable {M : Md} {F F' : Hp} {ι : Nat → Addr} {n : Nat} {f : W → Option D}
theorem mapO_l (hf : ∀ w d v, f w = some d → RpW M F ι n w v → Rp M F' d v) : ∀ {ws : List W} {ds : List D} {xs : List V}, mapO f ws = some ds → RpWL M F ι n ws xs → RpL M F' ds xs
  | [], _, _, h, r => by
    cases h
    simp only [RpWL] at r
    simpa only [RpL] using r
  | w :: ws, _, _, h, r => by
    obtain ⟨b, c, h1, h2, rfl⟩ := mapO_cons h
    simp only [RpWL] at r
    obtain ⟨y, r', rfl, h3, h4⟩ := r
    simp only [RpL]
    exact ⟨y, r', rfl, hf _ _ _ h1 h3, mapO_l hf h2 h4⟩
theorem mapO_k (hf : ∀ w d v, f w = some d → RpW M F ι n w v → Rp M F' d v) : ∀ {ws : List (D × W)} {ds : List (D × D)} {xs : List (Key × V)}, mapO (onSnd f) ws = some ds → RpWK M F ι n ws xs → RpK M F' ds xs
  | [], _, _, h, r => by
    cases h
    simp only [RpWK] at r
    simpa only [RpK] using r
  | (k, w) :: ws, _, _, h, r => by
    obtain ⟨b, c, h1, h2, rfl⟩ := mapO_cons h
    obtain ⟨d, h0, rfl⟩ := onSnd_some h1
    simp only [RpWK] at r
    obtain ⟨kk, y, r', rfl, h5, h3, h4⟩ := r
    simp only [RpK]
    exact ⟨kk, y, r', rfl, h5, hf _ _ _ h0 h3, mapO_k hf h2 h4⟩
theorem mapO_t (hf : ∀ w d v, f w = some d → RpW M F ι n w v → Rp M F' d v) : ∀ {ws : List (D × W)} {ds : List (D × D)} {xs : List (List Key × V)}, mapO (onSnd f) ws = some ds → RpWT M F ι n ws xs → RpT M F' ds xs
  | [], _, _, h, r => by
    cases h
    simp only [RpWT] at r
    simpa only [RpT] using r
  | (k, w) :: ws, _, _, h, r => by
    obtain ⟨b, c, h1, h2, rfl⟩ := mapO_cons h
    obtain ⟨d, h0, rfl⟩ := onSnd_some h1
    simp only [RpWT] at r
    obtain ⟨kk, y, r', rfl, h5, h3, h4⟩ := r
    simp only [RpT]
    exact ⟨kk, y, r', rfl, h5, hf _ _ _ h0 h3, mapO_t hf h2 h4⟩
theorem mapO_f (hf : ∀ w d v, f w = some d → RpW M F ι n w v → Rp M F' d v) : ∀ {ws : List (Str × W)} {ds : List (Str × D)} {xs : List (Str × V)}, mapO (onSnd f) ws = some ds → RpWF M F ι n ws xs → RpF M F' ds xs
  | [], _, _, h, r => by
    cases h
    simp only [RpWF] at r
    simpa only [RpF] using r
  | (k, w) :: ws, _, _, h, r => by
    obtain ⟨b, c, h1, h2, rfl⟩ := mapO_cons h
    obtain ⟨d, h0, rfl⟩ := onSnd_some h1
    simp only [RpWF] at r
    obtain ⟨y, r', rfl, h3, h4⟩ := r
    simp only [RpF]
    exact ⟨y, r', rfl, hf _ _ _ h0 h3, mapO_f hf h2 h4⟩
end
theorem map_some {α β : Type} {f : α → β} {o : Option α} {b : β} (h : o.map f = some b) : ∃ a, o = some a ∧ b = f a := by
  cases o with
  | none => cases h
  | some a => cases h; exact ⟨a, rfl, rfl⟩
theorem rd_ok (s : Sim C F H ι G) : ∀ (k : Nat) (w : W) (d : D) (v : V), rdW k w G = some d → RpW C.m F ι G.length w v → Rp C.m (allF F H ι G) d v
  | k, .d x, d, v, h, r => by
    have h' : some x = some d := by cases k <;> exact h
    cases h'
    simp only [RpW] at r
    exact r.mono (allF_old s)
  | 0, .ref i, d, v, h, r => by cases h
  | 0, .tup i, d, v, h, r => by cases h
  | k + 1, .tup ws, d, v, h, r => by
    obtain ⟨ds, q, rfl⟩ := map_some (show (mapO (fun w => rdW k w G) ws).map D.tup = some d from h)
    simp only [RpW] at r
    obtain ⟨a, xs, rfl, h1, h2⟩ := r
    simp only [Rp]
    exact ⟨a, xs, rfl, Same.sqT (allF_old s) h1, mapO_l (rd_ok s k) q h2⟩
  | k + 1, .ref i, d, v, h, r => by
    simp only [rdW] at h
    simp only [RpW] at r
    obtain ⟨hi, rfl⟩ := r
    cases q : G[i]? with
    | none => rw [q] at h; cases h
    | some o =>
      rw [q] at h
      cases o with
      | dead => cases h
      | lst ws =>
        obtain ⟨ds, q2, rfl⟩ := map_some h
        have ne : GO.lst ws ≠ .dead := fun z => by cases z
        obtain ⟨_, _, xs, h1, h2⟩ := s.live i _ q ne
        simp only [Rp]
        exact ⟨_, xs, rfl, .inl (.inl ((allF_live q ne).trans h1)), mapO_l (rd_ok s k) q2 h2⟩
      | dic t kvs =>
        obtain ⟨ds, q2, rfl⟩ := map_some h
        have ne : GO.dic t kvs ≠ .dead := fun z => by cases z
        obtain ⟨_, _, r⟩ := s.live i _ q ne
        simp only [Rp]
        cases t with
        | false =>
          obtain ⟨es, h1, h2⟩ := r
          exact ⟨_, rfl, .inl ⟨es, .inl ((allF_live q ne).trans h1), mapO_k (rd_ok s k) q2 h2⟩⟩
        | true =>
          obtain ⟨es, h1, h2⟩ := r
          exact ⟨_, rfl, .inr ⟨es, .inl ((allF_live q ne).trans h1), mapO_t (rd_ok s k) q2 h2⟩⟩
      | ins c fs =>
        obtain ⟨ds, q2, rfl⟩ := map_some h
        have ne : GO.ins c fs ≠ .dead := fun z => by cases z
        obtain ⟨_, _, Ca, dx, es, h0, hc, h1, h2⟩ := s.live i _ q ne
        simp only [Rp]
        exact ⟨_, Ca, es, rfl, h0, .ins dx hc ((allF_live q ne).trans h1), mapO_f (rd_ok s k) q2 h2⟩
end

/-- what a pure function promises -/
def PPost (M : Md) (F H : Hp) (r : PRes) (Q : VK) (E : XK) : Prop := match r with
  | .stuck => False
  | .exc e => ∀ cls d F' H', Same F F' → Same F' H' → Same H H' → (∀ b o, F' b = some o → F b = some o ∨ H b = none) → XR ⟨M, fun _ => none, fun _ => none, fun _ _ _ _ => False⟩ F' H' e cls d → E cls d H'
  | .ok d => ∀ v F' H', Same F F' → Same F' H' → Same H H' → (∀ b o, F' b = some o → F b = some o ∨ H b = none) → Rp M F' d v → Q v H'
def spP (M : Md) (np : Nat) (f : List D → PRes) : Sp := fun vs H Q E => ∃ F ds, ds.length = np ∧ Same F H ∧ RpL M F ds vs ∧ PPost M F H (f ds) Q E
def envP (N : Nat) (ds : List D) : GEnv := ds.map (fun d => some (.d d)) ++ List.replicate (N - ds.length) none
def runP (N : Nat) (g : GS) : List D → PRes := fun ds => match g (envP N ds) [] with
  | .exc e _ _ => .exc e
  | .nx _ _ => .ok .non
  | .ret w G => match rdW 6 w G with
    | some d => .ok d
    | none => .stuck
  | _ => .stuck
/-! .. and a function that may change ghost objects -/
mutual
def belowW (n : Nat) : W → Bool
  | .d _ => true
  | .ref i => decide (i < n)
  | .tup ws => belowL n ws
def belowL (n : Nat) : List W → Bool
  | [] => true
  | w :: ws => belowW n w && belowL n ws
end
def belowO (n : Nat) : GO → Bool
  | .lst ws => belowL n ws
  | .dic _ kvs => kvs.all fun p => belowW n p.2
  | .ins _ fs => fs.all fun p => belowW n p.2
  | .dead => true
section
variable {M : Md} {F : Hp} {ι : Nat → Addr} {n n' : Nat}
mutual
theorem below_ok : ∀ {w : W} {v : V}, belowW n w = true → RpW M F ι n' w v → RpW M F ι n w v
  | .d _, _, _, r => by simpa only [RpW] using r
  | .ref i, _, h, r => by
    simp only [belowW, decide_eq_true_eq] at h
    simp only [RpW] at r ⊢
    exact ⟨h, r.2⟩
  | .tup ws, _, h, r => by
    simp only [belowW] at h
    simp only [RpW] at r ⊢
    obtain ⟨a, xs, h1, h2, h3⟩ := r
    exact ⟨a, xs, h1, h2, below_okL h h3⟩
theorem below_okL : ∀ {w : List W} {v : List V}, belowL n w = true → RpWL M F ι n' w v → RpWL M F ι n w v
  | [], _, _, r => by simpa only [RpWL] using r
  | w :: ws, _, h, r => by
    simp only [belowL, Bool.and_eq_true] at h
    simp only [RpWL] at r ⊢
    obtain ⟨a, xs, h1, h2, h3⟩ := r
    exact ⟨a, xs, h1, below_ok h.1 h2, below_okL h.2 h3⟩
end
theorem below_okK : ∀ {w : List (D × W)} {v : List (Key × V)}, (w.all fun p => belowW n p.2) = true → RpWK M F ι n' w v → RpWK M F ι n w v
  | [], _, _, r => by simpa only [RpWK] using r
  | (k, w) :: ws, _, h, r => by
    simp only [List.all_cons, Bool.and_eq_true] at h
    simp only [RpWK] at r ⊢
    obtain ⟨kk, a, xs, h1, h0, h2, h3⟩ := r
    exact ⟨kk, a, xs, h1, h0, below_ok h.1 h2, below_okK h.2 h3⟩
theorem below_okT : ∀ {w : List (D × W)} {v : List (List Key × V)}, (w.all fun p => belowW n p.2) = true → RpWT M F ι n' w v → RpWT M F ι n w v
  | [], _, _, r => by simpa only [RpWT] using r
  | (k, w) :: ws, _, h, r => by
    simp only [List.all_cons, Bool.and_eq_true] at h
    simp only [RpWT] at r ⊢
    obtain ⟨kk, a, xs, h1, h0, h2, h3⟩ := r
    exact ⟨kk, a, xs, h1, h0, below_ok h.1 h2, below_okT h.2 h3⟩
theorem below_okF : ∀ {w : List (Str × W)} {v : List (Str × V)}, (w.all fun p => belowW n p.2) = true → RpWF M F ι n' w v → RpWF M F ι n w v
  | [], _, _, r => by simpa only [RpWF] using r
  | (k, w) :: ws, _, h, r => by
    simp only [List.all_cons, Bool.and_eq_true] at h
    simp only [RpWF] at r ⊢
    obtain ⟨a, xs, h1, h2, h3⟩ := r
    exact ⟨a, xs, h1, below_ok h.1 h2, below_okF h.2 h3⟩
theorem below_okO {H : Hp} {a : Addr} : ∀ {o : GO}, belowO n o = true → RpO M F ι n' H a o → RpO M F ι n H a o
  | .lst ws, h, ⟨xs, h1, h2⟩ => ⟨xs, h1, below_okL h h2⟩
  | .dic false kvs, h, ⟨xs, h1, h2⟩ => ⟨xs, h1, below_okK h h2⟩
  | .dic true kvs, h, ⟨xs, h1, h2⟩ => ⟨xs, h1, below_okT h h2⟩
  | .ins c fs, h, ⟨Ca, dx, es, h0, hc, h1, h2⟩ => ⟨Ca, dx, es, h0, hc, h1, below_okF h h2⟩
  | .dead, _, _ => trivial
end
/-- the ghost objects of a def that are left behind are forgotten -/
def cutG (n : Nat) (G : Hg) : Option Hg := if (G.take n).all (belowO n) then some (G.take n) else none
theorem Sim.cut {C : GC} {F H : Hp} {ι : Nat → Addr} {G G' : Hg} {n : Nat} (s : Sim C F H ι G) (hn : n ≤ G.length) (h : cutG n G = some G') : Sim C F H ι G' ∧ G'.length = n := by
  unfold cutG at h
  by_cases c : (G.take n).all (belowO n) = true
  · rw [if_pos c] at h
    cases h
    have hl : (G.take n).length = n := by rw [List.length_take]; omega
    have at_ : ∀ i o, (G.take n)[i]? = some o → G[i]? = some o := fun i o q => by
      rw [List.getElem?_take] at q
      split at q
      · exact q
      · cases q
    refine ⟨⟨s.fh, s.bh, s.ff, s.new, fun i o hi ho => ?_, fun i j o u hi ho hj hu e => s.inj i j o u (at_ i o hi) ho (at_ j u hj) hu e⟩, hl⟩
    obtain ⟨a, b, r⟩ := s.live i o (at_ i o hi) ho
    refine ⟨a, b, ?_⟩
    rw [hl]
    exact below_okO (List.all_eq_true.mp c o (List.mem_of_getElem? hi)) r
  · rw [if_neg c] at h; cases h
def endS (n : Nat) (w : W) (G : Hg) : Res W := if belowW n w then (match cutG n G with
  | some G' => .ok w G'
  | none => .ok w G) else .ok w G
def endX (n : Nat) (e : Exc) (G : Hg) : Res W := match cutG n G with
  | some G' => .exc e G'
  | none => .exc e G
def envS (N : Nat) (ws : List W) : GEnv := ws.map some ++ List.replicate (N - ws.length) none
def runS (N : Nat) (g : GS) : List W → Hg → Res W := fun ws G => match g (envS N ws) G with
  | .exc e _ G' => endX G.length e G'
  | .nx _ G' => endS G.length (.d .non) G'
  | .ret w G' => endS G.length w G'
  | _ => .stuck
def SPost (C : GC) (F : Hp) (ι : Nat → Addr) (n : Nat) (r : Res W) (Q : VK) (E : XK) : Prop := match r with
  | .stuck => False
  | .exc e G' => ∀ cls d H', XOut C F ι n e G' cls d H' → E cls d H'
  | .ok w G' => ∀ v H', Out C F ι n w G' v H' → Q v H'
def wx0 : WX := fun _ _ _ _ => False
def spS (M : Md) (np : Nat) (f : List W → Hg → Res W) : Sp := fun vs H Q E => ∃ B F0 F ι G ws, ws.length = np ∧ Sim ⟨M, B, F0, wx0⟩ F H ι G ∧ RpWL M F ι G.length ws vs ∧ SPost ⟨M, B, F0, wx0⟩ F ι G.length (f ws G) Q E
theorem Sim.wx {m : Md} {B F0 : Hp} {wx wx' : WX} {F H : Hp} {ι : Nat → Addr} {G : Hg} (s : Sim ⟨m, B, F0, wx⟩ F H ι G) : Sim ⟨m, B, F0, wx'⟩ F H ι G := ⟨s.fh, s.bh, s.ff, s.new, s.live, s.inj⟩
theorem Out.wx {m : Md} {B F0 : Hp} {wx wx' : WX} {F : Hp} {ι : Nat → Addr} {n : Nat} {w : W} {G' : Hg} {v : V} {H' : Hp} (h : Out ⟨m, B, F0, wx⟩ F ι n w G' v H') : Out ⟨m, B, F0, wx'⟩ F ι n w G' v H' :=
  let ⟨F', ι', a, b, c⟩ := h; ⟨F', ι', a, b.wx, c⟩
theorem XOut.wx {m : Md} {B F0 : Hp} {wx wx' : WX} {F : Hp} {ι : Nat → Addr} {n : Nat} {w : Exc} {G' : Hg} {v : Value} {d : Option Addr} {H' : Hp} (h : XOut ⟨m, B, F0, wx⟩ F ι n w G' v d H') : XOut ⟨m, B, F0, wx'⟩ F ι n w G' v d H' :=
  let ⟨F', ι', a, b, c⟩ := h; ⟨F', ι', a, b.wx, c⟩

/-! ### a def's body gives its promise -/
section
variable {P : Program} {w : World} {K : PySem.W.Frag} {mg : Str → Option Value} {base : Heap}
theorem renv_start {M : Md} {F : Hp} {ι : Nat → Addr} {n : Nat} {N : List Str} {ws : List W} {vs : List V} (r : RpWL M F ι n ws vs) : REnv M F ι n (envS N.length ws) (L2.start N vs) := by
  have hl := r.length
  unfold envS L2.start
  rw [hl]
  refine ⟨by simp [hl], fun i w h => ?_⟩
  rcases Nat.lt_or_ge i ws.length with z | z
  · rw [List.getElem?_append_left (by simpa using z), List.getElem?_map] at h
    cases q : ws[i]? with
    | none => rw [q] at h; cases h
    | some w' =>
      rw [q] at h
      simp only [Option.map_some, Option.some.injEq] at h
      subst h
      obtain ⟨x, h1, h2⟩ := r.get q
      exact ⟨x, by rw [List.getElem?_append_left (by simpa [← hl] using z), List.getElem?_map, h1]; rfl, h2⟩
  · rw [List.getElem?_append_right (by simpa using z), List.getElem?_replicate] at h
    split at h <;> cases h
theorem endS_out {C : GC} {F0 F : Hp} {ι0 : Nat → Addr} {n : Nat} {w : W} {G : Hg} {v : V} {H : Hp} {Q : VK} {E : XK} (h : SPost C F0 ι0 n (endS n w G) Q E) (o : Out C F0 ι0 n w G v H) : Q v H := by
  obtain ⟨F', ι', e, s, r⟩ := o
  unfold endS at h
  by_cases b : belowW n w = true
  · rw [if_pos b] at h
    cases c : cutG n G with
    | none => rw [c] at h; exact h v H ⟨F', ι', e, s, r⟩
    | some G' =>
      rw [c] at h
      obtain ⟨s', hl⟩ := s.cut e.le c
      exact h v H ⟨F', ι', ⟨e.fr, e.io, by rw [hl]; exact Nat.le_refl _⟩, s', by rw [hl]; exact below_ok b r⟩
  · rw [if_neg b] at h
    exact h v H ⟨F', ι', e, s, r⟩
theorem endX_out {C : GC} {F0 F : Hp} {ι0 : Nat → Addr} {n : Nat} {x : Exc} {G : Hg} {cls : Value} {d : Option Addr} {H : Hp} {Q : VK} {E : XK} (h : SPost C F0 ι0 n (endX n x G) Q E) (o : XOut C F0 ι0 n x G cls d H) : E cls d H := by
  obtain ⟨F', ι', e, s, r⟩ := o
  unfold endX at h
  cases c : cutG n G with
  | none => rw [c] at h; exact h cls d H ⟨F', ι', e, s, r⟩
  | some G' =>
    rw [c] at h
    obtain ⟨s', hl⟩ := s.cut e.le c
    exact h cls d H ⟨F', ι', ⟨e.fr, e.io, by rw [hl]; exact Nat.le_refl _⟩, s', r⟩
/-- the context of a def's body -/
abbrev bodyX (P : Program) (w : World) (K : PySem.W.Frag) (mg : Str → Option Value) (base : Heap) (N : List Str) (qual : Str) (sc : Scope) (f : Addr) (cdv : Value) (A : Around) (outer : List Env) (s : Shared) (H : Hp) (E : XK) : Cx := cxOf (L2.CX P w) P w K mg base N qual sc f cdv A outer s H E
abbrev Body (P : Program) (w : World) (K : PySem.W.Frag) (mg : Str → Option Value) (base : Heap) (N : List Str) (qual : Str) (st : Stmt) (k : Nat) (f : Addr) (g : GS) : Prop :=
  ∀ (cdv : Value) (A : Around) (outer : List Env) (s : Shared) (H : Hp) (E : XK), Room k (bodyX P w K mg base N qual (defScope st) f cdv A outer s H E).A → GJSs (bodyX P w K mg base N qual (defScope st) f cdv A outer s H E) (defBody st) g
theorem fn_s {x qual : Str} {st : Stmt} {f : Addr} {fd : FuncData} {N ps : List Str} {k : Nat} {g : GS} {dvs : List V} {kws : List (Str × V)} (F : FunD K x qual (defArgs st) (defBody st) (defScope st) dvs kws f fd) (S : FnScope N ps (defScope st)) (hb : Body P w K mg base N qual st k f g) :
    FnOk P w K mg base (L2.CX P w) (k + 1) f fd ps (spS ⟨K, mg⟩ ps.length (runS N.length g)) := by
  refine FunD.ok (CX := L2.CX P w) F S (fun vs H Q E ⟨B, F0, F, ι, G, ws, hl, s, r, h⟩ => by rw [← r.length, hl]) (fun cdv A outer s H vs Q E hr ⟨B, F0, F, ι, G, ws, hl, s', r, h⟩ => ?_)
  refine ⟨_, (hb cdv A outer s H E hr).run B F0 (fun cls d _ H => E cls d H) (takes_of rfl rfl rfl rfl), ?_⟩
  refine ⟨F, ι, envS N.length ws, G, s'.wx, renv_start r, ?_⟩
  unfold runS at h
  cases q : g (envS N.length ws) G with
  | stuck => rw [q] at h; exact h.elim
  | bk ρ' G' => rw [q] at h; exact h.elim
  | ct ρ' G' => rw [q] at h; exact h.elim
  | nx ρ' G' =>
    rw [q] at h
    rintro σ' H' ⟨F', ι', e, t, he⟩
    exact endS_out (F := F) h ⟨F', ι', e, t.wx, by simp only [RpW, Rp]⟩
  | ret u G' =>
    rw [q] at h
    exact fun v H' o => endS_out (F := F) h o.wx
  | exc x ρ' G' =>
    rw [q] at h
    exact fun cls d σ' H' F' ι' e t _ xr => endX_out (F := F) h ⟨F', ι', e, t.wx, xr⟩
theorem fn_p {x qual : Str} {st : Stmt} {f : Addr} {fd : FuncData} {N ps : List Str} {k : Nat} {g : GS} {dvs : List V} {kws : List (Str × V)} (F : FunD K x qual (defArgs st) (defBody st) (defScope st) dvs kws f fd) (S : FnScope N ps (defScope st)) (hb : Body P w K mg base N qual st k f g) :
    FnOk P w K mg base (L2.CX P w) (k + 1) f fd ps (spP ⟨K, mg⟩ ps.length (runP N.length g)) := by
  refine FunD.ok (CX := L2.CX P w) F S (fun vs H Q E ⟨F, ds, hl, s, r, h⟩ => by rw [← (r.wl (ι := fun _ => 0) (n := 0)).length, List.length_map, hl]) (fun cdv A outer s H vs Q E hr ⟨F, ds, hl, sm, r, h⟩ => ?_)
  refine ⟨_, (hb cdv A outer s H E hr).run H F (fun cls d _ H => E cls d H) (takes_of rfl rfl rfl rfl), ?_⟩
  have r' : RpWL (⟨K, mg⟩ : Md) F (fun _ => 0) 0 (ds.map .d) vs := r.wl
  have sim : Sim ⟨⟨K, mg⟩, H, F, fun cls d _ H => E cls d H⟩ F H (fun _ => 0) [] := ⟨sm, Same.refl _, Same.refl _, fun b o q => .inl q, fun i o hi => by simp at hi, fun i j o u hi => by simp at hi⟩
  have ee : envP N.length ds = envS N.length (ds.map .d) := by unfold envP envS; simp [List.map_map]
  refine ⟨F, fun _ => 0, envP N.length ds, [], sim, by rw [ee]; exact renv_start r', ?_⟩
  unfold runP at h
  cases q : g (envP N.length ds) [] with
  | stuck => rw [q] at h; exact h.elim
  | bk ρ' G' => rw [q] at h; exact h.elim
  | ct ρ' G' => rw [q] at h; exact h.elim
  | nx ρ' G' =>
    rw [q] at h
    rintro σ' H' ⟨F', ι', e, t, he⟩
    exact h .non F' H' e.fr t.fh t.bh (fun b o q => t.new b o q) rpN
  | ret u G' =>
    rw [q] at h
    rintro v H' ⟨F', ι', e, t, rr⟩
    simp only at h
    cases z : rdW 6 u G' with
    | none => rw [z] at h; exact h.elim
    | some d =>
      rw [z] at h
      exact h v _ H' (e.fr.trans (allF_old t)) (allF_sub t) t.bh (fun b o q => allF_new t b o q) (rd_ok t 6 u d v z rr)
  | exc x ρ' G' =>
    rw [q] at h
    rintro cls d σ' H' F' ι' e t _ xr
    exact h cls d F' H' e.fr t.fh t.bh (fun b o q => t.new b o q) xr
end

/-! ### calls -/
structure CalX (P : Program) (w : World) (K : PySem.W.Frag) (mg : Str → Option Value) (base : Heap) (k : Nat) (x : Str) (sp : Sp) : Prop where
  ex : ∃ (f : Addr) (fd : FuncData) (ps : List Str), FnOk P w K mg base (L2.CX P w) k f fd ps sp ∧ mg x = some (.ref f) ∧ PySem.W.keepIn K (.ref f) = true ∧ Binds K fd ps []
def flat : D → Bool
  | .non => true
  | .bl _ => true
  | .int _ => true
  | .str _ => true
  | _ => false
theorem flat_rp {M : Md} {F F' : Hp} {d : D} {v : V} (h : flat d = true) (r : Rp M F d v) : Rp M F' d v := by
  cases d with
  | non => simpa only [Rp] using r
  | bl b => simpa only [Rp] using r
  | int b => simpa only [Rp] using r
  | str b => simpa only [Rp] using r
  | _ => cases h
def gFnP (np : Nat) (f : List D → PRes) (a : GEs) : GE := fun ρ G => (a ρ G).bind fun ws G1 => if ws.length = np then (match allD ws with
    | some ds => (match f ds with
      | .stuck => .stuck
      | .exc e => .exc e G1
      | .ok d => .ok (.d d) G1)
    | none => match mapO (fun w => snap w G1) ws with
      | some ds => (match f ds with
        | .ok d => if flat d then .ok (.d d) G1 else .stuck
        | _ => .stuck)
      | none => .stuck) else .stuck
def gFnS (np : Nat) (f : List W → Hg → Res W) (a : GEs) : GE := fun ρ G => (a ρ G).bind fun ws G1 => if ws.length = np then f ws G1 else .stuck
section
variable {X : Cx} {k j : Nat} {x : Str} {p pos : Pos} {e : Expr} {es : List Expr} {gs : GEs}
theorem XOut.of_pure {C : GC} {F H : Hp} {ι : Nat → Addr} {G : Hg} {x : Exc} {cls : Value} {d : Option Addr} {F' H' : Hp} (s : Sim C F H ι G) (a : Same F F') (b : Same F' H') (c : Same H H') (n : ∀ b o, F' b = some o → F b = some o ∨ H b = none) : Sim C F' H' ι G := by
  refine ⟨b, s.bh.trans c, s.ff.trans a, fun q o h => ?_, fun i o hi ho => ?_, s.inj⟩
  · rcases n q o h with z | z
    · exact s.new q o z
    · exact .inr (s.freeB z)
  · obtain ⟨h1, h2, h3⟩ := s.live i o hi ho
    obtain ⟨u, hu⟩ := h3.some ho
    refine ⟨?_, h2, h3.mono ⟨a, fun _ _ => rfl, Nat.le_refl _⟩ fun o q => c _ _ q⟩
    cases q : F' (ι i) with
    | none => rfl
    | some o' =>
      rcases n _ _ q with z | z
      · rw [h1] at z; cases z
      · rw [hu] at z; cases z
theorem gTE_fnP {np : Nat} {f : List D → PRes} {B F0 : Hp} {wx : WX} {σ : L2.St} {H : Hp} {Q : VK} (h : gTE (gc X B F0 wx) (gFnP np f gs) σ H Q) :
    gTA (gc X B F0 wx) gs σ H fun vs H1 => spP (md X) np f vs H1 Q fun cls d H' => wx cls d σ H' := by
  obtain ⟨F, ι, ρ, G, s, he, hp⟩ := h
  refine ⟨F, ι, ρ, G, s, he, (PostL.fst hp).imp fun vs H1 ⟨F1, ι1, ws, G1, e1, s1, r1, p1⟩ => ?_⟩
  by_cases hnp : ws.length = np
  · rw [if_pos hnp] at p1
    cases q : allD ws with
    | some ds =>
      rw [q] at p1
      simp only at p1
      have rl := allD_rp q r1
      refine ⟨F1, ds, ?_, s1.fh, rl, ?_⟩
      · rw [← hnp, r1.length, ← (rl.wl (ι := ι1) (n := 0)).length, List.length_map]
      · cases q2 : f ds with
        | stuck => rw [q2] at p1; exact p1
        | exc x =>
          rw [q2] at p1
          exact fun cls d F' H' a b c n xr => p1 cls d H' ⟨F', ι1, ⟨a, fun _ _ => rfl, Nat.le_refl _⟩, XOut.of_pure (x := x) (cls := cls) (d := d) s1 a b c n, xr⟩
        | ok d =>
          rw [q2] at p1
          exact fun v F' H' a b c n rr => p1 v H' ⟨F', ι1, ⟨a, fun _ _ => rfl, Nat.le_refl _⟩, XOut.of_pure (x := ⟨"", []⟩) (cls := .none) (d := none) s1 a b c n, by simpa only [RpW] using rr⟩
    | none =>
      rw [q] at p1
      simp only at p1
      cases q2 : mapO (fun w => snap w G1) ws with
      | none => rw [q2] at p1; exact p1.elim
      | some ds =>
        rw [q2] at p1
        simp only at p1
        have rl : RpL (md X) H1 ds vs := mapO_l (fun w d v h r => s1.snap h r) q2 r1
        refine ⟨H1, ds, ?_, Same.refl _, rl, ?_⟩
        · rw [← hnp, r1.length, ← (rl.wl (ι := ι1) (n := 0)).length, List.length_map]
        · cases q3 : f ds with
          | stuck => rw [q3] at p1; exact p1
          | exc x => rw [q3] at p1; exact p1.elim
          | ok d =>
            rw [q3] at p1
            simp only at p1
            cases q4 : flat d with
            | false => rw [q4] at p1; exact p1.elim
            | true =>
              rw [q4, if_pos rfl] at p1
              refine fun v F' H' a b c n rr => p1 v H' ⟨F1, ι1, .refl, ?_, by simp only [RpW]; exact flat_rp q4 rr⟩
              exact ⟨s1.fh.trans c, s1.bh.trans c, s1.ff, s1.new, fun i o hi ho => let ⟨h1, h2, h3⟩ := s1.live i o hi ho; ⟨h1, h2, h3.mono .refl fun o q => c _ _ q⟩, s1.inj⟩
  · rw [if_neg hnp] at p1; exact p1.elim
theorem gTE_fnS {np : Nat} {f : List W → Hg → Res W} {B F0 : Hp} {wx : WX} {σ : L2.St} {H : Hp} {Q : VK} (h : gTE (gc X B F0 wx) (gFnS np f gs) σ H Q) :
    gTA (gc X B F0 wx) gs σ H fun vs H1 => spS (md X) np f vs H1 Q fun cls d H' => wx cls d σ H' := by
  obtain ⟨F, ι, ρ, G, s, he, hp⟩ := h
  refine ⟨F, ι, ρ, G, s, he, (PostL.fst hp).imp fun vs H1 ⟨F1, ι1, ws, G1, e1, s1, r1, p1⟩ => ?_⟩
  by_cases hnp : ws.length = np
  · rw [if_pos hnp] at p1
    refine ⟨B, F0, F1, ι1, G1, ws, hnp, s1.wx, r1, ?_⟩
    cases q : f ws G1 with
    | stuck => rw [q] at p1; exact p1
    | exc x G' => rw [q] at p1; exact fun cls d H' o => p1 cls d H' o.wx
    | ok w G' => rw [q] at p1; exact fun v H' o => p1 v H' o.wx
  · rw [if_neg hnp] at p1; exact p1.elim
theorem ge_fnP {np : Nat} {f : List D → PRes} (c : CalX X.prog X.w X.K X.mg X.base k x (spP (md X) np f)) (hr : Room j X.A) (hk : k ≤ j) (ha : GJA X (e :: es) gs) (hg : Gl X x := by rfl)
    (hdb : (x == ("__debug__" : Str)) = false := by decide) (he : starEach (e :: es) X.env = (false, eval e X.env) :: starEach es X.env := by rfl) (hpl : (backTo pos (starEach es X.env)).any (·.1) = false := by rfl) :
    GJE X (.Call (.Name x p) (e :: es) [] pos) (gFnP np f gs) := ⟨fun B F0 wx tk => by
  obtain ⟨fa, fd, ps, F, hm, kp, b⟩ := c.ex
  exact PE.imp (pe_callS F (hr.mono hk) hg hm kp b (fun σ => passAt tk σ) (ha.run B F0 wx tk) hdb he hpl) fun σ H Q h => gTE_fnP h⟩
theorem ge_fnS {np : Nat} {f : List W → Hg → Res W} (c : CalX X.prog X.w X.K X.mg X.base k x (spS (md X) np f)) (hr : Room j X.A) (hk : k ≤ j) (ha : GJA X (e :: es) gs) (hg : Gl X x := by rfl)
    (hdb : (x == ("__debug__" : Str)) = false := by decide) (he : starEach (e :: es) X.env = (false, eval e X.env) :: starEach es X.env := by rfl) (hpl : (backTo pos (starEach es X.env)).any (·.1) = false := by rfl) :
    GJE X (.Call (.Name x p) (e :: es) [] pos) (gFnS np f gs) := ⟨fun B F0 wx tk => by
  obtain ⟨fa, fd, ps, F, hm, kp, b⟩ := c.ex
  exact PE.imp (pe_callS F (hr.mono hk) hg hm kp b (fun σ => passAt tk σ) (ha.run B F0 wx tk) hdb he hpl) fun σ H Q h => gTE_fnS h⟩
end
end Gh

set_option Elab.async false
set_option linter.all false
set_option maxRecDepth 100000
set_option maxHeartbeats 4000000
namespace Gh
open PySem PySem.Spec PyProof.Rows L2

/-! ### equality of values -/
mutual
def sameD : D → D → Bool
  | .non, .non => true
  | .bl a, .bl b => a == b
  | .int a, .int b => decide (a = b)
  | .str a, .str b => decide (a = b)
  | .tup a, .tup b => sameL a b
  | .lst a, .lst b => sameL a b
  | .dic a, .dic b => sameK a b
  | .ins c a, .ins e b => decide (c = e) && sameF a b
  | _, _ => false
def sameL : List D → List D → Bool
  | [], [] => true
  | a :: r, b :: s => sameD a b && sameL r s
  | _, _ => false
def sameK : List (D × D) → List (D × D) → Bool
  | [], [] => true
  | (k, a) :: r, (l, b) :: s => sameD k l && (sameD a b && sameK r s)
  | _, _ => false
def sameF : List (Str × D) → List (Str × D) → Bool
  | [], [] => true
  | (k, a) :: r, (l, b) :: s => decide (k = l) && (sameD a b && sameF r s)
  | _, _ => false
end
mutual
theorem sameD_eq : ∀ {a b : D}, sameD a b = true → a = b
  | .non, b, h => by cases b <;> simp_all [sameD]
  | .bl a, b, h => by cases b <;> simp_all [sameD]
  | .int a, b, h => by cases b <;> simp_all [sameD]
  | .str a, b, h => by cases b <;> simp_all [sameD]
  | .tup a, b, h => by
    cases b with
    | tup c => simp only [sameD] at h; rw [sameL_eq h]
    | _ => simp [sameD] at h
  | .lst a, b, h => by
    cases b with
    | lst c => simp only [sameD] at h; rw [sameL_eq h]
    | _ => simp [sameD] at h
  | .dic a, b, h => by
    cases b with
    | dic c => simp only [sameD] at h; rw [sameK_eq h]
    | _ => simp [sameD] at h
  | .ins c a, b, h => by
    cases b with
    | ins e f => simp only [sameD, Bool.and_eq_true, decide_eq_true_eq] at h; rw [h.1, sameF_eq h.2]
    | _ => simp [sameD] at h
theorem sameL_eq : ∀ {a b : List D}, sameL a b = true → a = b
  | [], b, h => by cases b <;> simp_all [sameL]
  | x :: r, b, h => by
    cases b with
    | nil => simp [sameL] at h
    | cons y s => simp only [sameL, Bool.and_eq_true] at h; rw [sameD_eq h.1, sameL_eq h.2]
theorem sameK_eq : ∀ {a b : List (D × D)}, sameK a b = true → a = b
  | [], b, h => by cases b <;> simp_all [sameK]
  | (k, x) :: r, b, h => by
    cases b with
    | nil => simp [sameK] at h
    | cons y s => obtain ⟨l, y⟩ := y; simp only [sameK, Bool.and_eq_true] at h; rw [sameD_eq h.1, sameD_eq h.2.1, sameK_eq h.2.2]
theorem sameF_eq : ∀ {a b : List (Str × D)}, sameF a b = true → a = b
  | [], b, h => by cases b <;> simp_all [sameF]
  | (k, x) :: r, b, h => by
    cases b with
    | nil => simp [sameF] at h
    | cons y s => obtain ⟨l, y⟩ := y; simp only [sameF, Bool.and_eq_true, decide_eq_true_eq] at h; rw [h.1, sameD_eq h.2.1, sameF_eq h.2.2]
end
mutual
theorem sameD_refl : ∀ a : D, sameD a a = true
  | .non => by simp [sameD]
  | .bl a => by simp [sameD]
  | .int a => by simp [sameD]
  | .str a => by simp [sameD]
  | .tup a => by simp [sameD, sameL_refl a]
  | .lst a => by simp [sameD, sameL_refl a]
  | .dic a => by simp [sameD, sameK_refl a]
  | .ins c a => by simp [sameD, sameF_refl a]
theorem sameL_refl : ∀ a : List D, sameL a a = true
  | [] => by simp [sameL]
  | x :: r => by simp [sameL, sameD_refl x, sameL_refl r]
theorem sameK_refl : ∀ a : List (D × D), sameK a a = true
  | [] => by simp [sameK]
  | (k, x) :: r => by simp [sameK, sameD_refl k, sameD_refl x, sameK_refl r]
theorem sameF_refl : ∀ a : List (Str × D), sameF a a = true
  | [] => by simp [sameF]
  | (k, x) :: r => by simp [sameF, sameD_refl x, sameF_refl r]
end
mutual
def sameW : W → W → Bool
  | .d a, .d b => sameD a b
  | .ref i, .ref j => decide (i = j)
  | .tup a, .tup b => sameWL a b
  | _, _ => false
def sameWL : List W → List W → Bool
  | [], [] => true
  | a :: r, b :: s => sameW a b && sameWL r s
  | _, _ => false
end
mutual
theorem sameW_eq : ∀ {a b : W}, sameW a b = true → a = b
  | .d a, b, h => by
    cases b with
    | d c => simp only [sameW] at h; rw [sameD_eq h]
    | _ => simp [sameW] at h
  | .ref a, b, h => by cases b <;> simp_all [sameW]
  | .tup a, b, h => by
    cases b with
    | tup c => simp only [sameW] at h; rw [sameWL_eq h]
    | _ => simp [sameW] at h
theorem sameWL_eq : ∀ {a b : List W}, sameWL a b = true → a = b
  | [], b, h => by cases b <;> simp_all [sameWL]
  | x :: r, b, h => by
    cases b with
    | nil => simp [sameWL] at h
    | cons y s => simp only [sameWL, Bool.and_eq_true] at h; rw [sameW_eq h.1, sameWL_eq h.2]
end

/-! ### types, isinstance -/
inductive Ty where
  | non | bl | int | str | tup | lst | dic
  deriving DecidableEq
def Ty.name : Ty → String
  | .non => "NoneType" | .bl => "bool" | .int => "int" | .str => "str" | .tup => "tuple" | .lst => "list" | .dic => "dict"
def Ty.sub (a b : Ty) : Bool := decide (a = b) || (decide (a = .bl) && decide (b = .int))
theorem Ty.kit (a b : Ty) (h : b ≠ .non) : kitB a.name b.name = some (a.sub b) := by
  cases a <;> cases b <;> first | exact absurd rfl h | decide +kernel
def tyD : D → Option Ty
  | .non => some .non | .bl _ => some .bl | .int _ => some .int | .str _ => some .str | .tup _ => some .tup | .lst _ => some .lst | .dic _ => none | .ins _ _ => none
def tyW : W → Hg → Option Ty
  | .d x, _ => tyD x
  | .tup _, _ => some .tup
  | .ref i, G => match G[i]? with
    | some (.lst _) => some .lst
    | some (.dic _ _) => some .dic
    | _ => none
theorem tyX_tup {K : PySem.W.Frag} {H : Hp} {a : Addr} {xs : List V} (h : SqT K H a xs) : TyX K H (.ref a) (.type "tuple") := by
  rcases h with (h | ⟨o, h⟩) | ⟨o, its, n, h1, h2, h3, h4, h5⟩
  · exact .base (.tup h)
  · exact .fTuple h
  · exact .kTuple h1 h2
theorem tyX_lst {K : PySem.W.Frag} {H : Hp} {a : Addr} {xs : List V} (h : SqL K H a xs) : TyX K H (.ref a) (.type "list") := by
  rcases h with (h | ⟨o, h⟩) | ⟨o, its, n, h1, h2, h3, h4, h5⟩
  · exact .base (.lst h)
  · exact .base (.frz h)
  · exact .kList h1 h2
theorem Sim.ty {C : GC} {F H : Hp} {ι : Nat → Addr} {G : Hg} {w : W} {t : Ty} {v : V} (s : Sim C F H ι G) (e : tyW w G = some t) (r : RpW C.m F ι G.length w v) : TyX C.m.K H v (.type t.name) := by
  cases w with
  | d x =>
    simp only [RpW] at r
    cases x with
    | non => cases e; simp only [Rp] at r; subst r; exact .base .non
    | bl b => cases e; simp only [Rp] at r; subst r; exact .base (.bl b)
    | int b => cases e; simp only [Rp] at r; subst r; exact .base (.int b)
    | str b => cases e; simp only [Rp] at r; subst r; exact .base (.str b)
    | tup b => cases e; simp only [Rp] at r; obtain ⟨a, xs, rfl, h, _⟩ := r; exact tyX_tup (Same.sqT s.fh h)
    | lst b => cases e; simp only [Rp] at r; obtain ⟨a, xs, rfl, h, _⟩ := r; exact tyX_lst (Same.sqL s.fh h)
    | dic b => cases e
    | ins c b => cases e
  | tup ws => cases e; simp only [RpW] at r; obtain ⟨a, xs, rfl, h, _⟩ := r; exact tyX_tup (Same.sqT s.fh h)
  | ref i =>
    simp only [RpW] at r
    obtain ⟨hi, rfl⟩ := r
    simp only [tyW] at e
    cases q : G[i]? with
    | none => rw [q] at e; cases e
    | some o =>
      rw [q] at e
      cases o with
      | lst ws => cases e; obtain ⟨_, _, xs, h, _⟩ := s.live i _ q (fun z => by cases z); exact .base (.lst h)
      | dic t kvs =>
        cases e
        obtain ⟨_, _, h⟩ := s.live i _ q (fun z => by cases z)
        cases t with
        | false => obtain ⟨es, h, _⟩ := h; exact .base (.dK h)
        | true => obtain ⟨es, h, _⟩ := h; exact .base (.dT h)
      | _ => cases e
def gIsi (ts : List Ty) (a : GE) : GE := fun ρ G => (a ρ G).bind fun w G1 => match tyW w G1 with
  | some t => .ok (.d (.bl (ts.any fun u => t.sub u))) G1
  | none => .stuck
theorem kitAny_ty {K : PySem.W.Frag} {t : Ty} : ∀ {ts : List Ty}, (∀ u ∈ ts, u ≠ .non) → PySem.W.kitAny K (.type t.name) (ts.map fun u => Value.type u.name) = some (ts.any fun u => t.sub u)
  | [], _ => rfl
  | u :: ts, h => by
    have h1 := kit_ty (K := K) (Ty.kit t u (h u List.mem_cons_self))
    have h2 := kitAny_ty (K := K) (t := t) (ts := ts) fun u hu => h u (List.mem_cons_of_mem _ hu)
    rw [List.map_cons, List.any_cons]
    refine kitAny_cons h1 (fun b => ?_) fun b => by rw [b]; rfl
    rw [b, Bool.false_or]
    exact h2
section
variable {X : Cx} {e : Expr} {ge : GE} {p p1 p2 pos : Pos}
theorem ge_isi (t : Ty) {x : Str} (hm : X.mg "isinstance" = none) (hx : X.mg x = none) (he : GJE X e ge) (hv : bootBuiltins x = some (.type t.name) := by decide +kernel) (ht : t ≠ .non := by decide) (hg : Gl X "isinstance" := by rfl) (hgx : Gl X x := by rfl) (hn : x ≠ "__name__" := by decide) (hd : (x == ("__debug__" : Str)) = false := by decide)
    (hs : starEach [e, .Name x p1] X.env = (false, eval e X.env) :: starEach [.Name x p1] X.env := by rfl) (hs2 : starEach [.Name x p1] X.env = (false, eval (.Name x p1) X.env) :: starEach [] X.env := by rfl) (hpl : (backTo pos (starEach [.Name x p1] X.env)).any (·.1) = false := by rfl) :
    GJE X (.Call (.Name "isinstance" p) [e, .Name x p1] [] pos) (gIsi [t] ge) := ⟨fun B F0 wx tk => by
  refine PE.imp (pe_callB call_isi hg hm (by decide +kernel) (pa_cons (he.run B F0 wx tk) (pa_cons (pe_bltn (v := .ty t.name) hgx hx hv rfl hn hd) pa_nil hs2) hs) (by decide) (by decide) hs hpl) fun σ H Q ⟨F, ι, ρ, G, s, hr, hp⟩ => ?_
  refine ⟨F, ι, ρ, G, s, hr, (Post.fst hp).imp fun v H1 ⟨F1, ι1, w, G1, e1, s1, r1, q1⟩ => ?_⟩
  cases q : tyW w G1 with
  | none => rw [q] at q1; exact q1.elim
  | some u =>
    rw [q] at q1
    refine ⟨v, .ty t.name, _, _, _, rfl, .ty _, s1.ty q r1, kit_ty (Ty.kit u t ht), q1 _ _ (out_flat s1 ?_)⟩
    rw [List.any_cons, List.any_nil, Bool.or_false]
    exact rpB⟩
/-- the classes of a display -/
inductive TyNames (X : Cx) : List Expr → List Ty → Prop where
  | nil : TyNames X [] []
  | cons {x : Str} {p : Pos} {es : List Expr} {t : Ty} {ts : List Ty} (hv : bootBuiltins x = some (.type t.name)) (hx : X.mg x = none) (hg : Gl X x) (hn : x ≠ "__name__") (hd : (x == ("__debug__" : Str)) = false) (ht : t ≠ .non)
      (hs : starEach (.Name x p :: es) X.env = (false, eval (.Name x p) X.env) :: starEach es X.env) (r : TyNames X es ts) : TyNames X (.Name x p :: es) (t :: ts)
theorem TyNames.pa : ∀ {es : List Expr} {ts : List Ty}, TyNames X es ts → PA X es (fun σ H Q => Q (ts.map fun t => V.ty t.name) H)
  | _, _, .nil => pa_nil
  | _, _, .cons hv hx hg hn hd ht hs r => PA.imp (pa_cons (pe_bltn (v := .ty _) hg hx hv rfl hn hd) r.pa hs) fun _ _ _ h => h
theorem TyNames.ok {es : List Expr} {ts : List Ty} (h : TyNames X es ts) : ∀ u ∈ ts, u ≠ .non := by
  induction h with
  | nil => intro u hu; cases hu
  | cons _ _ _ _ _ ht _ _ ih =>
    intro u hu
    rcases List.mem_cons.mp hu with z | z
    · rw [z]; exact ht
    · exact ih u z
theorem cls_pair : ∀ ts : List Ty, Paired ClsV (ts.map fun t => V.ty t.name) (ts.map fun t => Value.type t.name)
  | [] => .nil
  | t :: ts => .cons (.ty _) (cls_pair ts)
theorem ge_isiT (ts : List Ty) {es : List Expr} {k : Nat} (hm : X.mg "isinstance" = none) (he : GJE X e ge) (ht : TyNames X es ts) (hl : ts.length ≤ sizeLine := by decide) (hg : Gl X "isinstance" := by rfl)
    (hs : starEach [e, .Tuple es k p1] X.env = (false, eval e X.env) :: starEach [.Tuple es k p1] X.env := by rfl) (hs2 : starEach [.Tuple es k p1] X.env = (false, eval (.Tuple es k p1) X.env) :: starEach [] X.env := by rfl) (hpl : (backTo pos (starEach [.Tuple es k p1] X.env)).any (·.1) = false := by rfl) :
    GJE X (.Call (.Name "isinstance" p) [e, .Tuple es k p1] [] pos) (gIsi ts ge) := ⟨fun B F0 wx tk => by
  refine PE.imp (pe_callB call_isiT hg hm (by decide +kernel) (pa_cons (he.run B F0 wx tk) (pa_cons (pe_tup ht.pa) pa_nil hs2) hs) (by decide) (by decide) hs hpl) fun σ H Q ⟨F, ι, ρ, G, s, hr, hp⟩ => ?_
  refine ⟨F, ι, ρ, G, s, hr, (Post.fst hp).imp fun v H1 ⟨F1, ι1, w, G1, e1, s1, r1, q1⟩ => ?_⟩
  cases q : tyW w G1 with
  | none => rw [q] at q1; exact q1.elim
  | some u =>
    rw [q] at q1
    refine ⟨by rw [List.length_map]; exact hl, fun tp htp => ?_⟩
    have s2 := s1.drop (o := .tup (ts.map fun t => V.ty t.name)) htp
    exact ⟨v, tp, _, _, _, _, rfl, upd_same, cls_pair ts, s2.ty q r1, kitAny_ty ht.ok, q1 _ _ (out_flat s2 rpB)⟩⟩
end

/-! ### len, int, list, tuple -/
def strOf : W → Option Str
  | .d (.str x) => some x
  | _ => none
theorem strOf_eq {w : W} {x : Str} (h : strOf w = some x) : w = .d (.str x) := by
  cases w with
  | d y =>
    cases y with
    | str z => cases h; rfl
    | _ => cases h
  | _ => cases h
def fLen1 (w : W) (G : Hg) : Option (W × Hg) := match strOf w with
  | some x => if small x.length then some (.d (.int x.length), G) else none
  | none => (seqW w G).map fun p => (.d (.int p.2.length), G)
def fLen : List W → Hg → Option (W × Hg)
  | [w], G => fLen1 w G
  | _, _ => none
def rLenA (K : PySem.W.Frag) : List V → Hp → VK → Prop := fun xs H Q => (∃ p ys, xs = [.ref p] ∧ (SqL K H p ys ∨ SqT K H p ys) ∧ Q (.int ys.length) H) ∨ (∃ z, xs = [.str z] ∧ z.length ≤ sizeLine ∧ Q (.int z.length) H)
theorem RpWL.inv1 {M : Md} {F : Hp} {ι : Nat → Addr} {n : Nat} {w : W} {xs : List V} (r : RpWL M F ι n [w] xs) : ∃ x, xs = [x] ∧ RpW M F ι n w x := by
  simp only [RpWL] at r
  obtain ⟨x, _, rfl, h, rfl⟩ := r
  exact ⟨x, rfl, h⟩
theorem RpWL.inv2 {M : Md} {F : Hp} {ι : Nat → Addr} {n : Nat} {w u : W} {xs : List V} (r : RpWL M F ι n [w, u] xs) : ∃ x y, xs = [x, y] ∧ RpW M F ι n w x ∧ RpW M F ι n u y := by
  simp only [RpWL] at r
  obtain ⟨x, _, rfl, h, y, _, rfl, h2, rfl⟩ := r
  exact ⟨x, y, rfl, h, h2⟩
theorem sq_or {K : PySem.W.Frag} {H : Hp} {a : Addr} {xs : List V} {b : Bool} (h : if b = true then SqL K H a xs else SqT K H a xs) : SqL K H a xs ∨ SqT K H a xs := by
  cases b with
  | true => exact .inl (by simpa using h)
  | false => exact .inr (by simpa using h)
section
variable {X : Cx}
theorem call_lenA : CallR X (.builtin "len") (rLenA X.K) := call_len_seq.or call_len_str
theorem cg_len : CallG X (rLenA X.K) fLen := by
  intro C F H ι G ws xs z G' Q hK s r e hQ
  cases ws with
  | nil => cases e
  | cons w t =>
    cases t with
    | cons _ _ => cases e
    | nil =>
      obtain ⟨x, rfl, r1⟩ := r.inv1
      have e' : fLen1 w G = some (z, G') := e
      unfold fLen1 at e'
      cases q : strOf w with
      | some y =>
        rw [q] at e'
        have hw := strOf_eq q
        subst hw
        simp only [RpW, Rp] at r1
        subst r1
        cases c : small y.length with
        | false => simp only [c] at e'; cases e'
        | true => simp only [c, if_true] at e'; cases e'; exact .inr ⟨y, rfl, small_le c, hQ _ _ (out_flat s rpI)⟩
      | none =>
        rw [q] at e'
        obtain ⟨p, q2, e2⟩ := map_some (show (seqW w G).map (fun p => (W.d (.int p.2.length), G)) = some (z, G') from e')
        cases e2
        obtain ⟨b, us⟩ := p
        obtain ⟨a, ys, rfl, h1, h2⟩ := s.seq q2 r1
        rw [hK] at h1
        exact .inl ⟨a, ys, rfl, sq_or h1, hQ _ _ (out_flat s (by rw [h2.length]; exact rpI))⟩
def fInt : List W → Hg → Option (W × Hg)
  | [.d (.int i)], G => some (.d (.int i), G)
  | [.d (.bl b)], G => some (.d (.int (if b then 1 else 0)), G)
  | _, _ => none
theorem cg_int : CallG X (fun xs H Q => (∃ i, xs = [.int i] ∧ Q (.int i) H) ∨ ∃ k, xs = [.bl k] ∧ Q (.int (if k then 1 else 0)) H) fInt := by
  intro C F H ι G ws xs z G' Q hK s r e hQ
  unfold fInt at e
  split at e
  · cases e
    obtain ⟨x, rfl, r1⟩ := r.inv1
    simp only [RpW, Rp] at r1
    subst r1
    exact .inl ⟨_, rfl, hQ _ _ (out_flat s rpI)⟩
  · cases e
    obtain ⟨x, rfl, r1⟩ := r.inv1
    simp only [RpW, Rp] at r1
    subst r1
    exact .inr ⟨_, rfl, hQ _ _ (out_flat s rpI)⟩
  · cases e
/-- list(x): a new list that may be changed; a tree -/
def fListN : List W → Hg → Option (W × Hg)
  | [w], G => (seqW w G).map fun p => (.ref G.length, G ++ [.lst p.2])
  | _, _ => none
def fListT : List W → Hg → Option (W × Hg)
  | [w], G => (seqW w G).bind fun p => (mkLst p.2).map fun z => (z, G)
  | _, _ => none
theorem cg_listN : CallG X (fun xs H Q => ∃ p ys, xs = [.ref p] ∧ (SqL X.K H p ys ∨ SqT X.K H p ys) ∧ ∀ l, H l = none → Q (.ref l) (upd H l (.lst ys))) fListN := by
  intro C F H ι G ws xs z G' Q hK s r e hQ
  unfold fListN at e
  split at e
  · obtain ⟨p, q, e⟩ := map_some e
    cases e
    obtain ⟨x, rfl, r1⟩ := r.inv1
    obtain ⟨b, us⟩ := p
    obtain ⟨a, ys, rfl, h1, h2⟩ := s.seq q r1
    rw [hK] at h1
    exact ⟨a, ys, rfl, sq_or h1, fun l hl => hQ _ _ (out_new s h2 hl)⟩
  · cases e
theorem cg_listT : CallG X (fun xs H Q => ∃ p ys, xs = [.ref p] ∧ (SqL X.K H p ys ∨ SqT X.K H p ys) ∧ ∀ l, H l = none → Q (.ref l) (upd H l (.lst ys))) fListT := by
  intro C F H ι G ws xs z G' Q hK s r e hQ
  unfold fListT at e
  split at e
  · rename_i w
    cases q : seqW w G with
    | none => rw [q] at e; cases e
    | some p =>
      rw [q] at e
      obtain ⟨z', q2, e⟩ := map_some (show (mkLst p.2).map (fun z => (z, G)) = some (z, G') from e)
      cases e
      obtain ⟨ds, q3, rfl⟩ := map_some q2
      obtain ⟨x, rfl, r1⟩ := r.inv1
      obtain ⟨b, us⟩ := p
      obtain ⟨a, ys, rfl, h1, h2⟩ := s.seq q r1
      rw [hK] at h1
      exact ⟨a, ys, rfl, sq_or h1, fun l hl => hQ _ _ (out_lst s (allD_rp q3 h2) hl)⟩
  · cases e
def fTuple : List W → Hg → Option (W × Hg)
  | [w], G => match seqW w G with
    | some (true, ws) => some (mkTup ws, G)
    | some (false, _) => some (w, G)
    | none => none
  | _, _ => none
theorem cg_tuple : CallG X (fun xs H Q => ∃ p ys, xs = [.ref p] ∧ ((SqL X.K H p ys ∧ ∀ l, H l = none → Q (.ref l) (upd H l (.tup ys))) ∨ (SqT X.K H p ys ∧ Q (.ref p) H))) fTuple := by
  intro C F H ι G ws xs z G' Q hK s r e hQ
  unfold fTuple at e
  split at e
  · rename_i w
    cases q : seqW w G with
    | none => rw [q] at e; cases e
    | some p =>
      rw [q] at e
      obtain ⟨x, rfl, r1⟩ := r.inv1
      obtain ⟨b, us⟩ := p
      obtain ⟨a, ys, rfl, h1, h2⟩ := s.seq q r1
      rw [hK] at h1
      cases b with
      | true =>
        cases e
        exact ⟨a, ys, rfl, .inl ⟨h1, fun l hl => hQ _ _ (out_tup s h2 hl)⟩⟩
      | false =>
        cases e
        exact ⟨a, ys, rfl, .inr ⟨h1, hQ _ _ (out_w s r1)⟩⟩
  · cases e
/-! ### xs[i], xs[i:j] -/
def rIxA (K : PySem.W.Frag) : R2 := fun x y H Q => rIxL K x y H Q ∨ rIxT K x y H Q
theorem ix_A : IxR X (rIxA X.K) := ix_list.or ix_tup
def fIx (w u : W) (G : Hg) : Option (W × Hg) := match seqW w G, u with
  | some (_, ws), .d (.int i) => (atI ws i).map fun z => (z, G)
  | _, _ => none
theorem atI_rp {M : Md} {F : Hp} {ι : Nat → Addr} {n : Nat} {ws : List W} {xs : List V} {i : Int} {w : W} (r : RpWL M F ι n ws xs) (h : atI ws i = some w) : ∃ x, atI xs i = some x ∧ RpW M F ι n w x := by
  unfold atI at h ⊢
  rw [r.length] at h
  cases q : ixN xs.length i with
  | none => rw [q] at h; cases h
  | some j =>
    rw [q] at h
    exact r.get h
theorem og_ix : OpG X (rIxA X.K) fIx := by
  intro C F H ι G w u x y z G' Q hK s rw_ ru e hQ
  unfold fIx at e
  cases q : seqW w G with
  | none => rw [q] at e; cases e
  | some p =>
    obtain ⟨b, ws⟩ := p
    rw [q] at e
    cases u with
    | d k =>
      cases k with
      | int i =>
        obtain ⟨w', q2, e⟩ := map_some (show (atI ws i).map (fun z => (z, G)) = some (z, G') from e)
        cases e
        simp only [RpW, Rp] at ru
        subst ru
        obtain ⟨a, xs, rfl, h1, h2⟩ := s.seq q rw_
        rw [hK] at h1
        obtain ⟨v, h3, h4⟩ := atI_rp h2 q2
        rcases sq_or h1 with h | h
        · exact .inl ⟨a, xs, i, v, rfl, rfl, h, h3, hQ _ _ (out_w s h4)⟩
        · exact .inr ⟨a, xs, i, v, rfl, rfl, h, h3, hQ _ _ (out_w s h4)⟩
      | _ => cases e
    | _ => cases e
end
/-- a part of a slice -/
abbrev GO1 := GEnv → Hg → Res (Option Int)
structure GJO (X : Cx) (e : Option Expr) (g : GO1) : Prop where
  run : ∀ B F0 wx, Takes X wx → PO X e (fun σ H Q => ∃ F ι ρ G, Sim (gc X B F0 wx) F H ι G ∧ REnv (md X) F ι G.length ρ σ ∧ match g ρ G with
    | .stuck => False
    | .exc x G' => ∀ cls d H', XOut (gc X B F0 wx) F ι G.length x G' cls d H' → wx cls d σ H'
    | .ok o G' => ∀ H' F' ι', Ext F ι G.length F' ι' G'.length → Sim (gc X B F0 wx) F' H' ι' G' → Q o H')
def gNoP : GO1 := fun _ G => .ok none G
def gPt (e : GE) : GO1 := fun ρ G => (e ρ G).bind fun w G' => match w with
  | .d (.int i) => .ok (some i) G'
  | _ => .stuck
theorem PO.imp {X : Cx} {e : Option Expr} {t t' : TO} (h : PO X e t) (k : ∀ σ H Q, t' σ H Q → t σ H Q) : PO X e t' := by
  obtain ⟨h⟩ := h
  exact ⟨fun pins s σ H Q I q => h pins s σ H Q I (k _ _ _ q)⟩
section
variable {X : Cx} {e a : Expr} {lo hi : Option Expr} {ga ge : GE} {gl gh : GO1} {p2 pos : Pos}
theorem gp_none : GJO X none gNoP := ⟨fun B F0 wx tk => PO.imp po_none fun σ H Q ⟨F, ι, ρ, G, s, he, hp⟩ => hp H F ι .refl s⟩
theorem gp_some (h : GJE X e ge) : GJO X (some e) (gPt ge) := ⟨fun B F0 wx tk => PO.imp (po_some (h.run B F0 wx tk)) fun σ H Q ⟨F, ι, ρ, G, s, he, hp⟩ => by
  refine ⟨F, ι, ρ, G, s, he, ?_⟩
  unfold gPt at hp
  cases q : ge ρ G with
  | stuck => rw [q] at hp; exact hp
  | exc x G' => rw [q] at hp; exact hp
  | ok w G' =>
    rw [q] at hp
    rintro v H' ⟨F', ι', e1, s1, r1⟩
    cases w with
    | d k =>
      cases k with
      | int i =>
        simp only [RpW, Rp] at r1
        exact ⟨i, r1, hp H' F' ι' e1 s1⟩
      | _ => exact hp.elim
    | _ => exact hp.elim⟩
def cutW (ws : List W) (lo hi : Option Int) : List W := (ws.drop (HT.sIx ws.length 0 lo)).take (HT.sIx ws.length ws.length hi - HT.sIx ws.length 0 lo)
def sliceEnd (w : W) (l u : Option Int) : Hg → Res W := fun G => match seqW w G with
  | some (true, ws) => (match mkLst (cutW ws l u) with
    | some z => .ok z G
    | none => .stuck)
  | some (false, ws) => if HT.sIx ws.length 0 l = 0 ∧ HT.sIx ws.length ws.length u = ws.length then .ok w G else .ok (mkTup (cutW ws l u)) G
  | none => .stuck
def gSlice (a : GE) (l h : GO1) : GE := fun ρ G => (a ρ G).bind fun w G1 => (l ρ G1).bind fun lo G2 => (h ρ G2).bind fun hi G3 => sliceEnd w lo hi G3
def rSlAll (K : PySem.W.Frag) : V → Option Int → Option Int → Hp → VK → Prop := fun x lo hi H Q => rSlL K x lo hi H Q ∨ rSlA K x lo hi H Q
theorem sl_all : SlR X (rSlAll X.K) := sl_list.or sl_tupA
theorem RpWL.cut {M : Md} {F : Hp} {ι : Nat → Addr} {n : Nat} {ws : List W} {xs : List V} (r : RpWL M F ι n ws xs) (lo hi : Option Int) : RpWL M F ι n (cutW ws lo hi) (cutV xs lo hi) := by
  unfold cutW cutV
  rw [r.length]
  exact (r.drop _).take _
theorem ge_slice (ha : GJE X a ga) (hl : GJO X lo gl) (hh : GJO X hi gh) : GJE X (.Subscript a (.Slice lo hi none p2) pos) (gSlice ga gl gh) := ⟨fun B F0 wx tk => by
  refine PE.imp (pe_slice sl_all (ha.run B F0 wx tk) (hl.run B F0 wx tk) (hh.run B F0 wx tk)) fun σ H Q ⟨F, ι, ρ, G, s, he, hp⟩ => ?_
  refine ⟨F, ι, ρ, G, s, he, (Post.fst hp).imp fun x H1 ⟨F1, ι1, w, G1, e1, s1, r1, p1⟩ => ⟨F1, ι1, ρ, G1, s1, he.mono e1, ?_⟩⟩
  cases ql : gl ρ G1 with
  | stuck => rw [ql] at p1; exact p1
  | exc x G' => rw [ql] at p1; exact p1
  | ok l G2 =>
    rw [ql] at p1
    refine fun H2 F2 ι2 e2 s2 => ⟨F2, ι2, ρ, G2, s2, (he.mono e1).mono e2, ?_⟩
    have p2 := Post.base e2 p1
    simp only [Res.bind] at p2
    cases qh : gh ρ G2 with
    | stuck => rw [qh] at p2; exact p2
    | exc x G' => rw [qh] at p2; exact p2
    | ok u G3 =>
      rw [qh] at p2
      refine fun H3 F3 ι3 e3 s3 => ?_
      have p3 := Post.base e3 p2
      simp only [sliceEnd] at p3
      have r3 := (r1.mono e2).mono e3
      cases q : seqW w G3 with
      | none => rw [q] at p3; exact p3.elim
      | some p =>
        obtain ⟨b, ws⟩ := p
        rw [q] at p3
        obtain ⟨a', xs, rfl, h1, h2⟩ := s3.seq q r3
        cases b with
        | true =>
          simp only at p3
          rw [if_pos rfl] at h1
          cases q2 : mkLst (cutW ws l u) with
          | none => rw [q2] at p3; exact p3.elim
          | some z =>
            rw [q2] at p3
            obtain ⟨ds, q3, rfl⟩ := map_some q2
            exact .inl ⟨a', xs, rfl, h1, fun p hp => p3 _ _ (out_lst s3 (allD_rp q3 (h2.cut l u)) hp)⟩
        | false =>
          simp only at p3
          rw [if_neg Bool.false_ne_true] at h1
          rw [h2.length] at p3
          refine .inr ⟨a', xs, rfl, h1, fun c => ?_, fun c p hp => ?_⟩
          · rw [if_pos c] at p3
            exact p3 _ _ (out_w s3 r3)
          · rw [if_neg c] at p3
            exact p3 _ _ (out_tup s3 (h2.cut l u) hp)⟩
end
end Gh

set_option Elab.async false
set_option linter.all false
set_option maxRecDepth 100000
set_option maxHeartbeats 4000000
namespace Gh
open PySem PySem.Spec PyProof.Rows L2

/-! ### what is walked -/
theorem PI.imp {X : Cx} {tg e : Expr} {t t' : TI} (h : PI X tg e t) (k : ∀ σ H Q, t' σ H Q → t σ H Q) : PI X tg e t' := ⟨fun pins s σ H R I q => h.run pins s σ H R I (k _ _ _ q)⟩
/-- a list or tuple -/
theorem pi_seq {X : Cx} {tg l : Expr} {tl : TE} (hl : PE X l tl) : PI X tg l (fun σ H R => tl σ H fun x H1 => ∃ a, x = .ref a ∧ ((∃ xs, SqL X.K H1 a xs ∧ R (Itl X.K a) H1) ∨ (∃ xs, SqT X.K H1 a xs ∧ R (Itt X.K a) H1))) := by
  refine ⟨fun pins s σ H R I h => ?_⟩
  refine thn (hl.run pins s σ H _ I h) fun v s1 ⟨x, H1, I1, r1, q1⟩ => ?_
  obtain ⟨a, e, q⟩ := q1
  subst e
  cases r1
  rcases q with ⟨xs, hq, q⟩ | ⟨xs, hq, q⟩
  · obtain ⟨its, rv, p, hz⟩ := I1.list hq
    refine wpAny_pyIter_list p.isList ?_
    refine ⟨s1.heap.objs.size, [s1.heap.objs.size], _, _, H1, rfl, I1.kept (t' := s1.toks) fun b o e => Heap.get?_push_of_some _ e, turn_list a _, ⟨_, Heap.get?_push_size _ rfl, rfl, rfl⟩, fun b hb => ?_, q⟩
    have e : b = s1.heap.objs.size := by simpa using hb
    subst e
    exact I1.fpOk (Nat.le_refl _) (I1.hok.fresh (Nat.le_refl _))
  · obtain ⟨its, rv, p, hz⟩ := I1.tuple hq
    refine wpAny_pyIter_tuple (show s1.heap.IsTuple a its.toArray from p) ?_
    refine ⟨s1.heap.objs.size, [s1.heap.objs.size], _, _, H1, rfl, I1.kept (t' := s1.toks) fun b o e => Heap.get?_push_of_some _ e, turn_tuple a _, ⟨_, Heap.get?_push_size _ rfl, rfl, rfl⟩, fun b hb => ?_, q⟩
    have e : b = s1.heap.objs.size := by simpa using hb
    subst e
    exact I1.fpOk (Nat.le_refl _) (I1.hok.fresh (Nat.le_refl _))
/-- what must stay of w while its items ws are walked -/
def ckW : W → List W → Hg → Bool
  | .ref i, ws, G => match G[i]? with
    | some (.lst us) => sameWL us ws
    | _ => false
  | _, _, _ => true
/-- w's items stand at a as long as ck holds -/
theorem seq_later {C C2 : GC} {F H F2 H2 : Hp} {ι ι2 : Nat → Addr} {G G2 : Hg} {w : W} {b : Bool} {ws : List W} {v : V} (s : Sim C F H ι G) (e : seqW w G = some (b, ws)) (r : RpW C.m F ι G.length w v) :
    ∃ a, v = .ref a ∧ ∀ (C2 : GC) (F2 H2 : Hp) (ι2 : Nat → Addr) (G2 : Hg), C2.m = C.m → Ext F ι G.length F2 ι2 G2.length → Sim C2 F2 H2 ι2 G2 → ckW w ws G2 = true → ∃ xs, (if b = true then SqL C.m.K H2 a xs else SqT C.m.K H2 a xs) ∧ RpWL C.m F2 ι2 G2.length ws xs := by
  cases w with
  | ref i =>
    simp only [RpW] at r
    obtain ⟨hi, rfl⟩ := r
    refine ⟨_, rfl, fun C2 F2 H2 ι2 G2 hm ee s2 c => ?_⟩
    have eb : b = true := by
      simp only [seqW] at e
      split at e
      · cases e; rfl
      · cases e
    simp only [ckW] at c
    cases q : G2[i]? with
    | none => rw [q] at c; cases c
    | some o =>
      rw [q] at c
      cases o with
      | lst us =>
        have z := sameWL_eq c
        subst z
        obtain ⟨_, _, xs, h1, h2⟩ := s2.live i _ q (fun z => by cases z)
        rw [ee.io i hi] at h1
        rw [hm] at h2
        exact ⟨xs, by rw [eb, if_pos rfl]; exact .inl (.inl h1), h2⟩
      | _ => cases c
  | d x =>
    simp only [RpW] at r
    cases x with
    | lst ds =>
      cases e
      simp only [Rp] at r
      obtain ⟨a, xs, h1, h2, h3⟩ := r
      exact ⟨a, h1, fun C2 F2 H2 ι2 G2 hm ee s2 c => ⟨xs, by rw [if_pos rfl]; exact Same.sqL s2.fh (Same.sqL ee.fr h2), (h3.mono ee.fr).wl⟩⟩
    | tup ds =>
      cases e
      simp only [Rp] at r
      obtain ⟨a, xs, h1, h2, h3⟩ := r
      exact ⟨a, h1, fun C2 F2 H2 ι2 G2 hm ee s2 c => ⟨xs, by rw [if_neg Bool.false_ne_true]; exact Same.sqT s2.fh (Same.sqT ee.fr h2), (h3.mono ee.fr).wl⟩⟩
    | _ => cases e
  | tup us =>
    cases e
    simp only [RpW] at r
    obtain ⟨a, xs, h1, h2, h3⟩ := r
    exact ⟨a, h1, fun C2 F2 H2 ι2 G2 hm ee s2 c => ⟨xs, by rw [if_neg Bool.false_ne_true]; exact Same.sqT s2.fh (Same.sqT ee.fr h2), h3.mono ee⟩⟩
theorem ckW_now {w : W} {G : Hg} {b : Bool} {ws : List W} (e : seqW w G = some (b, ws)) : ckW w ws G = true := by
  cases w with
  | ref i =>
    simp only [seqW] at e
    simp only [ckW]
    cases q : G[i]? with
    | none => rw [q] at e; cases e
    | some o =>
      rw [q] at e
      cases o with
      | lst us =>
        cases e
        have : ∀ us : List W, sameWL us us = true := by
          intro us
          have hw : ∀ w : W, sameW w w = true := by
            intro w
            refine W.rec (motive_1 := fun w => sameW w w = true) (motive_2 := fun ws => sameWL ws ws = true) ?_ ?_ ?_ ?_ ?_ w
            · intro x; simp [sameW, sameD_refl]
            · intro i; simp [sameW]
            · intro ws h; simpa [sameW] using h
            · simp [sameWL]
            · intro a r h1 h2; simp [sameWL, h1, h2]
          induction us with
          | nil => simp [sameWL]
          | cons a r ih => simp [sameWL, hw a, ih]
        exact this ws
      | _ => cases e
  | _ => rfl
def gSeqI (a : GE) : GI := fun ρ G => (a ρ G).bind fun w G1 => match seqW w G1 with
  | some (_, ws) => .ok (ws, ckW w ws) G1
  | none => .stuck
section
variable {X : Cx} {tg l : Expr} {g : GE}
theorem PostI.fst {C : GC} {F : Hp} {ι : Nat → Addr} {n : Nat} {σ : L2.St} {r : Res W} {k : W → Hg → Res (List W × (Hg → Bool))} {R : It → Hp → Prop} (h : PostI C F ι n σ (r.bind k) R) :
    Post C F ι n σ r fun v H1 => ∃ F1 ι1 w G1, Ext F ι n F1 ι1 G1.length ∧ Sim C F1 H1 ι1 G1 ∧ RpW C.m F1 ι1 G1.length w v ∧ PostI C F1 ι1 G1.length σ (k w G1) R := by
  cases r with
  | stuck => exact h
  | exc x G' => exact h
  | ok w G' =>
    refine fun v H' ⟨F1, ι1, e, s, rr⟩ => ⟨F1, ι1, w, G', e, s, rr, ?_⟩
    have h : PostI C F ι n σ (k w G') R := h
    cases q : k w G' with
    | stuck => rw [q] at h; exact h
    | exc x G2 => rw [q] at h; exact fun cls d H2 o => h cls d H2 (o.base e)
    | ok p G2 =>
      rw [q] at h
      obtain ⟨ws, ck⟩ := p
      exact fun J H2 F2 ι2 e2 s2 it => h J H2 F2 ι2 (e.trans e2) s2 it
theorem gi_seq (h : GJE X l g) : GJI X tg l (gSeqI g) := ⟨fun B F0 wx tk => by
  refine PI.imp (pi_seq (h.run B F0 wx tk)) fun σ H R ⟨F, ι, ρ, G, s, he, hp⟩ => ?_
  refine ⟨F, ι, ρ, G, s, he, (PostI.fst hp).imp fun v H1 ⟨F1, ι1, w, G1, e1, s1, r1, p1⟩ => ?_⟩
  cases q : seqW w G1 with
  | none => rw [q] at p1; exact p1.elim
  | some p =>
    obtain ⟨b, ws⟩ := p
    rw [q] at p1
    obtain ⟨a, rfl, later⟩ := seq_later (C2 := gc X B F0 wx) (F2 := F1) (H2 := H1) (ι2 := ι1) (G2 := G1) s1 q r1
    obtain ⟨xs, h1, h2⟩ := later _ _ _ _ _ rfl .refl s1 (ckW_now q)
    refine ⟨a, rfl, ?_⟩
    cases b with
    | true =>
      rw [if_pos rfl] at h1
      refine .inl ⟨xs, h1, p1 _ H1 F1 ι1 .refl s1 fun C2 F2 H2 ι2 G2 hm ee s2 c => ?_⟩
      obtain ⟨ys, h3, h4⟩ := later C2 F2 H2 ι2 G2 hm ee s2 c
      rw [if_pos rfl] at h3
      refine ⟨fun i w hi => ?_, ⟨ys, h3, by rw [h4.length]; exact Nat.le_refl _⟩⟩
      obtain ⟨x, hx, rx⟩ := h4.get hi
      refine ⟨⟨ys, x, h3, hx⟩, fun y H3 ⟨eH, hy⟩ => ⟨F2, .refl, by rw [eH]; exact s2, ?_⟩⟩
      have z := hy ys h3
      rw [hx] at z
      cases z
      exact rx
    | false =>
      rw [if_neg Bool.false_ne_true] at h1
      refine .inr ⟨xs, h1, p1 _ H1 F1 ι1 .refl s1 fun C2 F2 H2 ι2 G2 hm ee s2 c => ?_⟩
      obtain ⟨ys, h3, h4⟩ := later C2 F2 H2 ι2 G2 hm ee s2 c
      rw [if_neg Bool.false_ne_true] at h3
      refine ⟨fun i w hi => ?_, ⟨ys, h3, by rw [h4.length]; exact Nat.le_refl _⟩⟩
      obtain ⟨x, hx, rx⟩ := h4.get hi
      refine ⟨⟨ys, x, h3, hx⟩, fun y H3 ⟨eH, hy⟩ => ⟨F2, .refl, by rw [eH]; exact s2, ?_⟩⟩
      have z := hy ys h3
      rw [hx] at z
      cases z
      exact rx⟩
end
def fit62 (i : Int) : Bool := decide (-(2 ^ 62) ≤ i) && decide (i < 2 ^ 62)
def rangeW (lo : Int) (n : Nat) : List W := (List.range n).map fun k => .d (.int (lo + (k : Nat)))
def gRng1 (a : GEs) : GI := fun ρ G => (a ρ G).bind fun ws G1 => match ws with
  | [.d (.int j)] => if fit62 j then .ok (rangeW 0 j.toNat, fun _ => true) G1 else .stuck
  | _ => .stuck
def gRng2 (a : GEs) : GI := fun ρ G => (a ρ G).bind fun ws G1 => match ws with
  | [.d (.int i), .d (.int j)] => if fit62 i && fit62 j then .ok (rangeW i (j - i).toNat, fun _ => true) G1 else .stuck
  | _ => .stuck
theorem rangeW_get {lo : Int} {n i : Nat} {w : W} (h : (rangeW lo n)[i]? = some w) : i < n ∧ w = .d (.int (lo + (i : Nat))) := by
  unfold rangeW at h
  rw [List.getElem?_map] at h
  rcases Nat.lt_or_ge i n with z | z
  · rw [List.getElem?_range z] at h
    cases h
    exact ⟨z, rfl⟩
  · rw [List.getElem?_eq_none (by simpa using z)] at h; cases h
theorem rangeW_len {lo : Int} {n : Nat} : (rangeW lo n).length = n := by simp [rangeW]
theorem itg_range {M : Md} {lo : Int} {n : Nat} {F : Hp} {ι : Nat → Addr} {m : Nat} : ItG M (Itr lo n) F ι m (rangeW lo n) (fun _ => true) := by
  intro C F2 H2 ι2 G2 hm ee s2 c
  refine ⟨fun i w hi => ?_, by rw [rangeW_len]; exact Nat.le_refl _⟩
  obtain ⟨h1, rfl⟩ := rangeW_get hi
  exact ⟨h1, fun x H3 ⟨e1, e2⟩ => ⟨F2, .refl, by rw [e1]; exact s2, by rw [e2]; simp only [RpW, Rp]⟩⟩
theorem PostL.fstI {C : GC} {F : Hp} {ι : Nat → Addr} {n : Nat} {σ : L2.St} {r : Res (List W)} {k : List W → Hg → Res (List W × (Hg → Bool))} {R : It → Hp → Prop} (h : PostI C F ι n σ (r.bind k) R) :
    PostL C F ι n σ r fun v H1 => ∃ F1 ι1 w G1, Ext F ι n F1 ι1 G1.length ∧ Sim C F1 H1 ι1 G1 ∧ RpWL C.m F1 ι1 G1.length w v ∧ PostI C F1 ι1 G1.length σ (k w G1) R := by
  cases r with
  | stuck => exact h
  | exc x G' => exact h
  | ok w G' =>
    refine fun v H' ⟨F1, ι1, e, s, rr⟩ => ⟨F1, ι1, w, G', e, s, rr, ?_⟩
    have h : PostI C F ι n σ (k w G') R := h
    cases q : k w G' with
    | stuck => rw [q] at h; exact h
    | exc x G2 => rw [q] at h; exact fun cls d H2 o => h cls d H2 (o.base e)
    | ok p G2 =>
      rw [q] at h
      obtain ⟨ws, ck⟩ := p
      exact fun J H2 F2 ι2 e2 s2 it => h J H2 F2 ι2 (e.trans e2) s2 it
section
variable {X : Cx} {tg : Expr} {a b : Expr} {gs : GEs} {p pos : Pos}
theorem gi_range1 (hm : X.mg "range" = none) (ha : GJA X [a] gs) (hg : Gl X "range" := by rfl) (hs : starEach [a] X.env = [(false, eval a X.env)] := by rfl) : GJI X tg (.Call (.Name "range" p) [a] [] pos) (gRng1 gs) := ⟨fun B F0 wx tk => by
  refine PI.imp (pi_range1 hg hm (ha.run B F0 wx tk) hs) fun σ H R ⟨F, ι, ρ, G, s, he, hp⟩ => ?_
  refine ⟨F, ι, ρ, G, s, he, (PostL.fstI hp).imp fun vs H1 ⟨F1, ι1, ws, G1, e1, s1, r1, p1⟩ => ?_⟩
  split at p1
  · rename_i j
    cases c : fit62 j with
    | false => rw [c] at p1; exact p1.elim
    | true =>
      rw [c, if_pos rfl] at p1
      unfold fit62 at c
      simp only [Bool.and_eq_true, decide_eq_true_eq] at c
      obtain ⟨x, rfl, r2⟩ := r1.inv1
      simp only [RpW, Rp] at r2
      subst r2
      exact ⟨j, rfl, c.1, c.2, p1 _ H1 F1 ι1 .refl s1 itg_range⟩
  · exact p1.elim⟩
theorem gi_range2 (hm : X.mg "range" = none) (ha : GJA X [a, b] gs) (hg : Gl X "range" := by rfl) (hs : starEach [a, b] X.env = [(false, eval a X.env), (false, eval b X.env)] := by rfl) (hs2 : starEach [b] X.env = [(false, eval b X.env)] := by rfl) : GJI X tg (.Call (.Name "range" p) [a, b] [] pos) (gRng2 gs) := ⟨fun B F0 wx tk => by
  refine PI.imp (pi_range2 hg hm (ha.run B F0 wx tk) hs hs2) fun σ H R ⟨F, ι, ρ, G, s, he, hp⟩ => ?_
  refine ⟨F, ι, ρ, G, s, he, (PostL.fstI hp).imp fun vs H1 ⟨F1, ι1, ws, G1, e1, s1, r1, p1⟩ => ?_⟩
  split at p1
  · rename_i i j
    cases c : (fit62 i && fit62 j) with
    | false => rw [c] at p1; exact p1.elim
    | true =>
      rw [c, if_pos rfl] at p1
      unfold fit62 at c
      simp only [Bool.and_eq_true, decide_eq_true_eq] at c
      obtain ⟨x, y, rfl, r2, r3⟩ := r1.inv2
      simp only [RpW, Rp] at r2 r3
      subst r2 r3
      exact ⟨i, j, rfl, ⟨c.1.1, c.1.2, c.2.1, c.2.2⟩, p1 _ H1 F1 ι1 .refl s1 itg_range⟩
  · exact p1.elim⟩
end
/-! enumerate(list): new pairs -/
def enumW : Nat → List W → List W
  | _, [] => []
  | i, w :: ws => mkTup [.d (.int (i : Nat)), w] :: enumW (i + 1) ws
theorem enumW_len : ∀ (i : Nat) (ws : List W), (enumW i ws).length = ws.length
  | _, [] => rfl
  | i, w :: ws => by simp [enumW, enumW_len (i + 1) ws]
theorem enumW_get : ∀ {k i : Nat} {ws : List W} {z : W}, (enumW k ws)[i]? = some z → ∃ w, ws[i]? = some w ∧ z = mkTup [.d (.int ((k + i : Nat) : Int)), w]
  | k, i, [], z, h => by simp [enumW] at h
  | k, 0, w :: ws, z, h => by simp [enumW] at h; exact ⟨w, rfl, by simpa using h.symm⟩
  | k, i + 1, w :: ws, z, h => by
    obtain ⟨w', h1, h2⟩ := enumW_get (k := k + 1) (i := i) (ws := ws) (by simpa [enumW] using h)
    exact ⟨w', by simpa using h1, by rw [h2]; congr 5; omega⟩
theorem yield_tup {C : GC} {F H : Hp} {ι : Nat → Addr} {G : Hg} {ws : List W} {xs : List V} {T : Addr} (s : Sim C F H ι G) (r : RpWL C.m F ι G.length ws xs) (h : H T = none) :
    ∃ F3, Ext F ι G.length F3 ι G.length ∧ Sim C F3 (upd H T (.tup xs)) ι G ∧ RpW C.m F3 ι G.length (mkTup ws) (.ref T) := by
  obtain ⟨s', e⟩ := s.lay (o := .tup xs) h
  refine ⟨_, e, s', ?_⟩
  unfold mkTup
  cases q : allD ws with
  | none =>
    simp only [RpW]
    exact ⟨T, xs, rfl, .inl (.inl upd_same), r.mono e⟩
  | some ds =>
    simp only [RpW, Rp]
    exact ⟨T, xs, rfl, .inl (.inl upd_same), (allD_rp q r).mono e.fr⟩
def gEnumI (a : GEs) : GI := fun ρ G => (a ρ G).bind fun ws G1 => match ws with
  | [w] => (match seqW w G1 with
    | some (true, us) => .ok (enumW 0 us, ckW w us) G1
    | _ => .stuck)
  | _ => .stuck
section
variable {X : Cx} {a b : Expr} {gs : GEs} {p pos tpos : Pos} {elts : List Expr} {kk : Nat}
theorem gi_enum (hm : X.mg "enumerate" = none) (ha : GJA X [a] gs) (hg : Gl X "enumerate" := by rfl) (hs : starEach [a] X.env = [(false, eval a X.env)] := by rfl) : GJI X (.Tuple elts kk tpos) (.Call (.Name "enumerate" p) [a] [] pos) (gEnumI gs) := ⟨fun B F0 wx tk => by
  refine PI.imp (pi_enum hg hm (ha.run B F0 wx tk) hs) fun σ H R ⟨F, ι, ρ, G, s, he, hp⟩ => ?_
  refine ⟨F, ι, ρ, G, s, he, (PostL.fstI hp).imp fun vs H1 ⟨F1, ι1, ws, G1, e1, s1, r1, p1⟩ => ?_⟩
  cases ws with
  | nil => exact p1.elim
  | cons w t =>
    cases t with
    | cons _ _ => exact p1.elim
    | nil =>
      obtain ⟨x, rfl, r2⟩ := r1.inv1
      simp only at p1
      cases q : seqW w G1 with
      | none => rw [q] at p1; exact p1.elim
      | some pr =>
        obtain ⟨bb, us⟩ := pr
        cases bb with
        | false => rw [q] at p1; exact p1.elim
        | true =>
          rw [q] at p1
          obtain ⟨l, rfl, later⟩ := seq_later (C2 := gc X B F0 wx) (F2 := F1) (H2 := H1) (ι2 := ι1) (G2 := G1) s1 q r2
          obtain ⟨xs, h1, h2⟩ := later _ _ _ _ _ rfl .refl s1 (ckW_now q)
          rw [if_pos rfl] at h1
          refine ⟨l, xs, rfl, h1, p1 _ H1 F1 ι1 .refl s1 fun C2 F2 H2 ι2 G2 hm ee s2 c => ?_⟩
          obtain ⟨ys, h3, h4⟩ := later C2 F2 H2 ι2 G2 hm ee s2 c
          rw [if_pos rfl] at h3
          refine ⟨fun i z hi => ?_, ⟨ys, h3, by rw [enumW_len, h4.length]; exact Nat.le_refl _⟩⟩
          obtain ⟨w', hw', rfl⟩ := enumW_get hi
          obtain ⟨y, hy, ry⟩ := h4.get hw'
          refine ⟨⟨ys, y, h3, hy⟩, fun v H3 ⟨T, y', ev, hT, eH, hall⟩ => ?_⟩
          have z := hall ys h3
          rw [hy] at z
          cases z
          subst ev eH
          rw [← hm]
          refine yield_tup (ws := [.d (.int ((0 + i : Nat) : Int)), w']) s2 ?_ hT
          rw [← hm] at ry
          simp only [RpWL, RpW, Rp, Nat.zero_add]
          exact ⟨_, _, rfl, rfl, _, _, rfl, ry, rfl⟩⟩
end

/-! ### list comprehensions -/
abbrev GTs := GT
structure GJTs (X : Cx) (e : List Expr) (g : GT) : Prop where
  run : ∀ B F0 wx, Takes X wx → PTs X e (gTT (gc X B F0 wx) g)
def gYes : GT := fun _ G => .ok true G
theorem PTs.imp {X : Cx} {e : List Expr} {t t' : TT} (h : PTs X e t) (k : ∀ σ H Q, t' σ H Q → t σ H Q) : PTs X e t' := ⟨fun pins s σ H Q I q => h.run pins s σ H Q I (k _ _ _ q)⟩
theorem gts_nil {X : Cx} : GJTs X [] gYes := ⟨fun B F0 wx tk => PTs.imp pts_nil fun σ H Q ⟨F, ι, ρ, G, s, he, hp⟩ => hp true H ⟨rfl, F, ι, .refl, s⟩⟩
theorem gts_one {X : Cx} {c : Expr} {g : GT} (h : GJT X c g) : GJTs X [c] g := ⟨fun B F0 wx tk => pts_one (h.run B F0 wx tk)⟩
def wipeG (ρ : GEnv) : List Nat → GEnv
  | [] => ρ
  | v :: vs => (wipeG ρ vs).set v none
theorem REnv.wipe {M : Md} {F : Hp} {ι : Nat → Addr} {n : Nat} {ρ : GEnv} {σ : L2.St} (h : REnv M F ι n ρ σ) : ∀ vs : List Nat, REnv M F ι n (wipeG ρ vs) (L2.wipe σ vs)
  | [] => h
  | v :: vs => by
    have ih := h.wipe vs
    refine ⟨by simp [wipeG, L2.wipe, ih.1], fun i w hi => ?_⟩
    unfold wipeG at hi
    unfold L2.wipe
    by_cases e : v = i
    · subst e
      rw [List.getElem?_set] at hi
      split at hi
      · split at hi <;> cases hi
      · exact absurd rfl ‹_›
    · rw [List.getElem?_set_ne e] at hi
      obtain ⟨x, h1, h2⟩ := ih.2 i w hi
      exact ⟨x, by rw [List.getElem?_set_ne e]; exact h1, h2⟩
/-- the turns: the values so far are acc -/
def lcL (t : GTg) (tt : GT) (e : GE) (ck : Hg → Bool) (ρ0 : GEnv) : List W → List W → Hg → Res (List W)
  | [], acc, G => if ck G then .ok acc G else .stuck
  | w :: ws, acc, G => if ck G then (match t w ρ0 G with
    | none => .stuck
    | some (ρ', G') => match tt ρ' G' with
      | .ok true G2 => (match e ρ' G2 with
        | .ok z G3 => if Nat.blt acc.length 16777216 then lcL t tt e ck ρ0 ws (acc ++ [z]) G3 else .stuck
        | _ => .stuck)
      | .ok false G2 => lcL t tt e ck ρ0 ws acc G2
      | _ => .stuck) else .stuck
def gLcW (it : GI) (own : List Nat) (t : GTg) (tt : GT) (e : GE) : GEnv → Hg → Res (List W) := fun ρ G => (it ρ G).bind fun p G1 => lcL t tt e p.2 (wipeG ρ own) p.1 [] G1
section
variable {X : Cx}
/-- what the block's parts are -/
structure LcParts (X : Cx) (scope : Scope) (own : List (Str × Nat)) (tg iter elt : Expr) (ifs : List Expr) (gi : GI) (t : GTg) (tt : GT) (e : GE) : Prop where
  calm : X.calm = true
  nd : X.N.Nodup
  it : GJI X tg iter gi
  ok : BlkOk X.N X.env.scope scope own
  tg : ∀ (s : Shared) (H : Hp) (C : Addr) (cl : List (Str × Addr)) (fp : List Addr), GJG (X.blk s H scope (compEnvC scope cl C X.env) fp) tg (own.map (·.2)) t
  ts : ∀ (s : Shared) (H : Hp) (C : Addr) (cl : List (Str × Addr)) (fp : List Addr), GJTs (X.blk s H scope (compEnvC scope cl C X.env) fp) ifs tt
  el : ∀ (s : Shared) (H : Hp) (C : Addr) (cl : List (Str × Addr)) (fp : List Addr), GJE (X.blk s H scope (compEnvC scope cl C X.env) fp) elt e
theorem takes_blk {X : Cx} {s : Shared} {H : Hp} {scope : Scope} {cenv : Env} {fp : List Addr} : Takes (X.blk s H scope cenv fp) wx0 := fun _ _ x => by
  obtain ⟨_, _, _, _, _, _, _, _, _, _, _, _, _, _, _, _, z⟩ := x
  exact z.elim
theorem Sim.rekeep {C : GC} {F H : Hp} {ι : Nat → Addr} {G : Hg} {p : Addr} {o o' : HO} (s : Sim { C with B := upd C.B p o } F H ι G) (hF : F p = none) : Sim { C with B := upd C.B p o' } F (upd H p o') ι G := by
  have np : ∀ i g, G[i]? = some g → g ≠ .dead → ι i ≠ p := fun i g hi hg e => by
    have z : upd C.B p o (ι i) = none := (s.live i g hi hg).2.1
    rw [e, upd_same] at z
    cases z
  refine ⟨fun b u q => by rw [upd_ne (fun e => by rw [e, hF] at q; cases q)]; exact s.fh _ _ q, fun b u q => ?_, s.ff, fun b u q => ?_, fun i g hi hg => ?_, s.inj⟩
  · have q' : upd C.B p o' b = some u := q
    by_cases e : b = p
    · subst e
      rw [upd_same] at q' ⊢
      exact q'
    · rw [upd_ne e] at q' ⊢
      refine s.bh b u ?_
      show upd C.B p o b = some u
      rw [upd_ne e]
      exact q'
  · rcases s.new b u q with z | z
    · exact .inl z
    · refine .inr ?_
      have ne : b ≠ p := fun e => by rw [e, hF] at q; cases q
      have z' : upd C.B p o b = none := z
      show upd C.B p o' b = none
      rw [upd_ne ne] at z' ⊢
      exact z'
  · obtain ⟨a, b, r⟩ := s.live i g hi hg
    have n := np i g hi hg
    have z' : upd C.B p o (ι i) = none := b
    refine ⟨a, ?_, r.mono .refl fun u q => by rw [upd_ne n]; exact q⟩
    show upd C.B p o' (ι i) = none
    rw [upd_ne n] at z' ⊢
    exact z'
theorem wipe_twice (σ : L2.St) (vs : List Nat) : L2.wipe (L2.wipe σ vs) vs = L2.wipe σ vs := by
  have gen : ∀ (us : List Nat), (∀ u ∈ us, u ∈ vs) → L2.wipe (L2.wipe σ vs) us = L2.wipe σ vs := by
    intro us
    induction us with
    | nil => intro _; rfl
    | cons u r ih =>
      intro h
      show (L2.wipe (L2.wipe σ vs) r).set u none = L2.wipe σ vs
      have e' : L2.wipe (L2.wipe σ vs) r = L2.wipe σ vs := ih fun x hx => h x (List.mem_cons_of_mem _ hx)
      have hu := h u List.mem_cons_self
      have key : (L2.wipe σ vs).set u none = L2.wipe σ vs := by
        have w1 : ∀ (l : List Nat), u ∈ l → ∀ i, i = u → i < (L2.wipe σ l).length → (L2.wipe σ l)[i]? = some none := by
          intro l
          induction l with
          | nil => intro hl; cases hl
          | cons a t iht =>
            intro hl i hi hlt
            unfold L2.wipe at hlt ⊢
            by_cases ea : a = i
            · rw [ea, List.getElem?_set_self (by simpa using hlt)]
            · rw [List.getElem?_set_ne ea]
              refine iht ?_ i hi (by simpa using hlt)
              rcases List.mem_cons.mp hl with z | z
              · exact absurd (z.symm.trans hi.symm) ea
              · exact z
        apply List.ext_getElem?
        intro i
        by_cases ei : u = i
        · subst ei
          rcases Nat.lt_or_ge u (L2.wipe σ vs).length with z | z
          · rw [List.getElem?_set_self z, w1 vs hu u rfl z]
          · rw [List.getElem?_eq_none (by simpa using z), List.getElem?_eq_none z]
        · rw [List.getElem?_set_ne ei]
      calc (L2.wipe (L2.wipe σ vs) r).set u none = (L2.wipe σ vs).set u none := by rw [e']
        _ = L2.wipe σ vs := key
  exact gen vs fun _ h => h
/-- what is done with the values at the end -/
def FinOk (M : Md) (fin : List W → Hg → Res W) : Prop := ∀ (C : GC) (F H : Hp) (ι : Nat → Addr) (G : Hg) (acc : List W) (xs : List V) (D : Addr) (σ : L2.St) (Q : VK), C.m = M → Sim { C with B := upd C.B D (.lst xs) } F H ι G → C.B D = none → F D = none → RpWL C.m F ι G.length acc xs →
  Post C F ι G.length σ (fin acc G) Q → Q (.ref D) H
abbrev lcG (X : Cx) (own : List Nat) (t : GTg) : TG := fun v σ H Q => ∃ B' F0', gTG (gc X B' F0' wx0) own t v σ H Q
abbrev lcT (X : Cx) (tt : GT) : TT := fun σ H Q => ∃ B' F0', gTT (gc X B' F0' wx0) tt σ H Q
abbrev lcE (X : Cx) (e : GE) : TE := fun σ H Q => ∃ B' F0', gTE (gc X B' F0' wx0) e σ H Q
theorem gTE_lc {X : Cx} {own : List (Str × Nat)} {gi : GI} {t : GTg} {tt : GT} {e : GE} {fin : List W → Hg → Res W} {B F0 : Hp} {wx : WX} {σ : L2.St} {H : Hp} {Q : VK} (hf : FinOk (md X) fin)
    (hh : gTE (gc X B F0 wx) (fun ρ G => (gLcW gi (own.map (·.2)) t tt e ρ G).bind fin) σ H Q) : tLc (gTI (gc X B F0 wx) gi) (lcG X (own.map (·.2)) t) (lcT X tt) (lcE X e) (own.map (·.2)) σ H Q := by
  obtain ⟨F, ι, ρ, G, s, he, hp⟩ := hh
  refine ⟨F, ι, ρ, G, s, he, ?_⟩
  unfold gLcW at hp
  dsimp only at hp
  cases qi : gi ρ G with
  | stuck => rw [qi] at hp; exact hp
  | exc x G' => rw [qi] at hp; exact hp
  | ok p G1 =>
    obtain ⟨ws, ck⟩ := p
    rw [qi] at hp
    intro J H1 F1 ι1 e1 s1 it D hD
    have hp1 : Post (gc X B F0 wx) F1 ι1 G1.length σ ((lcL t tt e ck (wipeG ρ (own.map (·.2))) ws [] G1).bind fin) Q := Post.base e1 hp
    have hBD : B D = none := s1.freeB hD
    have hFD : F1 D = none := s1.free hD
    have hF0 : F0 D = none := s1.ff.free hFD
    have noF : ∀ {F2 H2 : Hp} {ι2 : Nat → Addr} {G2 : Hg} {o : HO}, Sim (gc X (upd B D o) F0 wx) F2 H2 ι2 G2 → F2 D = none := fun {F2 H2 ι2 G2 o} t => by
      cases q : F2 D with
      | none => rfl
      | some u =>
        rcases t.new D u q with z | z
        · have z' : F0 D = some u := z
          rw [hF0] at z'; cases z'
        · have z' : upd B D o D = none := z
          rw [upd_same] at z'; cases z'
    have he0 := (he.mono e1).wipe (own.map (·.2))
    refine ⟨fun i m H => m = ws.length - i ∧ i ≤ ws.length ∧ ∃ F2 ι2 G2 acc xs, Ext F1 ι1 G1.length F2 ι2 G2.length ∧ Sim (gc X (upd B D (.lst xs)) F0 wx) F2 H ι2 G2 ∧ RpWL (md X) F2 ι2 G2.length acc xs ∧ Post (gc X B F0 wx) F2 ι2 G2.length σ ((lcL t tt e ck (wipeG ρ (own.map (·.2))) (ws.drop i) acc G2).bind fin) Q,
      ⟨ws.length, by simp, Nat.zero_le _, F1, ι1, G1, [], [], .refl, Sim.keep (C := gc X B F0 wx) (o := .lst []) s1 hD, by simp only [RpWL], hp1⟩, ?_⟩
    rintro i m H2 ⟨rfl, hi, F2, ι2, G2, acc, xs, e2, s2, ra, p2⟩
    rcases Nat.lt_or_ge i ws.length with hlt | hge
    · have hd : ws.drop i = ws[i] :: ws.drop (i + 1) := by rw [List.drop_eq_getElem_cons hlt]
      rw [hd] at p2
      simp only [lcL] at p2
      cases c : ck G2 with
      | false => rw [c] at p2; exact p2.elim
      | true =>
        rw [c, if_pos rfl] at p2
        obtain ⟨it1, it2⟩ := it (gc X (upd B D (.lst xs)) F0 wx) F2 H2 ι2 G2 rfl e2 s2 c
        obtain ⟨go, yl⟩ := it1 i ws[i] (List.getElem?_eq_getElem hlt)
        refine .inr ⟨go, fun H' => ∃ F3 ι3 G3 acc xs, Ext F1 ι1 G1.length F3 ι3 G3.length ∧ Sim (gc X (upd B D (.lst xs)) F0 wx) F3 H' ι3 G3 ∧ RpWL (md X) F3 ι3 G3.length acc xs ∧ Post (gc X B F0 wx) F3 ι3 G3.length σ ((lcL t tt e ck (wipeG ρ (own.map (·.2))) (ws.drop (i + 1)) acc G3).bind fin) Q,
          fun H' h => ⟨_, by omega, rfl, hlt, h⟩, fun x H3 y => ?_⟩
        obtain ⟨F3, e3, s3, r3⟩ := yl x H3 y
        have p3 := Post.base e3 p2
        have e13 := e2.trans e3
        refine ⟨upd B D (.lst xs), F0, F3, ι2, wipeG ρ (own.map (·.2)), G2, ws[i], s3.wx, he0.mono e13, r3, ?_⟩
        cases qt : t ws[i] (wipeG ρ (own.map (·.2))) G2 with
        | none => rw [qt] at p3; exact p3.elim
        | some o =>
          obtain ⟨ρ4, G4⟩ := o
          rw [qt] at p3
          rintro σ4 H4 ⟨F4, ι4, e4, s4, he4⟩ wq
          have p4 := Post.base e4 p3
          simp only at p4
          refine ⟨by rw [wq, wipe_twice], upd B D (.lst xs), F0, F4, ι4, ρ4, G4, s4, he4, ?_⟩
          cases qtt : tt ρ4 G4 with
          | stuck => rw [qtt] at p4; exact p4
          | exc x G' => rw [qtt] at p4; exact p4.elim
          | ok b G5 =>
            rw [qtt] at p4
            rintro bv H5 ⟨ev, F5, ι5, e5, s5⟩
            rw [ev]
            have p5 := Post.base e5 p4
            have e15 := (e13.trans e4).trans e5
            have s5' : Sim (gc X (upd B D (.lst xs)) F0 wx) F5 H5 ι5 G5 := s5.wx
            cases b with
            | false =>
              rw [if_neg Bool.false_ne_true]
              exact ⟨F5, ι5, G5, acc, xs, e15, s5', ra.mono ((e3.trans e4).trans e5), p5⟩
            | true =>
              rw [if_pos rfl]
              refine ⟨upd B D (.lst xs), F0, F5, ι5, ρ4, G5, s5, he4.mono e5, ?_⟩
              simp only at p5
              cases qe : e ρ4 G5 with
              | stuck => rw [qe] at p5; exact p5
              | exc x G' => rw [qe] at p5; exact p5.elim
              | ok z G6 =>
                rw [qe] at p5
                rintro y H6 ⟨F6, ι6, e6, s6, r6⟩
                have p6 := Post.base e6 p5
                simp only at p6
                have s6' : Sim (gc X (upd B D (.lst xs)) F0 wx) F6 H6 ι6 G6 := s6.wx
                cases cl : Nat.blt acc.length 16777216 with
                | false => rw [cl] at p6; exact p6.elim
                | true =>
                  rw [cl, if_pos rfl] at p6
                  have ra6 := ra.mono (((e3.trans e4).trans e5).trans e6)
                  refine ⟨xs, s6'.bh D _ upd_same, by rw [sizeLine_eq, ← ra6.length]; exact Nat.le_of_ble_eq_true cl, F6, ι6, G6, acc ++ [z], xs ++ [y], e15.trans e6, Sim.rekeep (C := gc X B F0 wx) s6' (noF s6'), ra6.append (.one r6), p6⟩
    · have ei : i = ws.length := by omega
      subst ei
      rw [List.drop_length] at p2
      simp only [lcL] at p2
      cases c : ck G2 with
      | false => rw [c] at p2; exact p2.elim
      | true =>
        rw [c, if_pos rfl] at p2
        obtain ⟨_, it2⟩ := it (gc X (upd B D (.lst xs)) F0 wx) F2 H2 ι2 G2 rfl e2 s2 c
        exact .inl ⟨it2, hf (gc X B F0 wx) F2 H2 ι2 G2 acc xs D σ Q rfl s2 hBD (noF s2) ra p2⟩
section
variable {X : Cx} {scope : Scope} {own : List (Str × Nat)} {tg iter elt : Expr} {ifs : List Expr} {pos : Pos} {gi : GI} {t : GTg} {tt : GT} {e : GE} {fin : List W → Hg → Res W}
theorem LcParts.pg (P : LcParts X scope own tg iter elt ifs gi t tt e) (s : Shared) (H : Hp) (C : Addr) (cl : List (Str × Addr)) (fp : List Addr) : PG (X.blk s H scope (compEnvC scope cl C X.env) fp) tg (lcG X (own.map (·.2)) t) :=
  ⟨fun pins s1 σ H v u Q I r ⟨B', F0', h⟩ => ((P.tg s _ C cl fp).run B' F0' wx0 takes_blk).run pins s1 σ H v u Q I r h⟩
theorem LcParts.pts (P : LcParts X scope own tg iter elt ifs gi t tt e) (s : Shared) (H : Hp) (C : Addr) (cl : List (Str × Addr)) (fp : List Addr) : PTs (X.blk s H scope (compEnvC scope cl C X.env) fp) ifs (lcT X tt) :=
  ⟨fun pins s1 σ H Q I ⟨B', F0', h⟩ => ((P.ts s _ C cl fp).run B' F0' wx0 takes_blk).run pins s1 σ H Q I h⟩
theorem LcParts.pe (P : LcParts X scope own tg iter elt ifs gi t tt e) (s : Shared) (H : Hp) (C : Addr) (cl : List (Str × Addr)) (fp : List Addr) : PE (X.blk s H scope (compEnvC scope cl C X.env) fp) elt (lcE X e) :=
  ⟨fun pins s1 σ H Q I ⟨B', F0', h⟩ => ((P.el s _ C cl fp).run B' F0' wx0 takes_blk).run pins s1 σ H Q I h⟩
theorem ge_lc (P : LcParts X scope own tg iter elt ifs gi t tt e) (hf : FinOk (md X) fin)
    (hs : ∀ x, foldedSetIterable iter X.env x = pure x := by intro _; rfl) : GJE X (.ListComp elt [⟨tg, iter, ifs, 0⟩] scope pos) (fun ρ G => (gLcW gi (own.map (·.2)) t tt e ρ G).bind fin) :=
  ⟨fun B F0 wx tk => PE.imp (pe_lc P.calm P.nd (P.it.run B F0 wx tk) P.ok P.pg P.pts P.pe hs) fun σ H Q h => gTE_lc hf h⟩
/-- y = [..] on one line, y a local -/
theorem gs_setLc {i : Nat} {y : Str} {py spos : Pos} (P : LcParts X scope own tg iter elt ifs gi t tt e) (hf : FinOk (md X) fin) (hy : X.N[i]? = some y := by rfl) (hyl : X.env.scope.names.lookup y = some .local := by rfl)
    (hsw : swapsWith (.ListComp elt [⟨tg, iter, ifs, 0⟩] scope pos) (some (.Name y py)) spos.line X.env = pure true := by rfl) (hs : ∀ x, foldedSetIterable iter X.env x = pure x := by intro _; rfl) :
    GJS X (.Assign [.Name y py] (.ListComp elt [⟨tg, iter, ifs, 0⟩] scope pos) spos) (gAsg (fun ρ G => (gLcW gi (own.map (·.2)) t tt e ρ G).bind fin) (gNm i)) := ⟨fun B F0 wx tk => by
  refine PS.imp (ps_setLc P.calm P.nd hy hyl hsw (P.it.run B F0 wx tk) P.ok P.pg P.pts P.pe hs) fun D σ H ⟨F, ι, ρ, G, s, he, hp⟩ => ?_
  refine gTE_lc hf ⟨F, ι, ρ, G, s, he, (PostS.fst he hp).imp fun v H1 ⟨F1, ι1, w, G1, e1, s1, r1, he1, p1⟩ => ?_⟩
  exact p1 _ H1 ⟨F1, ι1, .refl, s1, he1.set i r1⟩⟩
end
def finT : List W → Hg → Res W := fun ws G1 => match mkLst ws with
  | some z => .ok z G1
  | none => .stuck
def finN : List W → Hg → Res W := fun ws G1 => .ok (.ref G1.length) (G1 ++ [.lst ws])
theorem finT_ok {M : Md} : FinOk M finT := by
  intro C F H ι G acc xs D σ Q hm s hB hF ra p
  unfold finT at p
  cases q : mkLst acc with
  | none => rw [q] at p; exact p.elim
  | some z =>
    rw [q] at p
    obtain ⟨ds, q2, rfl⟩ := map_some q
    obtain ⟨s', e, hD⟩ := s.adopt hB hF
    exact p _ _ ⟨_, _, e, s', by simp only [RpW, Rp]; exact ⟨D, xs, rfl, .inl (.inl upd_same), (allD_rp q2 ra).mono e.fr⟩⟩
theorem finN_ok {M : Md} : FinOk M finN := by
  intro C F H ι G acc xs D σ Q hm s hB hF ra p
  have hD : H D = some (.lst xs) := s.bh D _ upd_same
  have t := s.unkeep hB
  have ext : Ext F ι G.length F (putI ι G.length D) (G ++ [GO.lst acc]).length := ⟨Same.refl _, fun i hi => putI_lt hi, by simp⟩
  have at_ : ∀ i u, (G ++ [GO.lst acc])[i]? = some u → (i < G.length ∧ G[i]? = some u) ∨ (i = G.length ∧ u = .lst acc) := fun i u q => by
    rcases Nat.lt_or_ge i G.length with z | z
    · rw [List.getElem?_append_left z] at q
      exact .inl ⟨z, q⟩
    · rw [List.getElem?_append_right z] at q
      rcases Nat.eq_or_lt_of_le z with e | e
      · rw [← e, Nat.sub_self] at q
        exact .inr ⟨e.symm, (Option.some.inj q).symm⟩
      · rw [List.getElem?_eq_none (by simp; omega)] at q; cases q
  have np : ∀ i g, G[i]? = some g → g ≠ .dead → ι i ≠ D := fun i g hi hg e => by
    have z : upd C.B D (.lst xs) (ι i) = none := (s.live i g hi hg).2.1
    rw [e, upd_same] at z
    cases z
  refine p _ _ ⟨F, putI ι G.length D, ext, ⟨t.fh, t.bh, t.ff, t.new, fun i u hi hu => ?_, fun i j u v hi hu hj hv e => ?_⟩, by simp only [RpW]; exact ⟨by simp, by rw [putI_same]⟩⟩
  · rcases at_ i u hi with ⟨z, q⟩ | ⟨z, q⟩
    · rw [putI_lt z]
      obtain ⟨a, b, r⟩ := t.live i u q hu
      exact ⟨a, b, r.mono ext fun w q => q⟩
    · subst z q
      rw [putI_same]
      exact ⟨hF, hB, xs, hD, ra.mono ext⟩
  · rcases at_ i u hi with ⟨zi, qi⟩ | ⟨zi, qi⟩ <;> rcases at_ j v hj with ⟨zj, qj⟩ | ⟨zj, qj⟩
    · rw [putI_lt zi, putI_lt zj] at e
      exact t.inj i j u v qi hu qj hv e
    · rw [putI_lt zi, zj, putI_same] at e
      exact absurd e (np i u qi hu)
    · rw [putI_lt zj, zi, putI_same] at e
      exact absurd e.symm (np j v qj hv)
    · rw [zi, zj]
end
end Gh

set_option Elab.async false
set_option linter.all false
set_option maxRecDepth 100000
set_option maxHeartbeats 4000000
namespace Gh
open PySem PySem.Spec PyProof.Rows L2

/-! ### -x -/
def gNeg (a : GE) : GE := fun ρ G => (a ρ G).bind fun x G1 => match x with
  | .d (.int i) => .ok (.d (.int (-i))) G1
  | _ => .stuck
section
variable {X : Cx} {a b c : Expr} {ga gb gcc : GE} {pos : Pos}
theorem ge_neg (ha : GJE X a ga) : GJE X (.UnaryOp .USub a pos) (gNeg ga) := ⟨fun B F0 wx tk => by
  refine PE.imp (pe_un un_neg (ha.run B F0 wx tk)) fun σ H Q ⟨F, ι, ρ, G, s, he, hp⟩ => ?_
  refine ⟨F, ι, ρ, G, s, he, (Post.fst hp).imp fun x H1 ⟨F1, ι1, w, G1, e1, s1, r1, p1⟩ => ?_⟩
  split at p1
  · simp only [RpW, Rp] at r1
    exact ⟨_, r1, p1 _ H1 (out_flat s1 rpI)⟩
  · exact p1.elim⟩

/-! ### a < b < c -/
def gChain (f f' : W → W → Hg → Option (W × Hg)) (a b c : GE) : GE := fun ρ G => (a ρ G).bind fun x G1 => (b ρ G1).bind fun y G2 => match f x y G2 with
  | some (.d (.bl true), G3) => (c ρ G3).bind fun z G4 => lift (f' y z G4)
  | some (.d (.bl false), G3) => .ok (.d (.bl false)) G3
  | _ => .stuck
theorem gTE_chain {B F0 : Hp} {wx : WX} {r r' : R2} {f f' : W → W → Hg → Option (W × Hg)} (hf : OpG X r f) (hf' : OpG X r' f') {σ : L2.St} {H : Hp} {Q : VK} (h : gTE (gc X B F0 wx) (gChain f f' ga gb gcc) σ H Q) :
    tChain r r' (gTE (gc X B F0 wx) ga) (gTE (gc X B F0 wx) gb) (gTE (gc X B F0 wx) gcc) σ H Q := by
  obtain ⟨F, ι, ρ, G, s, he, hp⟩ := h
  refine ⟨F, ι, ρ, G, s, he, (Post.fst hp).imp fun x H1 ⟨F1, ι1, w, G1, e1, s1, r1, p1⟩ => ⟨F1, ι1, ρ, G1, s1, he.mono e1, (Post.fst p1).imp fun y H2 ⟨F2, ι2, u, G2, e2, s2, r2, p2⟩ => ?_⟩⟩
  cases q : f w u G2 with
  | none => rw [q] at p2; exact p2.elim
  | some o =>
    obtain ⟨z, G3⟩ := o
    rw [q] at p2
    refine hf _ F2 H2 ι2 G2 w u x y z G3 _ rfl s2 (r1.mono e2) r2 q fun v H3 ⟨F3, ι3, e3, s3, r3⟩ => ?_
    split at p2
    · rename_i z' G4' h4
      cases h4
      simp only [RpW, Rp] at r3
      refine ⟨true, r3, ?_⟩
      rw [if_pos rfl]
      have p3 := Post.base e3 p2
      refine ⟨F3, ι3, ρ, _, s3, he.mono ((e1.trans e2).trans e3), (Post.fst p3).imp fun z H4 ⟨F4, ι4, t, G4, e4, s4, r4, p4⟩ => ?_⟩
      cases q5 : f' u t G4 with
      | none => rw [q5] at p4; exact p4.elim
      | some o5 =>
        obtain ⟨z5, G5⟩ := o5
        rw [q5] at p4
        exact hf' _ F4 H4 ι4 G4 u t y z z5 G5 Q rfl s4 (r2.mono (e3.trans e4)) r4 q5 p4
    · rename_i z' G4' h4
      cases h4
      simp only [RpW, Rp] at r3
      refine ⟨false, r3, ?_⟩
      rw [if_neg Bool.false_ne_true]
      exact p2 _ H3 ⟨F3, ι3, e3, s3, by simp only [RpW, Rp]⟩
    · exact p2.elim
theorem ge_chain {op op' : CmpOp} {r r' : R2} {f f' : W → W → Hg → Option (W × Hg)} (ho : OpR X (compareOp op) r) (ho' : OpR X (compareOp op') r') (hf : OpG X r f) (hf' : OpG X r' f') (ha : GJE X a ga) (hb : GJE X b gb) (hc : GJE X c gcc)
    (hm : lastMarks [op, op'] [b, c] = false := by with_unfolding_all rfl) : GJE X (.Compare a [op, op'] [b, c] pos) (gChain f f' ga gb gcc) :=
  ⟨fun B F0 wx tk => PE.imp (pe_chain ho ho' (ha.run B F0 wx tk) (hb.run B F0 wx tk) (hc.run B F0 wx tk) hm) fun _ _ _ h => gTE_chain hf hf' h⟩
theorem gt_chain {op op' : CmpOp} {r r' : R2} {f f' : W → W → Hg → Option (W × Hg)} (ho : OpR X (compareOp op) r) (ho' : OpR X (compareOp op') r') (hf : OpG X r f) (hf' : OpG X r' f') (ha : GJE X a ga) (hb : GJE X b gb) (hc : GJE X c gcc)
    (hm : lastMarks [op, op'] [b, c] = false := by with_unfolding_all rfl) : GJT X (.Compare a [op, op'] [b, c] pos) (gTst (gChain f f' ga gb gcc)) :=
  ⟨fun B F0 wx tk => PT.imp (pt_chain ho ho' (ha.run B F0 wx tk) (hb.run B F0 wx tk) (hc.run B F0 wx tk) hm) fun _ _ _ h => gTE_chain hf hf' (gTT_tst h)⟩
end

/-! ### calls without arguments -/
section
variable {X : Cx} {k j : Nat} {x : Str} {p pos : Pos}
theorem ge_fnP0 {f : List D → PRes} (c : CalX X.prog X.w X.K X.mg X.base k x (spP (md X) 0 f)) (hr : Room j X.A) (hk : k ≤ j) (hg : Gl X x := by rfl) (hdb : (x == ("__debug__" : Str)) = false := by decide) :
    GJE X (.Call (.Name x p) [] [] pos) (gFnP 0 f gNilA) := ⟨fun B F0 wx tk => by
  obtain ⟨fa, fd, ps, F, hm, kp, b⟩ := c.ex
  refine ⟨fun pins s σ H Q I h => ?_⟩
  have h' : tCall (spP (md X) 0 f) [] (fun cls d H' => wx cls d σ H') tNil σ H Q := by
    obtain ⟨F1, ι, ρ, G, s1, he, hp⟩ := h
    have hh := gTE_fnP (gs := gNilA) (B := B) (F0 := F0) (wx := wx) (Q := Q) (σ := σ) ⟨F1, ι, ρ, G, s1, he, hp⟩
    obtain ⟨F2, ι2, ρ2, G2, s2, he2, hp2⟩ := hh
    exact hp2 [] H ⟨F2, ι2, .refl, s2, by simp only [RpWL]⟩
  refine wpAny_Call_Name_kw (ld_glob I hg hm ?_ hdb)
  exact PySem.W.callWith_K0 I.kIn kp (run_fnS (E := fun σ => fun cls d H' => wx cls d σ H') (us := []) (vs := []) F (hr.mono hk) b (passAt tk σ) I .nil h')⟩
theorem ge_fnS0 {f : List W → Hg → Res W} (c : CalX X.prog X.w X.K X.mg X.base k x (spS (md X) 0 f)) (hr : Room j X.A) (hk : k ≤ j) (hg : Gl X x := by rfl) (hdb : (x == ("__debug__" : Str)) = false := by decide) :
    GJE X (.Call (.Name x p) [] [] pos) (gFnS 0 f gNilA) := ⟨fun B F0 wx tk => by
  obtain ⟨fa, fd, ps, F, hm, kp, b⟩ := c.ex
  refine ⟨fun pins s σ H Q I h => ?_⟩
  have h' : tCall (spS (md X) 0 f) [] (fun cls d H' => wx cls d σ H') tNil σ H Q := by
    obtain ⟨F1, ι, ρ, G, s1, he, hp⟩ := h
    have hh := gTE_fnS (gs := gNilA) (B := B) (F0 := F0) (wx := wx) (Q := Q) (σ := σ) ⟨F1, ι, ρ, G, s1, he, hp⟩
    obtain ⟨F2, ι2, ρ2, G2, s2, he2, hp2⟩ := hh
    exact hp2 [] H ⟨F2, ι2, .refl, s2, by simp only [RpWL]⟩
  refine wpAny_Call_Name_kw (ld_glob I hg hm ?_ hdb)
  exact PySem.W.callWith_K0 I.kIn kp (run_fnS (E := fun σ => fun cls d H' => wx cls d σ H') (us := []) (vs := []) F (hr.mono hk) b (passAt tk σ) I .nil h')⟩
end

/-! ### methods of built-ins -/
def gMt (t : Ty) (f : W → List W → Hg → Option (W × Hg)) (o : GE) (a : GEs) : GE := fun ρ G => (o ρ G).bind fun w G1 => if tyW w G1 = some t then (a ρ G1).bind fun ws G2 => lift (f w ws G2) else .stuck
def MtG (X : Cx) (r : V → List V → Hp → VK → Prop) (f : W → List W → Hg → Option (W × Hg)) : Prop := ∀ (C : GC) (F H : Hp) (ι : Nat → Addr) (G : Hg) (w : W) (ws : List W) (x : V) (xs : List V) (z : W) (G' : Hg) (Q : VK), C.m = md X → Sim C F H ι G → RpW C.m F ι G.length w x → RpWL C.m F ι G.length ws xs →
  f w ws G = some (z, G') → (∀ v H', Out C F ι G.length z G' v H' → Q v H') → r x xs H Q
theorem Sim.tyM {C : GC} {F H : Hp} {ι : Nat → Addr} {G : Hg} {w : W} {t : Ty} {v : V} (s : Sim C F H ι G) (e : tyW w G = some t) (ht : t = .lst ∨ t = .str ∨ t = .dic) (r : RpW C.m F ι G.length w v) : tyV C.m.K t.name v H := by
  cases w with
  | d x =>
    simp only [RpW] at r
    cases x with
    | str b => cases e; simp only [Rp] at r; subst r; rfl
    | lst b => cases e; simp only [Rp] at r; obtain ⟨a, xs, rfl, h, _⟩ := r; exact .inl ⟨rfl, xs, Same.sqL s.fh h⟩
    | dic b => cases e
    | ins c b => cases e
    | _ => cases e; rcases ht with h | h | h <;> cases h
  | tup ws => cases e; rcases ht with h | h | h <;> cases h
  | ref i =>
    simp only [RpW] at r
    obtain ⟨hi, rfl⟩ := r
    simp only [tyW] at e
    cases q : G[i]? with
    | none => rw [q] at e; cases e
    | some o =>
      rw [q] at e
      cases o with
      | lst ws => cases e; obtain ⟨_, _, xs, h, _⟩ := s.live i _ q (fun z => by cases z); exact .inl ⟨rfl, xs, .inl (.inl h)⟩
      | dic t kvs =>
        cases e
        obtain ⟨_, _, h⟩ := s.live i _ q (fun z => by cases z)
        cases t with
        | false => obtain ⟨es, h, _⟩ := h; exact .inr (.inr (.inl ⟨rfl, .inl ⟨es, h⟩⟩))
        | true => obtain ⟨es, h, _⟩ := h; exact .inr (.inr (.inl ⟨rfl, .inr ⟨es, h⟩⟩))
      | _ => cases e
section
variable {X : Cx} {o e : Expr} {es : List Expr} {go : GE} {gs : GEs} {name : Str} {apos cpos : Pos} {t : Ty} {id : String} {r : V → List V → Hp → VK → Prop} {f : W → List W → Hg → Option (W × Hg)}
theorem gTE_mt {B F0 : Hp} {wx : WX} (hf : MtG X r f) (ht : t = .lst ∨ t = .str ∨ t = .dic) {σ : L2.St} {H : Hp} {Q : VK} (h : gTE (gc X B F0 wx) (gMt t f go gs) σ H Q) :
    gTE (gc X B F0 wx) go σ H fun x H1 => tyV X.K t.name x H1 ∧ gTA (gc X B F0 wx) gs σ H1 fun xs H2 => r x xs H2 Q := by
  obtain ⟨F, ι, ρ, G, s, he, hp⟩ := h
  refine ⟨F, ι, ρ, G, s, he, (Post.fst hp).imp fun x H1 ⟨F1, ι1, w, G1, e1, s1, r1, p1⟩ => ?_⟩
  by_cases hty : tyW w G1 = some t
  · rw [if_pos hty] at p1
    refine ⟨s1.tyM hty ht r1, F1, ι1, ρ, G1, s1, he.mono e1, (PostL.fst p1).imp fun xs H2 ⟨F2, ι2, ws, G2, e2, s2, r2, p2⟩ => ?_⟩
    cases q : f w ws G2 with
    | none => rw [q] at p2; exact p2.elim
    | some o =>
      obtain ⟨z, G3⟩ := o
      rw [q] at p2
      exact hf _ F2 H2 ι2 G2 w ws x xs z G3 Q rfl s2 (r1.mono e2) r2 q p2
  · rw [if_neg hty] at p1; exact p1.elim
theorem ge_mt (pa : PlainAttrs t.name) (slot : Slot t.name name id) (hty : typeOf (.builtin id) = pure (.type "method_descriptor")) (hm : MtR X id r) (hf : MtG X r f) (ho : GJE X o go) (ha : GJA X (e :: es) gs) (ht : t = .lst ∨ t = .str ∨ t = .dic := by decide)
    (hbase : attributeBase o name X.env (eval o X.env) = eval o X.env := by rfl)
    (hfew : ((backTo cpos (starEach (e :: es) X.env)).all (fun x => !x.1) && (backToKw cpos (keywordEach [] X.env)).all (fun x => x.1.isSome)
      && decide ((e :: es).length + ([] : List Keyword).length + (if ([] : List Keyword).isEmpty then 0 else 1) < 30)) = true := by rfl)
    (hline : (apos.endLine == cpos.line) = true := by rfl) (hs : starEach (e :: es) X.env = (false, eval e X.env) :: starEach es X.env := by rfl) (hplain : (backTo cpos (starEach es X.env)).any (·.1) = false := by rfl) :
    GJE X (.Call (.Attribute o name apos) (e :: es) [] cpos) (gMt t f go gs) :=
  ⟨fun B F0 wx tk => PE.imp (pe_bm pa slot hty hm (ho.run B F0 wx tk) (ha.run B F0 wx tk) hbase hfew hline hs hplain) fun _ _ _ h => gTE_mt hf ht h⟩
theorem ge_mt0 (pa : PlainAttrs t.name) (slot : Slot t.name name id) (hty : typeOf (.builtin id) = pure (.type "method_descriptor")) (hm : MtR X id r) (hf : MtG X r f) (ho : GJE X o go) (ht : t = .lst ∨ t = .str ∨ t = .dic := by decide)
    (hbase : attributeBase o name X.env (eval o X.env) = eval o X.env := by rfl) (hline : (apos.endLine == cpos.line) = true := by rfl) :
    GJE X (.Call (.Attribute o name apos) [] [] cpos) (gMt t f go gNilA) :=
  ⟨fun B F0 wx tk => PE.imp (pe_bm0 pa slot hty hm (ho.run B F0 wx tk) hbase hline) fun σ H Q h => by
    obtain ⟨F, ι, ρ, G, s, he, hp⟩ := gTE_mt hf ht h
    exact ⟨F, ι, ρ, G, s, he, hp.imp fun x H1 ⟨h1, F2, ι2, ρ2, G2, s2, he2, hp2⟩ => ⟨h1, hp2 [] H1 ⟨F2, ι2, .refl, s2, by simp only [RpWL]⟩⟩⟩⟩
end

/-! ### methods of lists -/
def getL (w : W) (G : Hg) : Option (Nat × List W) := match w with
  | .ref i => match G[i]? with
    | some (.lst ws) => some (i, ws)
    | _ => none
  | _ => none
theorem getL_inv {w : W} {G : Hg} {i : Nat} {ws : List W} (h : getL w G = some (i, ws)) : w = .ref i ∧ G[i]? = some (.lst ws) := by
  cases w with
  | ref j =>
    simp only [getL] at h
    cases q : G[j]? with
    | none => rw [q] at h; cases h
    | some o =>
      rw [q] at h
      cases o with
      | lst us => cases h; exact ⟨rfl, q⟩
      | _ => cases h
  | _ => cases h
theorem Sim.lst {C : GC} {F H : Hp} {ι : Nat → Addr} {G : Hg} {i : Nat} {ws : List W} (s : Sim C F H ι G) (h : G[i]? = some (.lst ws)) : ∃ xs, H (ι i) = some (.lst xs) ∧ RpWL C.m F ι G.length ws xs := by
  obtain ⟨_, _, xs, h1, h2⟩ := s.live i _ h (fun z => by cases z)
  exact ⟨xs, h1, h2⟩
theorem out_wr {C : GC} {F H : Hp} {ι : Nat → Addr} {G : Hg} {i : Nat} {ws us : List W} {ys : List V} {w : W} {v : V} (s : Sim C F H ι G) (h : G[i]? = some (.lst ws)) (r : RpWL C.m F ι G.length us ys) (rv : RpW C.m F ι G.length w v) :
    Out C F ι G.length w (G.set i (.lst us)) v (upd H (ι i) (.lst ys)) := by
  have s' := s.write (o := .lst ys) (g := .lst us) h (fun z => by cases z) ⟨ys, upd_same, r⟩
  refine ⟨F, ι, ⟨Same.refl _, fun _ _ => rfl, by simp⟩, s', ?_⟩
  rw [List.length_set]
  exact rv
theorem RpWL.set {M : Md} {F : Hp} {ι : Nat → Addr} {n : Nat} {w : W} {x : V} : ∀ {ws : List W} {xs : List V} (i : Nat), RpWL M F ι n ws xs → RpW M F ι n w x → RpWL M F ι n (ws.set i w) (xs.set i x)
  | [], xs, i, h, r => by simp only [RpWL] at h; subst h; simp [RpWL]
  | u :: ws, xs, 0, h, r => by
    simp only [RpWL] at h
    obtain ⟨y, t, rfl, h1, h2⟩ := h
    simp only [List.set_cons_zero, RpWL]
    exact ⟨x, t, rfl, r, h2⟩
  | u :: ws, xs, i + 1, h, r => by
    simp only [RpWL] at h
    obtain ⟨y, t, rfl, h1, h2⟩ := h
    simp only [List.set_cons_succ, RpWL]
    exact ⟨y, _, rfl, h1, RpWL.set i h2 r⟩
theorem RpWL.erase {M : Md} {F : Hp} {ι : Nat → Addr} {n : Nat} : ∀ {ws : List W} {xs : List V} (i : Nat), RpWL M F ι n ws xs → RpWL M F ι n (ws.eraseIdx i) (xs.eraseIdx i)
  | [], xs, i, h => by simp only [RpWL] at h; subst h; simp [RpWL]
  | u :: ws, xs, 0, h => by
    simp only [RpWL] at h
    obtain ⟨y, t, rfl, h1, h2⟩ := h
    simpa using h2
  | u :: ws, xs, i + 1, h => by
    simp only [RpWL] at h
    obtain ⟨y, t, rfl, h1, h2⟩ := h
    simp only [List.eraseIdx_cons_succ, RpWL]
    exact ⟨y, _, rfl, h1, RpWL.erase i h2⟩
theorem RpWL.dropLast {M : Md} {F : Hp} {ι : Nat → Addr} {n : Nat} {ws : List W} {xs : List V} (h : RpWL M F ι n ws xs) : RpWL M F ι n ws.dropLast xs.dropLast := by
  rw [List.dropLast_eq_take, List.dropLast_eq_take, h.length]
  exact h.take _
def fAppend (w : W) (us : List W) (G : Hg) : Option (W × Hg) := match getL w G, us with
  | some (i, ws), [u] => if Nat.blt ws.length 16777216 then some (.d .non, G.set i (.lst (ws ++ [u]))) else none
  | _, _ => none
def fPop (w : W) (us : List W) (G : Hg) : Option (W × Hg) := match getL w G, us with
  | some (i, ws), [] => (ws[ws.length - 1]?).map fun z => (z, G.set i (.lst ws.dropLast))
  | some (i, ws), [.d (.int k)] => if fit62 k then (match seqIndex? k ws.length with
    | some j => (ws[j]?).map fun z => (z, G.set i (.lst (ws.eraseIdx j)))
    | none => none) else none
  | _, _ => none
def fExtend (w : W) (us : List W) (G : Hg) : Option (W × Hg) := match getL w G, us with
  | some (i, ws), [u] => (match seqW u G with
    | some (true, zs) => if small (ws.length + zs.length) then some (.d .non, G.set i (.lst (ws ++ zs))) else none
    | _ => none)
  | _, _ => none
def rPopA : V → List V → Hp → VK → Prop := fun x vs H Q => rPop x vs H Q ∨ rPopAt x vs H Q
theorem mt_popA {X : Cx} : MtR X "list.pop" rPopA := fun pins s σ H x xs v us Q I rx rv h => by
  rcases h with h | h
  · exact mt_pop pins s σ H x xs v us Q I rx rv h
  · exact mt_popAt pins s σ H x xs v us Q I rx rv h
theorem extendW (l : Addr) (items : Array Value) (n : Nat) (b : Addr) (items2 : Array Value) (n2 : Nat) (dd : Option Addr) (sl : Array (Option Value)) (hc0 : ¬(!items.isEmpty && Builtin.List.listTooLong (items.size + items2.size)) = true) (hc1 : items.size ≤ sizeLine) (hs2 : items.size + items2.size ≤ sizeLine + 1) :
    Meets (Builtin.«list.extend» ⟨[.ref l, .ref b], []⟩) (fun _ R s => s.heap.get? l = some { cls := .type "list", dict := none, data := .seq items n, slots := #[] } ∧ s.heap.get? b = some { cls := .type "list", dict := dd, data := .seq items2 n2, slots := sl } ∧ R (.ok (.ret Value.none)) { s with heap := s.heap.update l (Obj.mapSeq fun x => x ++ items2), toks := s.toks }) :=
  .of_wp fun prog w A R s h => by
    obtain ⟨hp, g, d, tk, os⟩ := s; obtain ⟨hl, hb, h⟩ := h; have i1 := AutoSeq1.idx_int; have t2 := AutoSeq1.sub_tuple_tuple; have t3 := AutoSeq1.sub_list_list; have t4 := AutoSeq1.sub_tuple_list; have t5 := AutoSeq1.sub_list_tuple
    have hz' : (items ++ items2).size ≤ sizeLine + 1 := by rw [Array.size_append]; exact hs2
    wp_walk using (wpAny_updateSeq hl rfl (hz := hc1) (_hz' := hz')), wpAny_loadPart' hl, wpAny_loadPart' hb
    exact ⟨_, rfl, h⟩
def rExtendA (K : PySem.W.Frag) : V → List V → Hp → VK → Prop := fun x vs H Q => ∃ l b xs zs, x = .ref l ∧ vs = [.ref b] ∧ H l = some (.lst xs) ∧ SqL K H b zs ∧ xs.length + zs.length ≤ sizeLine ∧ Q .non (upd H l (.lst (xs ++ zs)))
theorem mt_extendA {X : Cx} : MtR X "list.extend" (rExtendA X.K) := by
  intro pins s σ H x vs v us Q I rx rv h
  obtain ⟨l, b, xs, zs, rfl, rfl, hH, hB, hz, q⟩ := h
  cases rx
  obtain ⟨u, rfl, ru⟩ := rv.one
  cases ru
  obtain ⟨z, its, n, r, hl, e⟩ := I.lstM hH
  obtain ⟨its2, r2, ⟨⟨cls2, dd2, data2, sl2⟩, n2, ho2, hc2, hdn, hd2⟩, hl2⟩ := I.list hB
  simp only at hc2 hd2 hdn
  subst hc2 hd2
  have h2 := r2.length
  have hsz : its.toArray.size + its2.toArray.size ≤ sizeLine := by rw [List.size_toArray, List.size_toArray]; omega
  have hlong : ¬ (!its.toArray.isEmpty && Builtin.List.listTooLong (its.toArray.size + its2.toArray.size)) = true := by
    rw [notLongL hsz, Bool.and_false]
    exact Bool.false_ne_true
  refine call_meets F.slot_list_extend ⟨_, e, rfl⟩ F.entry_list_extend (F.args_list_extend_2 _ _)
    (extendW l its.toArray n b its2.toArray n2 dd2 sl2 hlong (by rw [List.size_toArray]; omega) (by omega)) ⟨e, ho2, ?_⟩
  refine ⟨.non, _, I.lset (its' := its ++ its2) hH e (by simp) (r.append r2) ?_, rfl, q⟩
  rw [List.length_append]
  omega
section
variable {X : Cx}
theorem mg_append : MtG X rAppend fAppend := by
  intro C F H ι G w us x xs z G' Q hK s rw_ ru e hQ
  unfold fAppend at e
  split at e
  · rename_i i ws u q
    obtain ⟨rfl, hi⟩ := getL_inv q
    obtain ⟨ys, h1, h2⟩ := s.lst hi
    obtain ⟨y, rfl, ry⟩ := ru.inv1
    simp only [RpW] at rw_
    obtain ⟨hl, rfl⟩ := rw_
    by_cases c : Nat.blt ws.length 16777216 = true
    · rw [if_pos c] at e
      cases e
      refine ⟨_, ys, y, rfl, rfl, h1, by rw [sizeLine_eq, ← h2.length]; exact Nat.le_of_ble_eq_true c, hQ _ _ (out_wr s hi (h2.append (.one ry)) (by simp only [RpW, Rp]))⟩
    · rw [if_neg c] at e; cases e
  · cases e
theorem mg_pop : MtG X rPopA fPop := by
  intro C F H ι G w us x xs z G' Q hK s rw_ ru e hQ
  unfold fPop at e
  split at e
  · rename_i i ws q
    obtain ⟨rfl, hi⟩ := getL_inv q
    obtain ⟨ys, h1, h2⟩ := s.lst hi
    simp only [RpW] at rw_
    obtain ⟨hl, rfl⟩ := rw_
    obtain ⟨y, q2, e2⟩ := map_some e
    cases e2
    simp only [RpWL] at ru
    subst ru
    obtain ⟨v, hv, rv⟩ := h2.get q2
    exact .inl ⟨_, ys, v, rfl, rfl, h1, by rw [← h2.length]; exact hv, hQ _ _ (out_wr s hi h2.dropLast rv)⟩
  · rename_i i ws k q
    obtain ⟨rfl, hi⟩ := getL_inv q
    obtain ⟨ys, h1, h2⟩ := s.lst hi
    simp only [RpW] at rw_
    obtain ⟨hl, rfl⟩ := rw_
    by_cases c : fit62 k = true
    · rw [if_pos c] at e
      split at e
      · rename_i j hj
        obtain ⟨y, q2, e2⟩ := map_some e
        cases e2
        obtain ⟨y', rfl, ry⟩ := ru.inv1
        simp only [RpW, Rp] at ry
        subst ry
        unfold fit62 at c
        simp only [Bool.and_eq_true, decide_eq_true_eq] at c
        obtain ⟨v, hv, rv⟩ := h2.get q2
        exact .inr ⟨_, ys, k, j, v, rfl, rfl, h1, by omega, by omega, by rw [← h2.length]; exact hj, hv, hQ _ _ (out_wr s hi (h2.erase j) rv)⟩
      · cases e
    · rw [if_neg c] at e; cases e
  · cases e
theorem mg_extend : MtG X (rExtendA X.K) fExtend := by
  intro C F H ι G w us x xs z G' Q hK s rw_ ru e hQ
  unfold fExtend at e
  split at e
  · rename_i i ws u q
    obtain ⟨rfl, hi⟩ := getL_inv q
    obtain ⟨ys, h1, h2⟩ := s.lst hi
    obtain ⟨y, rfl, ry⟩ := ru.inv1
    simp only [RpW] at rw_
    obtain ⟨hl, rfl⟩ := rw_
    split at e
    · rename_i zs q2
      obtain ⟨a, vs, rfl, h3, h4⟩ := s.seq q2 ry
      rw [if_pos rfl, hK] at h3
      by_cases c : small (ws.length + zs.length) = true
      · rw [if_pos c] at e
        cases e
        exact ⟨_, a, ys, vs, rfl, rfl, h1, h3, by rw [← h2.length, ← h4.length]; exact small_le c, hQ _ _ (out_wr s hi (h2.append h4) (by simp only [RpW, Rp]))⟩
      · rw [if_neg c] at e; cases e
    · cases e
  · cases e
variable {o e : Expr} {es : List Expr} {go : GE} {gs : GEs} {apos cpos : Pos}
/-! the rules of one method each -/
abbrev Few (X : Cx) (cpos : Pos) (es : List Expr) : Prop := ((backTo cpos (starEach es X.env)).all (fun x => !x.1) && (backToKw cpos (keywordEach [] X.env)).all (fun x => x.1.isSome)
      && decide (es.length + ([] : List Keyword).length + (if ([] : List Keyword).isEmpty then 0 else 1) < 30)) = true
theorem ge_append (ho : GJE X o go) (ha : GJA X (e :: es) gs) (hbase : attributeBase o "append" X.env (eval o X.env) = eval o X.env := by rfl) (hfew : Few X cpos (e :: es) := by rfl)
    (hline : (apos.endLine == cpos.line) = true := by rfl) (hs : starEach (e :: es) X.env = (false, eval e X.env) :: starEach es X.env := by rfl) (hplain : (backTo cpos (starEach es X.env)).any (·.1) = false := by rfl) :
    GJE X (.Call (.Attribute o "append" apos) (e :: es) [] cpos) (gMt .lst fAppend go gs) := ge_mt (t := .lst) PySem.F.plainAttrs_list PySem.F.slot_list_append PySem.F.type_list_append mt_append mg_append ho ha (.inl rfl) hbase hfew hline hs hplain
theorem ge_extend (ho : GJE X o go) (ha : GJA X (e :: es) gs) (hbase : attributeBase o "extend" X.env (eval o X.env) = eval o X.env := by rfl) (hfew : Few X cpos (e :: es) := by rfl)
    (hline : (apos.endLine == cpos.line) = true := by rfl) (hs : starEach (e :: es) X.env = (false, eval e X.env) :: starEach es X.env := by rfl) (hplain : (backTo cpos (starEach es X.env)).any (·.1) = false := by rfl) :
    GJE X (.Call (.Attribute o "extend" apos) (e :: es) [] cpos) (gMt .lst fExtend go gs) := ge_mt (t := .lst) PySem.F.plainAttrs_list PySem.F.slot_list_extend PySem.F.type_list_extend mt_extendA mg_extend ho ha (.inl rfl) hbase hfew hline hs hplain
theorem ge_popAt (ho : GJE X o go) (ha : GJA X (e :: es) gs) (hbase : attributeBase o "pop" X.env (eval o X.env) = eval o X.env := by rfl) (hfew : Few X cpos (e :: es) := by rfl)
    (hline : (apos.endLine == cpos.line) = true := by rfl) (hs : starEach (e :: es) X.env = (false, eval e X.env) :: starEach es X.env := by rfl) (hplain : (backTo cpos (starEach es X.env)).any (·.1) = false := by rfl) :
    GJE X (.Call (.Attribute o "pop" apos) (e :: es) [] cpos) (gMt .lst fPop go gs) := ge_mt (t := .lst) PySem.F.plainAttrs_list PySem.F.slot_list_pop PySem.F.type_list_pop mt_popA mg_pop ho ha (.inl rfl) hbase hfew hline hs hplain
theorem ge_pop (ho : GJE X o go) (hbase : attributeBase o "pop" X.env (eval o X.env) = eval o X.env := by rfl) (hline : (apos.endLine == cpos.line) = true := by rfl) :
    GJE X (.Call (.Attribute o "pop" apos) [] [] cpos) (gMt .lst fPop go gNilA) := ge_mt0 (t := .lst) PySem.F.plainAttrs_list PySem.F.slot_list_pop PySem.F.type_list_pop mt_popA mg_pop ho (.inl rfl) hbase hline
end

/-! ### xs[i] = v -/
def fSetL (w u v : W) (G : Hg) : Option Hg := match getL w G, u with
  | some (i, ws), .d (.int k) => (ixN ws.length k).map fun j => G.set i (.lst (ws.set j v))
  | _, _ => none
theorem sg_list {X : Cx} : SetG X rSetL fSetL := by
  intro C F H ι G wo wi wv o i v G' Q hK s ro ri rv e hQ
  unfold fSetL at e
  split at e
  · rename_i n ws k q
    obtain ⟨rfl, hi⟩ := getL_inv q
    obtain ⟨ys, h1, h2⟩ := s.lst hi
    simp only [RpW] at ro
    obtain ⟨hl, rfl⟩ := ro
    simp only [RpW, Rp] at ri
    subst ri
    obtain ⟨j, q2, rfl⟩ := map_some e
    obtain ⟨F', ι', a, b, _⟩ := out_wr (w := .d .non) (v := .non) s hi (h2.set j rv) (by simp only [RpW, Rp])
    exact ⟨_, ys, k, j, rfl, rfl, h1, by rw [← h2.length]; exact q2, hQ _ ⟨F', ι', a, b⟩⟩
  · cases e
end Gh

set_option Elab.async false
set_option linter.all false
set_option maxRecDepth 100000
set_option maxHeartbeats 4000000
namespace Gh
open PySem PySem.Spec PyProof.Rows L2

/-! ### __init__ of an exception class: its fields are its parameters -/
/-- what it promises: self is an exception that is being made -/
def spI (K : PySem.W.Frag) (fs : List Str) : Sp := fun vs H Q _ => ∃ a C ys, vs = .ref a :: ys ∧ ys.length = fs.length ∧ H a = some (exo a C none) ∧ OexC K C ∧ (∀ f ∈ fs, PySem.W.findIn K (.ref C) f = some none) ∧
  ∀ dx, H dx = none → dx ≠ a → Q .non (upd (upd H a (exo a C (some dx))) dx (exd dx (fs.zip ys).reverse))
/-- self.f = p, for one field after the other; the slots of the parameters -/
inductive InitB (X : Cx) : List Stmt → List (Str × Nat) → Prop where
  | nil : InitB X [] []
  | cons {s x f : Str} {i : Nat} {p1 p2 p3 pos : Pos} {r : List Stmt} {l : List (Str × Nat)} (h0 : X.N[0]? = some s) (v0 : Vis X.env.scope s) (d0 : (s == ("__debug__" : Str)) = false) (c0 : (s == ("__classdict__" : Str)) = false)
      (hi : X.N[i]? = some x) (vi : Vis X.env.scope x) (di : (x == ("__debug__" : Str)) = false) (ci : (x == ("__classdict__" : Str)) = false) (hs : swapsWith (.Name x p3) (some (.Attribute (.Name s p1) f p2)) pos.line X.env = pure false) (t : InitB X r l) :
      InitB X (.Assign [.Attribute (.Name s p1) f p2] (.Name x p3) pos :: r) ((f, i) :: l)
/-- the second and later fields -/
theorem init_more {X : Cx} : ∀ {ss : List Stmt} {l : List (Str × Nat)}, InitB X ss l → PSs X ss (fun D σ H => ∃ (a C dx : Addr) (es : List (Str × V)) (ys : List V), σ[0]? = some (some (.ref a)) ∧ OexC X.K C ∧ (∀ f ∈ l.map (·.1), PySem.W.findIn X.K (.ref C) f = some none) ∧
    H a = some (exo a C (some dx)) ∧ H dx = some (exd dx es) ∧ es.length + l.length ≤ 900 ∧ ys.length = l.length ∧ (∀ (j : Nat) (p : Str × Nat), l[j]? = some p → ∃ y, ys[j]? = some y ∧ σ[p.2]? = some (some y)) ∧ dx ≠ a ∧
    D.nx σ (upd H dx (exd dx (((l.map (·.1)).zip ys).reverse ++ es))))
  | _, _, .nil => PSs.imp pss_nil fun D σ H ⟨a, C, dx, es, ys, h1, h2, h3, h4, h5, h6, h7, h8, hn, h9⟩ => by
    have e : upd H dx (exd dx es) = H := by
      funext b
      by_cases hb : b = dx
      · rw [hb, upd_same, h5]
      · rw [upd_ne hb]
    simp only [List.map_nil, List.zip_nil_left, List.reverse_nil, List.nil_append] at h9
    rw [e] at h9
    exact h9
  | _, _, .cons h0 v0 d0 c0 hi vi di ci hs t => by
    refine PSs.imp (pss_cons (ps_ost (pe_var h0 v0 d0 c0) (pe_var hi vi di ci) hs) (init_more t)) fun D σ H ⟨a, C, dx, es, ys, h1, h2, h3, h4, h5, h6, h7, h8, hn, h9⟩ => ?_
    cases ys with
    | nil => simp at h7
    | cons y ys =>
      obtain ⟨y', hy, hs'⟩ := h8 0 _ rfl
      simp only [List.getElem?_cons_zero, Option.some.injEq] at hy
      subst hy
      simp only [List.length_cons] at h6 h7
      refine ⟨y, hs', _, h1, a, C, rfl, h2, h3 _ (by simp), .inr ⟨dx, es, h4, h5, by omega, ?_⟩⟩
      refine ⟨a, C, dx, _ :: es, ys, h1, h2, fun f hf => h3 f (by simp only [List.map_cons, List.mem_cons]; exact .inr hf), by rw [upd_ne (Ne.symm hn)]; exact h4, upd_same, by simp only [List.length_cons]; omega, by omega, fun j p hp => h8 (j + 1) p hp, hn, ?_⟩
      rw [upd_upd]
      simpa using h9
/-- all of them -/
theorem init_all {X : Cx} {ss : List Stmt} {f : Str} {i : Nat} {l : List (Str × Nat)} (hb : InitB X ss ((f, i) :: l)) : PSs X ss (fun D σ H => ∃ (a C : Addr) (y : V) (ys : List V), σ[0]? = some (some (.ref a)) ∧ OexC X.K C ∧ (∀ g ∈ ((f, i) :: l).map (·.1), PySem.W.findIn X.K (.ref C) g = some none) ∧
    H a = some (exo a C none) ∧ l.length ≤ 800 ∧ ys.length = l.length ∧ σ[i]? = some (some y) ∧ (∀ (j : Nat) (p : Str × Nat), l[j]? = some p → ∃ y, ys[j]? = some y ∧ σ[p.2]? = some (some y)) ∧
    ∀ dx, H dx = none → dx ≠ a → D.nx σ (upd (upd H a (exo a C (some dx))) dx (exd dx (((f :: l.map (·.1)).zip (y :: ys)).reverse)))) := by
  cases hb with
  | cons h0 v0 d0 c0 hi vi di ci hs t =>
    refine PSs.imp (pss_cons (ps_ost (pe_var h0 v0 d0 c0) (pe_var hi vi di ci) hs) (init_more t)) fun D σ H ⟨a, C, y, ys, h1, h2, h3, h4, h5, h6, h7, h8, h9⟩ => ?_
    refine ⟨y, h7, _, h1, a, C, rfl, h2, h3 _ (by simp), .inl ⟨h4, fun dx n ne => ?_⟩⟩
    have e1 : upd (upd H dx (exd dx [(f, y)])) a (exo a C (some dx)) = upd (upd H a (exo a C (some dx))) dx (exd dx [(f, y)]) := by
      funext b
      by_cases hb : b = a
      · rw [hb, upd_same, upd_ne (Ne.symm ne), upd_same]
      · by_cases hd : b = dx
        · rw [hd, upd_ne ne, upd_same, upd_same]
        · rw [upd_ne hb, upd_ne hd, upd_ne hd, upd_ne hb]
    refine ⟨a, C, dx, [(f, y)], ys, h1, h2, fun g hg => h3 g (by simp only [List.map_cons, List.mem_cons]; exact .inr hg), upd_same, by rw [upd_ne ne, upd_same], by simp only [List.length_cons, List.length_nil]; omega, h6, h8, ne, ?_⟩
    have q := h9 dx n ne
    rw [e1, upd_upd]
    simpa using q
theorem fn_init {P : Program} {w : World} {K : PySem.W.Frag} {mg : Str → Option Value} {base : Heap} {x qual f : Str} {st : Stmt} {fa : Addr} {fd : FuncData} {N ps : List Str} {i : Nat} {l : List (Str × Nat)} {dvs : List V} {kws : List (Str × V)} (F : FunD K x qual (defArgs st) (defBody st) (defScope st) dvs kws fa fd) (S : FnScope N ps (defScope st))
    (hl : ps.length = l.length + 2) (hi : i < ps.length) (hix : ((f, i) :: l).map (·.2) = (List.range (l.length + 1)).map (· + 1)) (hsm : l.length ≤ 800)
    (hb : ∀ (cdv : Value) (A : Around) (outer : List Env) (s : Shared) (H : Hp) (E : XK), InitB (bodyX P w K mg base N qual (defScope st) fa cdv A outer s H E) (defBody st) ((f, i) :: l)) :
    FnOk P w K mg base (L2.CX P w) 1 fa fd ps (spI K (f :: l.map (·.1))) := by
  refine FunD.ok (CX := L2.CX P w) F S (fun vs H Q E ⟨a, C, ys, e, h, _⟩ => by rw [e, List.length_cons, h, List.length_cons, List.length_map, hl]) (fun cdv A outer s H vs Q E hr ⟨a, C, ys, e, h, ha, hT, hf, hq⟩ => ?_)
  refine ⟨_, init_all (hb cdv A outer s H E), ?_⟩
  subst e
  simp only [List.length_cons, List.length_map] at h
  have at_ : ∀ (j : Nat) (p : Str × Nat), ((f, i) :: l)[j]? = some p → p.2 = j + 1 := fun j p hp => by
    have q : (((f, i) :: l).map (·.2))[j]? = some p.2 := by rw [List.getElem?_map, hp]; rfl
    rw [hix, List.getElem?_map] at q
    have hj : j < l.length + 1 := by
      rcases Nat.lt_or_ge j (l.length + 1) with z | z
      · exact z
      · rw [List.getElem?_eq_none (by simpa using z)] at q; cases q
    rw [List.getElem?_range hj] at q
    simpa using q.symm
  have sl : ∀ (j : Nat), (L2.start N (.ref a :: ys))[j]? = (((V.ref a :: ys).map some ++ List.replicate (N.length - (ys.length + 1)) none))[j]? := fun j => by unfold L2.start; rfl
  have get : ∀ (j : Nat) (y : V), ys[j]? = some y → (L2.start N (.ref a :: ys))[j + 1]? = some (some y) := fun j y hy => by
    rw [sl]
    have hj : j < ys.length := (List.getElem?_eq_some_iff.mp hy).1
    rw [List.getElem?_append_left (by simp; omega)]
    simp [hy]
  cases ys with
  | nil => simp at h
  | cons y ys =>
    simp only [List.length_cons] at h
    have ei : i = 1 := at_ 0 _ rfl
    refine ⟨a, C, y, ys, by rw [sl]; rfl, hT, fun g hg => hf g hg, ha, hsm, by omega, by rw [ei]; exact get 0 y rfl, fun j p hp => ?_, fun dx n ne => hq dx n ne⟩
    have e2 := at_ (j + 1) p hp
    have hj : j < ys.length := by
      have := (List.getElem?_eq_some_iff.mp hp).1
      omega
    exact ⟨ys[j], List.getElem?_eq_getElem hj, by rw [e2]; exact get (j + 1) _ (List.getElem?_eq_getElem hj)⟩
end Gh

set_option Elab.async false
set_option linter.all false
set_option maxRecDepth 100000
set_option maxHeartbeats 4000000
namespace Gh
open PySem PySem.Spec PyProof.Rows L2

/-! ### o.f -/
def tFldA (K : PySem.W.Frag) (ta : TE) (f : Str) : TE := fun σ H Q => ta σ H fun x H1 => ∃ a C es v, x = .ref a ∧ InsAt K H1 a C es ∧ NoAttr K C f ∧ es.lookup f = some v ∧ Q v H1
theorem exo_inst {X : Cx} {pins : List (Addr × Obj)} {σ : L2.St} {H : Hp} {s : Shared} {a C dx : Addr} {es : List (Str × V)} (I : Inv X pins σ H s) (h : H a = some (exo a C (some dx))) (hd : H dx = some (exd dx es)) :
    ∃ (ox od : Obj) (mA : Str → Option Value), PySem.W.InstAt s.heap a ox C (some od) ∧ (∀ name, PySem.W.lookIn name od = some (mA name)) ∧ ∀ f, RelO (es.lookup f) (mA f) := by
  obtain ⟨t1, h1⟩ := exo_at I.hok h
  obtain ⟨mA, hn, hr⟩ := exd_at I.hok hd
  obtain ⟨od, ho, hl⟩ := lookIn_ns hn
  exact ⟨_, od, mA, ⟨h1, rfl, rfl, ho⟩, hl, hr⟩
theorem exo_inst0 {X : Cx} {pins : List (Addr × Obj)} {σ : L2.St} {H : Hp} {s : Shared} {a C : Addr} (I : Inv X pins σ H s) (h : H a = some (exo a C none)) :
    ∃ ox, PySem.W.InstAt s.heap a ox C none := by
  obtain ⟨t1, h1⟩ := exo_at I.hok h
  exact ⟨_, h1, rfl, rfl, trivial⟩
theorem pe_fldA {X : Cx} {e : Expr} {f : Str} {ta : TE} {pos : Pos} (he : PE X e ta) (hb : attributeBase e f X.env (eval e X.env) = eval e X.env) : PE X (.Attribute e f pos) (tFldA X.K ta f) := by
  refine ⟨fun pins s σ H Q I h => ?_⟩
  refine attr_of hb (thn (he.run pins s σ H _ I h) fun u s1 ⟨x, H1, I1, rx, a, C, es, v, ex, ea, hno, l, q⟩ => ?_)
  subst ex
  obtain rfl : u = Value.ref a := rx
  cases ea with
  | ins dx c h => exact getattr_ok I1 h c.cl hno l fun u' s2 I2 ru => ⟨v, H1, I2, ru, q⟩
  | exc dx c h hd =>
    obtain ⟨ox, od, mA, J, hl, hr⟩ := exo_inst I1 h hd
    obtain ⟨u, hu, ru⟩ := RelO.some_of (v := v) (o := mA f) (by rw [← l]; exact hr f)
    exact HandSPX.exc_get I1.kIn J c.hg c.hk c.hs (PySem.W.findObj_own c.hd hno rfl (by rw [hl, hu])) (handed_of ru) ⟨v, H1, I1.tok _, ru, q⟩
  | exc0 c h he => rw [he] at l; cases l
/-- none of these classes has the name -/
def NoAt (M : Md) (cs : List Str) (f : Str) : Prop := ∀ c ∈ cs, ∀ C, M.mg c = some (.ref C) → NoAttr M.K C f
theorem noAt_nil {M : Md} {f : Str} : NoAt M [] f := fun c hc => by cases hc
theorem noAt_cons {M : Md} {c f : Str} {C : Addr} {cs : List Str} (h : M.mg c = some (.ref C)) (n : PySem.W.findIn M.K (.ref C) f = some none) (r : NoAt M cs f) : NoAt M (c :: cs) f := fun x hx D hD => by
  rcases List.mem_cons.mp hx with z | z
  · subst z
    rw [h] at hD
    cases hD
    exact n
  · exact r x z D hD
def insW : W → Hg → Option (Str × List (Str × W))
  | .d (.ins c fs), _ => some (c, fs.map fun p => (p.1, .d p.2))
  | .ref i, G => match G[i]? with
    | some (.ins c fs) => some (c, fs)
    | _ => none
  | _, _ => none
def fldW (cs : List Str) (f : Str) (w : W) (G : Hg) : Option W := match insW w G with
  | some (c, fs) => if cs.contains c then fs.lookup f else none
  | none => none
theorem RpF.wf {M : Md} {F : Hp} {ι : Nat → Addr} {n : Nat} : ∀ {fs : List (Str × D)} {es : List (Str × V)}, RpF M F fs es → RpWF M F ι n (fs.map fun p => (p.1, .d p.2)) es
  | [], es, h => by simpa only [RpF, List.map_nil, RpWF] using h
  | (k, d) :: fs, es, h => by
    simp only [RpF] at h
    obtain ⟨x, er, rfl, h1, h2⟩ := h
    simp only [List.map_cons, RpWF, RpW]
    exact ⟨x, er, rfl, h1, RpF.wf h2⟩
theorem RpWF.look {M : Md} {F : Hp} {ι : Nat → Addr} {n : Nat} {f : Str} {w : W} : ∀ {fs : List (Str × W)} {es : List (Str × V)}, RpWF M F ι n fs es → fs.lookup f = some w → ∃ v, es.lookup f = some v ∧ RpW M F ι n w v
  | [], es, _, e => by cases e
  | (k, u) :: fs, es, h, e => by
    simp only [RpWF] at h
    obtain ⟨x, er, rfl, h1, h2⟩ := h
    rw [List.lookup_cons] at e ⊢
    cases q : f == k with
    | true => rw [q] at e; cases e; exact ⟨x, rfl, h1⟩
    | false => rw [q] at e; exact RpWF.look h2 e
theorem Sim.insV {C : GC} {F H : Hp} {ι : Nat → Addr} {G : Hg} {w : W} {c : Str} {fs : List (Str × W)} {v : V} (s : Sim C F H ι G) (e : insW w G = some (c, fs)) (r : RpW C.m F ι G.length w v) :
    ∃ a Ca es, v = .ref a ∧ C.m.mg c = some (.ref Ca) ∧ InsAt C.m.K H a Ca es ∧ RpWF C.m F ι G.length fs es := by
  cases w with
  | d x =>
    cases x with
    | ins c' fs' =>
      cases e
      simp only [RpW, Rp] at r
      obtain ⟨a, Ca, es, h1, h2, h3, h4⟩ := r
      exact ⟨a, Ca, es, h1, h2, h3.mono s.fh, h4.wf⟩
    | _ => cases e
  | tup ws => cases e
  | ref i =>
    simp only [insW] at e
    simp only [RpW] at r
    obtain ⟨hi, rfl⟩ := r
    cases q : G[i]? with
    | none => rw [q] at e; cases e
    | some o =>
      rw [q] at e
      cases o with
      | ins c' fs' =>
        cases e
        obtain ⟨_, _, Ca, dx, es, h0, hc, h1, h2⟩ := s.live i _ q (fun z => by cases z)
        exact ⟨_, Ca, es, rfl, h0, .ins dx hc h1, h2⟩
      | _ => cases e
def gFld (cs : List Str) (f : Str) (a : GE) : GE := fun ρ G => (a ρ G).bind fun w G1 => liftP (fldW cs f w G1) G1
section
variable {X : Cx} {e : Expr} {ge : GE} {f : Str} {cs : List Str} {pos : Pos}
theorem ge_fld (hn : NoAt (md X) cs f) (he : GJE X e ge) (hb : attributeBase e f X.env (eval e X.env) = eval e X.env := by rfl) : GJE X (.Attribute e f pos) (gFld cs f ge) := ⟨fun B F0 wx tk => by
  refine PE.imp (pe_fldA (he.run B F0 wx tk) hb) fun σ H Q ⟨F, ι, ρ, G, s, hr, hp⟩ => ?_
  refine ⟨F, ι, ρ, G, s, hr, (Post.fst hp).imp fun v H1 ⟨F1, ι1, w, G1, e1, s1, r1, p1⟩ => ?_⟩
  cases q : fldW cs f w G1 with
  | none => rw [q] at p1; exact p1.elim
  | some z =>
    rw [q] at p1
    unfold fldW at q
    cases q2 : insW w G1 with
    | none => rw [q2] at q; cases q
    | some p =>
      obtain ⟨c, fs⟩ := p
      rw [q2] at q
      simp only at q
      by_cases hc : cs.contains c = true
      · rw [if_pos hc] at q
        obtain ⟨a, Ca, es, rfl, h2, h3, h4⟩ := s1.insV q2 r1
        obtain ⟨x, h5, h6⟩ := h4.look q
        exact ⟨a, Ca, es, x, rfl, h3, hn c (by simpa using hc) Ca h2, h5, p1 x H1 (out_w s1 h6)⟩
      · rw [if_neg hc] at q; cases q⟩
end

/-! ### isinstance, own classes too -/
inductive TyE (K : PySem.W.Frag) (H : Hp) : V → Value → Prop where
  | x {v : V} {t : Value} (h : TyX K H v t) : TyE K H v t
  | i {a Ca : Addr} {es : List (Str × V)} (h : InsAt K H a Ca es) : TyE K H (.ref a) (.ref Ca)
theorem excC_cls {K : PySem.W.Frag} {Ca : Addr} (c : ExcC K Ca) : (PySem.W.clsIn K Ca).isSome = true := by
  obtain ⟨cd, h, _⟩ := PySem.W.any_some c.hd
  rw [h]
  rfl
theorem kit_ofE {X : Cx} {pins : List (Addr × Obj)} {σ : L2.St} {H : Hp} {s : Shared} {x : V} {u t : Value} (I : Inv X pins σ H s) (rx : RelV x u) (ty : TyE X.K H x t) : ∃ P : Heap → Prop, PySem.W.KitX X.K u t P ∧ P s.heap ∧ u ≠ .builtin "__main__.__loader__#opaque" := by
  cases ty with
  | x h => exact kit_of I rx h
  | i h =>
    cases (show u = Value.ref _ from rx)
    cases h with
    | ins dx c h => exact kit_of (x := .ref _) I rfl (.base (.ins h c.cl c.ha c.hn c.ht c.hm))
    | exc dx c h hd =>
      obtain ⟨ox, od, mA, J, _, _⟩ := exo_inst I h hd
      exact ⟨_, PySem.W.kitx_exc (excC_cls c) c.hg c.hk c.hs c.ha c.hn c.ht c.hm, J, fun z => nomatch z⟩
    | exc0 c h he =>
      obtain ⟨ox, J⟩ := exo_inst0 I h
      exact ⟨_, PySem.W.kitx_exc (excC_cls c) c.hg c.hk c.hs c.ha c.hn c.ht c.hm, J, fun z => nomatch z⟩
def rIsiE (K : PySem.W.Frag) : List V → Hp → VK → Prop := fun xs H Q => ∃ (x c : V) (t u : Value) (b : Bool), xs = [x, c] ∧ ClsV c u ∧ TyE K H x t ∧ PySem.W.kitOne K t u = some b ∧ Q (.bl b) H
def rIsiET (K : PySem.W.Frag) : List V → Hp → VK → Prop := fun xs H Q => ∃ (x : V) (tp : Addr) (cs : List V) (t : Value) (us : List Value) (b : Bool), xs = [x, .ref tp] ∧ H tp = some (.tup cs) ∧ Paired ClsV cs us ∧ TyE K H x t ∧ PySem.W.kitAny K t us = some b ∧ Q (.bl b) H
theorem call_isiE {X : Cx} : CallR X (.builtin "isinstance") (rIsiE X.K) := by
  intro pins s σ H xs us Q I r h
  obtain ⟨x, c, t, u, b, rfl, k, ty, e, q⟩ := h
  obtain ⟨u1, u2, rfl, r1, r2⟩ := vals2 r
  have e2 := k.eq r2
  subst e2
  obtain ⟨P, Z, p, hx⟩ := kit_ofE I r1 ty
  exact PySem.W.kia_one Z I.kIn p e hx fun tk => ⟨V.bl b, H, I.tok tk, rfl, q⟩
theorem call_isiET {X : Cx} : CallR X (.builtin "isinstance") (rIsiET X.K) := by
  intro pins s σ H xs us Q I r h
  obtain ⟨x, tp, cs, t, ws, b, rfl, hT, k, ty, e, q⟩ := h
  obtain ⟨u1, u2, rfl, r1, r2⟩ := vals2 r
  cases (show u2 = Value.ref tp from r2)
  obtain ⟨P, Z, p, hx⟩ := kit_ofE I r1 ty
  obtain ⟨_, its, rv, ob, h1, h2, n, h3⟩ := (show ObjOk X.prog X.w H s.heap tp (.tup cs) from I.hok tp _ hT)
  have e3 := ClsV.all k rv
  subst e3
  obtain ⟨oc, od, dt, sl⟩ := ob
  simp only at h2 h3
  subst h2 h3
  exact PySem.W.kia_tup Z I.kIn p h1 e hx fun tk => ⟨V.bl b, H, I.tok tk, rfl, q⟩
/-- what a value is: of a built-in type, or of an own class -/
inductive Tc where
  | b (t : Ty) | o (c : Str)
def tcW (w : W) (G : Hg) : Option Tc := match tyW w G with
  | some t => some (.b t)
  | none => (insW w G).map fun p => .o p.1
/-- the answers for one class or several -/
structure KitT (M : Md) (us : List Value) (f : Tc → Option Bool) : Prop where
  b : ∀ t r, f (.b t) = some r → PySem.W.kitAny M.K (.type t.name) us = some r
  o : ∀ c Ca r, f (.o c) = some r → M.mg c = some (.ref Ca) → PySem.W.kitAny M.K (.ref Ca) us = some r
theorem Sim.tc {C : GC} {F H : Hp} {ι : Nat → Addr} {G : Hg} {w : W} {t : Tc} {v : V} {us : List Value} {f : Tc → Option Bool} {r : Bool} (s : Sim C F H ι G) (e : tcW w G = some t) (k : KitT C.m us f) (hf : f t = some r) (rr : RpW C.m F ι G.length w v) :
    ∃ tv, TyE C.m.K H v tv ∧ PySem.W.kitAny C.m.K tv us = some r := by
  unfold tcW at e
  cases q : tyW w G with
  | some ty =>
    rw [q] at e
    cases e
    exact ⟨_, .x (s.ty q rr), k.b _ _ hf⟩
  | none =>
    rw [q] at e
    obtain ⟨p, q2, rfl⟩ := map_some e
    obtain ⟨c, fs⟩ := p
    obtain ⟨a, Ca, es, rfl, h2, h3, h4⟩ := s.insV q2 rr
    exact ⟨_, .i h3, k.o _ _ _ hf h2⟩
def gIsc (f : Tc → Option Bool) (a : GE) : GE := fun ρ G => (a ρ G).bind fun w G1 => match tcW w G1 with
  | some t => (match f t with
    | some r => .ok (.d (.bl r)) G1
    | none => .stuck)
  | none => .stuck
/-- the names of classes, and what they are -/
inductive ClsNm (X : Cx) : List Expr → List V → List Value → Prop where
  | nil : ClsNm X [] [] []
  | ty {x : Str} {p : Pos} {es : List Expr} {vs : List V} {us : List Value} (T : String) (hv : bootBuiltins x = some (.type T)) (hx : X.mg x = none) (hg : Gl X x) (hn : x ≠ "__name__") (hd : (x == ("__debug__" : Str)) = false)
      (hs : starEach (.Name x p :: es) X.env = (false, eval (.Name x p) X.env) :: starEach es X.env) (r : ClsNm X es vs us) : ClsNm X (.Name x p :: es) (.ty T :: vs) (.type T :: us)
  | own {x : Str} {p : Pos} {es : List Expr} {vs : List V} {us : List Value} (C : Addr) (hx : X.mg x = some (.ref C)) (hg : Gl X x) (hd : (x == ("__debug__" : Str)) = false)
      (hs : starEach (.Name x p :: es) X.env = (false, eval (.Name x p) X.env) :: starEach es X.env) (r : ClsNm X es vs us) : ClsNm X (.Name x p :: es) (.ref C :: vs) (.ref C :: us)
theorem ClsNm.pa {X : Cx} : ∀ {es : List Expr} {vs : List V} {us : List Value}, ClsNm X es vs us → PA X es (fun σ H Q => Q vs H)
  | _, _, _, .nil => pa_nil
  | _, _, _, .ty t hv hx hg hn hd hs r => PA.imp (pa_cons (pe_bltn (v := .ty _) hg hx hv rfl hn hd) r.pa hs) fun _ _ _ h => h
  | _, _, _, .own C hx hg hd hs r => PA.imp (pa_cons (pe_glob (v := .ref C) hg hx rfl hd) r.pa hs) fun _ _ _ h => h
theorem ClsNm.pair {X : Cx} : ∀ {es : List Expr} {vs : List V} {us : List Value}, ClsNm X es vs us → Paired ClsV vs us
  | _, _, _, .nil => .nil
  | _, _, _, .ty t hv hx hg hn hd hs r => .cons (.ty _) r.pair
  | _, _, _, .own C hx hg hd hs r => .cons (.own _) r.pair
theorem kitAny_one {K : PySem.W.Frag} {t u : Value} {r : Bool} (h : PySem.W.kitAny K t [u] = some r) : PySem.W.kitOne K t u = some r := by
  unfold PySem.W.kitAny at h
  cases q : PySem.W.kitOne K t u with
  | none => rw [q] at h; cases h
  | some b =>
    rw [q] at h
    cases b with
    | true => exact h
    | false => exact h
section
variable {X : Cx} {e : Expr} {ge : GE} {p p1 p2 pos : Pos} {f : Tc → Option Bool}
theorem ge_isc {x : Str} {vs : List V} {us : List Value} (hm : X.mg "isinstance" = none) (he : GJE X e ge) (hc : ClsNm X [.Name x p1] vs us) (k : KitT (md X) us f) (hg : Gl X "isinstance" := by rfl)
    (hs : starEach [e, .Name x p1] X.env = (false, eval e X.env) :: starEach [.Name x p1] X.env := by rfl) (hpl : (backTo pos (starEach [.Name x p1] X.env)).any (·.1) = false := by rfl) :
    GJE X (.Call (.Name "isinstance" p) [e, .Name x p1] [] pos) (gIsc f ge) := ⟨fun B F0 wx tk => by
  refine PE.imp (pe_callB call_isiE hg hm (by decide +kernel) (pa_cons (he.run B F0 wx tk) hc.pa hs) (by decide) (by decide) hs hpl) fun σ H Q ⟨F, ι, ρ, G, s, hr, hp⟩ => ?_
  refine ⟨F, ι, ρ, G, s, hr, (Post.fst hp).imp fun v H1 ⟨F1, ι1, w, G1, e1, s1, r1, q1⟩ => ?_⟩
  cases q : tcW w G1 with
  | none => rw [q] at q1; exact q1.elim
  | some t =>
    rw [q] at q1
    simp only at q1
    cases q2 : f t with
    | none => rw [q2] at q1; exact q1.elim
    | some r =>
      rw [q2] at q1
      obtain ⟨tv, h1, h2⟩ := s1.tc q k q2 r1
      have pr := hc.pair
      cases hc with
      | ty t hv hx hg hn hd hs r =>
        cases r
        exact ⟨v, _, tv, _, _, rfl, .ty _, h1, kitAny_one h2, q1 _ _ (out_flat s1 rpB)⟩
      | own C hx hg hd hs r =>
        cases r
        exact ⟨v, _, tv, _, _, rfl, .own _, h1, kitAny_one h2, q1 _ _ (out_flat s1 rpB)⟩⟩
theorem InsAt.there {K : PySem.W.Frag} {F : Hp} {a Ca : Addr} {es : List (Str × V)} (h : InsAt K F a Ca es) : ∃ o, F a = some o := by
  cases h with
  | ins dx c h => exact ⟨_, h⟩
  | exc dx c h hd => exact ⟨_, h⟩
  | exc0 c h he => exact ⟨_, h⟩
theorem ge_iscT {es : List Expr} {n : Nat} {vs : List V} {us : List Value} (hm : X.mg "isinstance" = none) (he : GJE X e ge) (hc : ClsNm X es vs us) (k : KitT (md X) us f) (hl : small vs.length = true := by rfl) (hg : Gl X "isinstance" := by rfl)
    (hs : starEach [e, .Tuple es n p1] X.env = (false, eval e X.env) :: starEach [.Tuple es n p1] X.env := by rfl) (hs2 : starEach [.Tuple es n p1] X.env = (false, eval (.Tuple es n p1) X.env) :: starEach [] X.env := by rfl) (hpl : (backTo pos (starEach [.Tuple es n p1] X.env)).any (·.1) = false := by rfl) :
    GJE X (.Call (.Name "isinstance" p) [e, .Tuple es n p1] [] pos) (gIsc f ge) := ⟨fun B F0 wx tk => by
  refine PE.imp (pe_callB call_isiET hg hm (by decide +kernel) (pa_cons (he.run B F0 wx tk) (pa_cons (pe_tup hc.pa) pa_nil hs2) hs) (by decide) (by decide) hs hpl) fun σ H Q ⟨F, ι, ρ, G, s, hr, hp⟩ => ?_
  refine ⟨F, ι, ρ, G, s, hr, (Post.fst hp).imp fun v H1 ⟨F1, ι1, w, G1, e1, s1, r1, q1⟩ => ?_⟩
  cases q : tcW w G1 with
  | none => rw [q] at q1; exact q1.elim
  | some t =>
    rw [q] at q1
    simp only at q1
    cases q2 : f t with
    | none => rw [q2] at q1; exact q1.elim
    | some r =>
      rw [q2] at q1
      refine ⟨small_le hl, fun tp htp => ?_⟩
      have s2 := s1.drop (o := .tup vs) htp
      obtain ⟨tv, h1, h2⟩ := s2.tc q k q2 r1
      exact ⟨v, tp, vs, tv, us, _, rfl, upd_same, hc.pair, h1, h2, q1 _ _ (out_flat s2 rpB)⟩⟩
end
end Gh

set_option Elab.async false
set_option linter.all false
set_option maxRecDepth 100000
set_option maxHeartbeats 4000000
namespace Gh
open PySem PySem.Spec PyProof.Rows L2

/-! ### exceptions are made -/
/-- the exception class c, its __init__ with these fields -/
structure ClsX (P : Program) (w : World) (K : PySem.W.Frag) (mg : Str → Option Value) (base : Heap) (c : Str) (fs : List Str) : Prop where
  ex : ∃ (C fI : Addr) (fd : FuncData) (ps : List Str), mg c = some (.ref C) ∧ OexC K C ∧ ExcC K C ∧ PySem.W.findIn K (.ref C) "__init__" = some (some (.ref fI)) ∧ PySem.W.typeIn K (.ref fI) = some (.type "function") ∧
    FnOk P w K mg base (L2.CX P w) 1 fI fd ps (spI K fs) ∧ Binds K fd ps [] ∧ (∀ f ∈ fs, PySem.W.findIn K (.ref C) f = some none)
/-- the exception class c, without an own __init__ -/
structure ClsX0 (K : PySem.W.Frag) (mg : Str → Option Value) (c : Str) : Prop where
  ex : ∃ (C : Addr), mg c = some (.ref C) ∧ OexC K C ∧ ExcC K C ∧ ∃ (B initId : String) (bmB : List Value) (newId : String), ExcBaseFacts B newId initId bmB ∧ PySem.W.excIn K C bmB newId = true
def mkX (c : Str) (fs : List Str) (ds : List D) : D := .ins c (fs.zip ds).reverse
def gMkX (c : Str) (fs : List Str) (a : GEs) : GE := fun ρ G => (a ρ G).bind fun ws G1 => match allD ws with
  | some ds => if ds.length = fs.length ∧ fs.length ≤ 900 then .ok (.d (mkX c fs ds)) G1 else .stuck
  | none => .stuck
def gRaise (c : Str) (fs : List Str) (a : GEs) : GS := fun ρ G => (a ρ G).toS ρ fun ws G1 => match allD ws with
  | some ds => if ds.length = fs.length ∧ fs.length ≤ 900 then .exc ⟨c, (fs.zip ds).reverse⟩ ρ G1 else .stuck
  | none => .stuck
theorem RpL.length {M : Md} {F : Hp} : ∀ {ds : List D} {xs : List V}, RpL M F ds xs → ds.length = xs.length
  | [], xs, h => by simp only [RpL] at h; subst h; rfl
  | d :: ds, xs, h => by
    simp only [RpL] at h
    obtain ⟨x, r, rfl, _, h2⟩ := h
    simp [RpL.length h2]
theorem RpF.app {M : Md} {F : Hp} : ∀ {fs gs : List (Str × D)} {es hs : List (Str × V)}, RpF M F fs es → RpF M F gs hs → RpF M F (fs ++ gs) (es ++ hs)
  | [], gs, es, hs, h, k => by simp only [RpF] at h; subst h; simpa using k
  | (n, d) :: fs, gs, es, hs, h, k => by
    simp only [RpF] at h
    obtain ⟨x, r, rfl, h1, h2⟩ := h
    simp only [List.cons_append, RpF]
    exact ⟨x, _, rfl, h1, h2.app k⟩
theorem rpF_zip {M : Md} {F : Hp} : ∀ {ns : List Str} {ds : List D} {xs : List V}, RpL M F ds xs → RpF M F (ns.zip ds).reverse (ns.zip xs).reverse
  | [], ds, xs, h => by simp [RpF]
  | n :: ns, [], xs, h => by simp only [RpL] at h; subst h; simp [RpF]
  | n :: ns, d :: ds, xs, h => by
    simp only [RpL] at h
    obtain ⟨x, r, rfl, h1, h2⟩ := h
    simp only [List.zip_cons_cons, List.reverse_cons]
    refine (rpF_zip h2).app ?_
    simp only [RpF]
    exact ⟨x, [], rfl, h1, rfl⟩
/-- the value -/
def tMkV (C : Addr) (sp : Sp) (ta : TA) : TE := fun σ H Q => ta σ H fun vs H1 => vs.length ≤ 1000 ∧ ∀ a, H1 a = none → sp (.ref a :: vs) (upd H1 a (exo a C none)) (fun v H2 => Q (.ref a) H2) (fun _ _ _ => False)
theorem pe_mkV {X : Cx} {x : Str} {C fI : Addr} {k : Nat} {fd : FuncData} {ps : List Str} {sp : Sp} {e : Expr} {es : List Expr} {ta : TA} {p pos : Pos} (T : OexC X.K C) (iC : PySem.W.findIn X.K (.ref C) "__init__" = some (some (.ref fI))) (tI : PySem.W.typeIn X.K (.ref fI) = some (.type "function"))
    (F1 : FnOk X.prog X.w X.K X.mg X.base (L2.CX X.prog X.w) k fI fd ps sp) (hr : Room (k + 1) X.A) (hb : Binds X.K fd ps []) (hx : Passes (L2.CX X.prog X.w) X (fun _ _ _ => False)) (hnn : ∀ vs H Q E, sp vs H Q E → sp vs H (fun v H2 => v = .non ∧ Q v H2) E) (hg : Gl X x) (hm : X.mg x = some (.ref C)) (ha : PA X (e :: es) ta)
    (hdb : (x == ("__debug__" : Str)) = false := by decide) (he : starEach (e :: es) X.env = (false, eval e X.env) :: starEach es X.env := by rfl) (hpl : (backTo pos (starEach es X.env)).any (·.1) = false := by rfl) :
    PE X (.Call (.Name x p) (e :: es) [] pos) (tMkV C sp ta) := by
  refine ⟨fun pins s σ H Q I h => ?_⟩
  obtain ⟨nm, q, N, bs, bm, sn, sub, ab, col, dd, k0, k1, k2, k3, k5, hC, hbm⟩ := T.cls
  refine wpAny_Call_Name_kw (ld_glob I hg hm ?_ hdb)
  refine PySem.W.callWith_K (h₀ := X.base) I.ok.mod.kin T.kC (thn (ha.run pos pins s σ H _ I h) fun us s1 ⟨vs, H1, I1, r1, hz, q1⟩ => ⟨I1.kIn, ?_⟩) he hpl
  show wpAny _ _ (call (.ref C) us) _ _ _
  obtain ⟨hp, g, dr, tk, os⟩ := s1
  have hsz : hp.objs.size ≤ hp.objs.size + 1 := Nat.le_succ _
  have hn : H1 (hp.objs.size + 1) = none := I1.hok.fresh hsz
  have hq := hnn _ _ _ _ (q1 (hp.objs.size + 1) hn)
  have kk : ∀ b o, hp.get? b = some o → ((hp.push (PySem.W.kdv_tup us)).push (PySem.HandSPX.excO C hp.objs.size)).get? b = some o := fun b o e => Heap.get?_push_of_some _ (Heap.get?_push_of_some _ e)
  have at1 : ((hp.push (PySem.W.kdv_tup us)).push (PySem.HandSPX.excO C hp.objs.size)).get? (hp.objs.size + 1) = some (PySem.HandSPX.excO C hp.objs.size) := by heap_get
  have I2 : Inv X pins σ (upd H1 (hp.objs.size + 1) (exo (hp.objs.size + 1) C none)) ⟨(hp.push (PySem.W.kdv_tup us)).push (PySem.HandSPX.excO C hp.objs.size), g, dr, tk, os⟩ :=
    I1.laid (t' := tk) (a := hp.objs.size + 1) (o := exo (hp.objs.size + 1) C none) (h' := (hp.push (PySem.W.kdv_tup us)).push (PySem.HandSPX.excO C hp.objs.size)) kk hsz (exo_ok at1)
  have r2 : Vals (V.ref (hp.objs.size + 1) :: vs) (Value.ref (hp.objs.size + 1) :: us) := .cons rfl r1
  have hl : (Value.ref (hp.objs.size + 1) :: us).length = ps.length := by
    have e := r2.length
    rw [F1.len _ _ _ _ hq] at e
    exact e.symm
  have hus : us.length ≤ sizeLine := by
    rw [← Paired.length r1, sizeLine_eq]
    omega
  have bb := hb _ (Value.ref (hp.objs.size + 1) :: us) I2.kIn (by rw [List.append_nil]; exact hl)
  rw [List.append_nil] at bb
  refine wpAny_call (PySem.HandSPX.call_own PySem.F.excBase_ValueError (fun Y => PySem.HandSPX.refsVE_contains Y bm hbm) (I1.kIn _ _ hC) (PySem.W.looks_findIn I1.kIn iC) (fun self => PySem.W.bind_fn I1.kIn self tI) hus
    (codeAny_mono (F1.run _ X.stack _ _ ⟨Value.ref (hp.objs.size + 1) :: us, []⟩ (Value.ref (hp.objs.size + 1) :: us) _ _ (fun _ _ _ => False) (hr.make C us []) (I2.env0.make C us []) bb r2 hq) fun r s' hq' => ?_))
  cases r with
  | error er => exact hx pins σ _ _ er s' I2 hq'
  | ok fl =>
    cases fl with
    | ret u =>
      obtain ⟨v, H2, I3, rv, ev, q2⟩ := I2.after hq'
      subst ev
      exact ⟨rv, .ref (hp.objs.size + 1), H2, I3, rfl, q2⟩
    | next => exact False.elim hq'
    | brk => exact False.elim hq'
    | cont => exact False.elim hq'
theorem spI_non {K : PySem.W.Frag} {fs : List Str} : ∀ vs H Q E, spI K fs vs H Q E → spI K fs vs H (fun v H2 => v = .non ∧ Q v H2) E := fun vs H Q E ⟨a, C, ys, h1, h2, h3, h4, h5, h6⟩ => ⟨a, C, ys, h1, h2, h3, h4, h5, fun dx n ne => ⟨rfl, h6 dx n ne⟩⟩
theorem pass_none {X : Cx} {wx : WX} (tk : Takes X wx) : Passes (L2.CX X.prog X.w) X (fun _ _ _ => False) := fun pins σ H s e s' I c => passes_call tk (fun _ _ _ _ h => h.elim) pins σ H s e s' I c
section
variable {X : Cx} {x : Str} {fs : List Str} {e : Expr} {es : List Expr} {gs : GEs} {p pos pos' : Pos} {j : Nat}
theorem ge_mkX (c : ClsX X.prog X.w X.K X.mg X.base x fs) (hr : Room j X.A) (hj : 2 ≤ j) (ha : GJA X (e :: es) gs) (hg : Gl X x := by rfl)
    (hdb : (x == ("__debug__" : Str)) = false := by decide) (he : starEach (e :: es) X.env = (false, eval e X.env) :: starEach es X.env := by rfl) (hpl : (backTo pos (starEach es X.env)).any (·.1) = false := by rfl) :
    GJE X (.Call (.Name x p) (e :: es) [] pos) (gMkX x fs gs) := ⟨fun B F0 wx tk => by
  obtain ⟨C, fI, fd, ps, hm, T, EC, iC, tI, Fn, hb, hno⟩ := c.ex
  refine PE.imp (pe_mkV T iC tI Fn (hr.mono hj) hb (pass_none tk) spI_non hg hm (ha.run B F0 wx tk) hdb he hpl) fun σ H Q ⟨F, ι, ρ, G, s, he, hp⟩ => ?_
  refine ⟨F, ι, ρ, G, s, he, (PostL.fst hp).imp fun vs H1 ⟨F1, ι1, ws, G1, e1, s1, r1, p1⟩ => ?_⟩
  cases q : allD ws with
  | none => rw [q] at p1; exact p1.elim
  | some ds =>
    rw [q] at p1
    simp only at p1
    by_cases hc : ds.length = fs.length ∧ fs.length ≤ 900
    · rw [if_pos hc] at p1
      have rl := allD_rp q r1
      have hlen := rl.length
      refine ⟨by omega, fun a na => ⟨a, C, vs, rfl, by omega, upd_same, T, hno, fun dx nd nda => ?_⟩⟩
      rw [upd_upd]
      have nd' : upd H1 a (exo a C (some dx)) dx = none := by rw [upd_ne nda]; rw [upd_ne nda] at nd; exact nd
      obtain ⟨s2, e2⟩ := s1.lay (o := exo a C (some dx)) na
      obtain ⟨s3, e3⟩ := s2.lay (o := exd dx (fs.zip vs).reverse) nd'
      refine p1 _ _ ⟨_, _, e2.trans e3, s3, ?_⟩
      simp only [RpW, mkX, Rp]
      refine ⟨a, C, (fs.zip vs).reverse, rfl, hm, .exc dx EC (by rw [upd_ne (Ne.symm nda)]; exact upd_same) upd_same, rpF_zip (rl.mono (e2.trans e3).fr)⟩
    · rw [if_neg hc] at p1; exact p1.elim⟩
theorem gs_raise (c : ClsX X.prog X.w X.K X.mg X.base x fs) (hr : Room j X.A) (hj : 2 ≤ j) (hcm : X.calm = true) (ha : GJA X (e :: es) gs) (hg : Gl X x := by rfl)
    (hdb : (x == ("__debug__" : Str)) = false := by decide) (he : starEach (e :: es) X.env = (false, eval e X.env) :: starEach es X.env := by rfl) (hpl : (backTo pos (starEach es X.env)).any (·.1) = false := by rfl) :
    GJS X (.Raise (some (.Call (.Name x p) (e :: es) [] pos)) none pos') (gRaise x fs gs) := ⟨fun B F0 wx tk => by
  obtain ⟨C, fI, fd, ps, hm, T, EC, iC, tI, Fn, hb, hno⟩ := c.ex
  refine PS.imp (ps_raise hcm tk (pmk_oex (ds := []) (dvs := []) T iC tI Fn (hr.mono hj) hb .nil (pass_none tk) hg hm (ha.run B F0 wx tk) hdb he hpl)) fun D σ H ⟨F, ι, ρ, G, s, he, hp⟩ => ?_
  unfold gRaise at hp
  refine ⟨F, ι, ρ, G, s, he, ?_⟩
  cases qg : gs ρ G with
  | stuck => rw [qg] at hp; exact hp.elim
  | exc x G' => rw [qg] at hp; exact fun cls d H' ⟨F', ι', a, b, c⟩ => hp cls d σ H' F' ι' a b (he.mono a) c
  | ok ws G1 =>
    rw [qg] at hp
    rintro vs H1 ⟨F1, ι1, e1, s1, r1⟩
    simp only [Res.toS] at hp
    cases q : allD ws with
    | none => rw [q] at hp; exact hp.elim
    | some ds =>
      rw [q] at hp
      simp only at hp
      by_cases hc : ds.length = fs.length ∧ fs.length ≤ 900
      · rw [if_pos hc] at hp
        have rl := allD_rp q r1
        have hlen := rl.length
        refine ⟨by omega, fun a na => ⟨a, C, vs, by rw [List.append_nil], by omega, upd_same, T, hno, fun dx nd nda => ?_⟩⟩
        rw [upd_upd]
        have nd' : H1 dx = none := by rw [upd_ne nda] at nd; exact nd
        refine ⟨rfl, dx, (fs.zip vs).reverse, by rw [upd_ne (Ne.symm nda)]; exact upd_same, upd_same, nd', ?_⟩
        have eH : upd (del (upd (upd H1 a (exo a C (some dx))) dx (exd dx (fs.zip vs).reverse)) a) dx (.xd (fs.zip vs).reverse) = upd H1 dx (.xd (fs.zip vs).reverse) := by
          funext b
          by_cases hbd : b = dx
          · rw [hbd, upd_same, upd_same]
          · rw [upd_ne hbd, upd_ne hbd]
            by_cases hba : b = a
            · rw [hba, del_same, na]
            · rw [del_ne hba, upd_ne hbd, upd_ne hba]
        rw [eH]
        obtain ⟨s2, e2⟩ := s1.lay (o := .xd (fs.zip vs).reverse) nd'
        refine hp _ _ _ _ _ _ (e1.trans e2) s2 (he.mono (e1.trans e2)) ⟨C, hm, EC, rfl, _, upd_same, rpF_zip (rl.mono e2.fr)⟩
      · rw [if_neg hc] at hp; exact hp.elim⟩
/-- X(), no own __init__ -/
theorem pe_mkV0 {C : Addr} {bmB : List Value} {B newId initId : String} (Fb : ExcBaseFacts B newId initId bmB) (q : PySem.W.excIn X.K C bmB newId = true) (gC : X.mg x = some (.ref C)) (kC : PySem.W.keepIn X.K (.ref C) = true) (hg : Gl X x) (hdb : (x == ("__debug__" : Str)) = false := by decide) :
    PE X (.Call (.Name x p) [] [] pos) (fun σ H Q => ∀ a, H a = none → Q (.ref a) (upd H a (exo a C none))) := by
  refine ⟨fun pins s σ H Q I h => ?_⟩
  refine wpAny_Call_Name_kw (ld_glob I hg gC ?_ hdb)
  refine PySem.W.callWith_K0 I.kIn kC ?_
  show wpAny _ _ (call (.ref C) []) _ _ _
  obtain ⟨bm, N, nm, qn, bs, hdct, sn, sub, ab, col, dd, k0, k1, k2, k3, k5, mN, hC, hN, hni, T⟩ := exc_obj I.kIn q
  refine wpAny_call_exc_subT Fb T hC hN hni (fun h' a hm => ?_) (Nat.zero_le _)
  have hn : H a = none := I.hok.gone hm.new
  obtain ⟨t, ht, _, _⟩ := hm.there
  exact ⟨.ref a, upd H a (exo a C none), I.laidN hm.keeps hm.new hn (exo_ok ht), rfl, h a hn⟩
theorem pmk_own0 {C : Addr} {bmB : List Value} {B newId initId : String} (Fb : ExcBaseFacts B newId initId bmB) (q : PySem.W.excIn X.K C bmB newId = true) (gC : X.mg x = some (.ref C)) (kC : PySem.W.keepIn X.K (.ref C) = true) (r : Raises X (.ref C)) (hg : Gl X x) (hdb : (x == ("__debug__" : Str)) = false := by decide) :
    PMk X (.Call (.Name x p) [] [] pos) (fun σ H Q => Q (.ref C) none H) := by
  intro pins s σ H Q I h
  refine wpAny_Call_Name_kw (ld_glob I hg gC ?_ hdb)
  refine PySem.W.callWith_K0 I.kIn kC ?_
  show wpAny _ _ (call (.ref C) []) _ _ _
  obtain ⟨bm, N, nm, qn, bs, hdct, sn, sub, ab, col, dd, k0, k1, k2, k3, k5, mN, hC, hN, hni, T⟩ := exc_obj I.kIn q
  refine wpAny_call_exc_subT Fb T hC hN hni (fun h' a hm => ?_) (Nat.zero_le _)
  exact mk_of I hm r h (I.hok.gone hm.new)
def gMk0 (c : Str) : GE := fun _ G => .ok (.d (.ins c [])) G
def gRaise0 (c : Str) : GS := fun ρ G => .exc ⟨c, []⟩ ρ G
theorem ge_mk0 (c : ClsX0 X.K X.mg x) (hg : Gl X x := by rfl) (hdb : (x == ("__debug__" : Str)) = false := by decide) : GJE X (.Call (.Name x p) [] [] pos) (gMk0 x) := ⟨fun B F0 wx tk => by
  obtain ⟨C, hm, T, EC, B', initId, bmB, newId, Fb, q⟩ := c.ex
  refine PE.imp (pe_mkV0 Fb q hm T.kC hg hdb) fun σ H Q ⟨F, ι, ρ, G, s, he, hp⟩ a na => ?_
  obtain ⟨s2, e2⟩ := s.lay (o := exo a C none) na
  refine hp _ _ ⟨_, _, e2, s2, ?_⟩
  simp only [RpW, Rp]
  exact ⟨a, C, [], rfl, hm, .exc0 EC upd_same rfl, by simp only [RpF]⟩⟩
theorem gs_raise0 (c : ClsX0 X.K X.mg x) (hcm : X.calm = true) (hg : Gl X x := by rfl) (hdb : (x == ("__debug__" : Str)) = false := by decide) : GJS X (.Raise (some (.Call (.Name x p) [] [] pos)) none pos') (gRaise0 x) := ⟨fun B F0 wx tk => by
  obtain ⟨C, hm, T, EC, B', initId, bmB, newId, Fb, q⟩ := c.ex
  refine PS.imp (ps_raise hcm tk (pmk_own0 Fb q hm T.kC (raises_own T.exC T.tyC) hg hdb)) fun D σ H ⟨F, ι, ρ, G, s, he, hp⟩ => ?_
  exact hp _ none σ H F ι .refl s he ⟨C, hm, EC, rfl, rfl⟩⟩
end
end Gh

set_option Elab.async false
set_option linter.all false
set_option maxRecDepth 100000
set_option maxHeartbeats 4000000
namespace Gh
open PySem PySem.Spec PyProof.Rows L2

/-! ### facts of classes, as bools -/
theorem band {a b : Bool} (h : (a && b) = true) : a = true ∧ b = true := Bool.and_eq_true_iff.mp h
def excCb (K : PySem.W.Frag) (D : Addr) : Bool :=
  decide (PySem.W.findIn K (.ref D) "__getattribute__" = some (some (.builtin "BaseException.__getattribute__"))) && (decide (PySem.W.findIn K (.ref D) "__getattr__" = some none) && (decide (PySem.W.subIn K (.ref D) (.type "BaseException") = some true) && (PySem.W.hasDictIn K D &&
    (decide (PySem.W.findIn K (.ref D) "__class__" = some (some (.builtin "object.__class__"))) && (decide (PySem.W.specialIn K (.builtin "object.__class__") "__get__" = some (some (.builtin "getset_descriptor.__get__"))) && (decide (PySem.W.takesIn K (.builtin "object.__class__") = some true) && decide (PySem.W.mroIn K D (.type "object") = some true)))))))
theorem excCb_ok {K : PySem.W.Frag} {D : Addr} (h : excCb K D = true) : ExcC K D := by
  obtain ⟨h1, h⟩ := band h
  obtain ⟨h2, h⟩ := band h
  obtain ⟨h3, h⟩ := band h
  obtain ⟨h4, h⟩ := band h
  obtain ⟨h5, h⟩ := band h
  obtain ⟨h6, h⟩ := band h
  obtain ⟨h7, h8⟩ := band h
  exact ⟨of_decide_eq_true h1, of_decide_eq_true h2, of_decide_eq_true h3, h4, of_decide_eq_true h5, of_decide_eq_true h6, of_decide_eq_true h7, of_decide_eq_true h8⟩
def oexOb (K : PySem.W.Frag) (C : Addr) : Bool := match K.lookup C with
  | some ⟨.type "type", _, .cls cd, sl⟩ => (match cd.mro, sl.toList with
    | .ref D :: bm, [_, _, _, _, some (.builtin n), _] => decide (D = C) && (decide (n = "ValueError.__new__") && (!cd.hasDel && (cd.hasDict && PySem.HandSPX.refsVE bm)))
    | _, _ => false)
  | _ => false
def oexb (K : PySem.W.Frag) (C : Addr) : Bool := oexOb K C && (decide (PySem.W.findIn K (.ref C) "__setattr__" = some (some (.builtin "object.__setattr__"))) && (decide (PySem.W.subIn K (.ref C) (.type "BaseException") = some true) && (decide (PySem.W.typeIn K (.ref C) = some (.type "type")) && PySem.W.keepIn K (.ref C))))
theorem oexb_ok {K : PySem.W.Frag} {C : Addr} (h : oexb K C = true) : OexC K C := by
  obtain ⟨h1, h⟩ := band h
  obtain ⟨h2, h⟩ := band h
  obtain ⟨h3, h⟩ := band h
  obtain ⟨h4, h5⟩ := band h
  refine ⟨?_, of_decide_eq_true h2, of_decide_eq_true h3, of_decide_eq_true h4, h5⟩
  unfold oexOb at h1
  split at h1
  · rename_i dd cd sl ho
    split at h1
    · rename_i D bm k0 k1 k2 k3 n k5 hm hs
      obtain ⟨g1, h1⟩ := band h1
      obtain ⟨g2, h1⟩ := band h1
      obtain ⟨g3, h1⟩ := band h1
      obtain ⟨g4, g5⟩ := band h1
      have e1 := of_decide_eq_true g1
      have e2 := of_decide_eq_true g2
      obtain ⟨nm, bs, mro, ns, qn, hd, sn, sub, ab, col, del⟩ := cd
      obtain ⟨l⟩ := sl
      simp only [Bool.not_eq_true'] at hm hs g3 g4
      subst hm hs e1 e2 g3 g4
      exact ⟨nm, qn, ns, bs, bm, sn, sub, ab, col, dd, k0, k1, k2, k3, k5, ho, g5⟩
    · cases h1
  · cases h1
/-- an instance's class -/
def inCb (K : PySem.W.Frag) (D : Addr) : Bool := PySem.W.plainGet K D Str.empty && (PySem.W.hasDictIn K D && (PySem.W.plainOver K D && (decide (PySem.W.findIn K (.ref D) "__setattr__" = some (some (.builtin "object.__setattr__"))) &&
    (decide (PySem.W.findIn K (.ref D) "__class__" = some (some (.builtin "object.__class__"))) && (decide (PySem.W.specialIn K (.builtin "object.__class__") "__get__" = some (some (.builtin "getset_descriptor.__get__"))) && (decide (PySem.W.takesIn K (.builtin "object.__class__") = some true) && decide (PySem.W.mroIn K D (.type "object") = some true)))))))
theorem inCb_ok {K : PySem.W.Frag} {D : Addr} (h : inCb K D = true) : InC K D := by
  obtain ⟨h1, h⟩ := band h
  obtain ⟨h2, h⟩ := band h
  obtain ⟨h3, h⟩ := band h
  obtain ⟨h4, h⟩ := band h
  obtain ⟨h5, h⟩ := band h
  obtain ⟨h6, h⟩ := band h
  obtain ⟨h7, h8⟩ := band h
  exact ⟨⟨h1, h2, h3, of_decide_eq_true h4⟩, of_decide_eq_true h5, of_decide_eq_true h6, of_decide_eq_true h7, of_decide_eq_true h8⟩
/-- an exception class with an __init__ of these fields -/
def clsXb (K : PySem.W.Frag) (c : Str) (fs : List Str) : Bool := He.eqO (PySem.W.nsIn K mainGlobals c) (some (some (.ref (He.ga K c)))) && (oexb K (He.ga K c) && (excCb K (He.ga K c) && (decide (PySem.W.findIn K (.ref (He.ga K c)) "__init__" = some (some (.ref (He.ma K (He.ga K c) "__init__")))) &&
  (decide (PySem.W.typeIn K (.ref (He.ma K (He.ga K c) "__init__")) = some (.type "function")) && fs.all fun f => decide (PySem.W.findIn K (.ref (He.ga K c)) f = some none)))))
def clsX0b (K : PySem.W.Frag) (c : Str) : Bool := He.eqO (PySem.W.nsIn K mainGlobals c) (some (some (.ref (He.ga K c)))) && (oexb K (He.ga K c) && (excCb K (He.ga K c) && PySem.W.excIn K (He.ga K c) He.veBase "ValueError.__new__"))
section
variable {P : Program} {w : World} {K : PySem.W.Frag} {h : Heap} {mg : Str → Option Value} {base : Heap}
theorem clsXb_ok (X : K.In h) (G : h.Ns mainGlobals mg) {c : Str} {fs : List Str} {fd : FuncData} {ps : List Str} (b : clsXb K c fs = true) (F : FnOk P w K mg base (L2.CX P w) 1 (He.ma K (He.ga K c) "__init__") fd ps (spI K fs)) (hb : Binds K fd ps []) : ClsX P w K mg base c fs := by
  obtain ⟨h1, b⟩ := band b
  obtain ⟨h2, b⟩ := band b
  obtain ⟨h3, b⟩ := band b
  obtain ⟨h4, b⟩ := band b
  obtain ⟨h5, h6⟩ := band b
  exact ⟨_, _, fd, ps, PySem.W.mg_of X G (He.eqO_ok h1), oexb_ok h2, excCb_ok h3, of_decide_eq_true h4, of_decide_eq_true h5, F, hb, fun f hf => of_decide_eq_true (List.all_eq_true.mp h6 f hf)⟩
theorem clsX0b_ok (X : K.In h) (G : h.Ns mainGlobals mg) {c : Str} (b : clsX0b K c = true) : ClsX0 K mg c := by
  obtain ⟨h1, b⟩ := band b
  obtain ⟨h2, b⟩ := band b
  obtain ⟨h3, h4⟩ := band b
  exact ⟨_, PySem.W.mg_of X G (He.eqO_ok h1), oexb_ok h2, excCb_ok h3, "ValueError", _, _, _, PySem.F.excBase_ValueError, h4⟩
end
/-- the answers of isinstance: by tables -/
def tcf (bt : List (Ty × Bool)) (ot : List (Str × Bool)) : Tc → Option Bool
  | .b t => bt.lookup t
  | .o c => ot.lookup c
/-- a class by name: a built-in's | the module's -/
inductive Cn where
  | b (T : String) | o (x : Str)
def Cn.v (K : PySem.W.Frag) : Cn → Value
  | .b T => .type T
  | .o x => .ref (He.ga K x)
def kitTb (K : PySem.W.Frag) (us : List Cn) (bt : List (Ty × Bool)) (ot : List (Str × Bool)) : Bool := (bt.all fun p => decide (PySem.W.kitAny K (.type p.1.name) (us.map (Cn.v K)) = some p.2)) && (ot.all fun p => He.eqO (PySem.W.nsIn K mainGlobals p.1) (some (some (.ref (He.ga K p.1)))) && decide (PySem.W.kitAny K (.ref (He.ga K p.1)) (us.map (Cn.v K)) = some p.2))
theorem look_mem {α β : Type} [BEq α] [LawfulBEq α] {a : α} {b : β} : ∀ {l : List (α × β)}, l.lookup a = some b → (a, b) ∈ l
  | [], h => by cases h
  | (x, y) :: l, h => by
    rw [List.lookup_cons] at h
    cases q : a == x with
    | true => rw [q] at h; cases h; rw [eq_of_beq q]; exact List.mem_cons_self
    | false => rw [q] at h; exact List.mem_cons_of_mem _ (look_mem h)
theorem kitTb_ok {K : PySem.W.Frag} {h : Heap} {mg : Str → Option Value} (X : K.In h) (G : h.Ns mainGlobals mg) {us : List Cn} {bt : List (Ty × Bool)} {ot : List (Str × Bool)} (b : kitTb K us bt ot = true) : KitT ⟨K, mg⟩ (us.map (Cn.v K)) (tcf bt ot) := by
  obtain ⟨h1, h2⟩ := band b
  refine ⟨fun t r hr => ?_, fun c Ca r hr hc => ?_⟩
  · exact of_decide_eq_true (List.all_eq_true.mp h1 _ (look_mem (show bt.lookup t = some r from hr)))
  · have z := List.all_eq_true.mp h2 _ (look_mem (show ot.lookup c = some r from hr))
    obtain ⟨z1, z2⟩ := band z
    have e := PySem.W.mg_of X G (He.eqO_ok z1)
    have hc' : mg c = some (.ref Ca) := hc
    rw [e] at hc'
    cases hc'
    exact of_decide_eq_true z2
def noAtb (K : PySem.W.Frag) (cs : List Str) (f : Str) : Bool := cs.all fun c => He.eqO (PySem.W.nsIn K mainGlobals c) (some (some (.ref (He.ga K c)))) && decide (PySem.W.findIn K (.ref (He.ga K c)) f = some none)
theorem noAtb_ok {K : PySem.W.Frag} {h : Heap} {mg : Str → Option Value} (X : K.In h) (G : h.Ns mainGlobals mg) {cs : List Str} {f : Str} (b : noAtb K cs f = true) : NoAt ⟨K, mg⟩ cs f := fun c hc C hC => by
  have z := List.all_eq_true.mp b c hc
  obtain ⟨z1, z2⟩ := band z
  have e := PySem.W.mg_of X G (He.eqO_ok z1)
  have hC' : mg c = some (.ref C) := hC
  rw [e] at hC'
  cases hC'
  exact show PySem.W.findIn K (.ref (He.ga K c)) f = some none from of_decide_eq_true z2
theorem glob_ok {K : PySem.W.Frag} {h : Heap} {mg : Str → Option Value} (X : K.In h) (G : h.Ns mainGlobals mg) {x : Str} (b : He.eqO (PySem.W.nsIn K mainGlobals x) (some (some (.ref (He.ga K x)))) = true) : mg x = some (.ref (He.ga K x)) := PySem.W.mg_of X G (He.eqO_ok b)
theorem freeb_ok {K : PySem.W.Frag} {h : Heap} {mg : Str → Option Value} (X : K.In h) (G : h.Ns mainGlobals mg) {x : Str} (b : He.eqO (PySem.W.nsIn K mainGlobals x) (some none) = true) : mg x = none := PySem.W.mg_none_of X G (He.eqO_ok b)

/-! ### a law's end -/
theorem walk_ofW {l : PySem.W.OpenLaw} {n k : Nat} {q : Program} {loose : List Str} {XP : (Str → Option Value) → Heap → Prop} {YP : World → Heap → Prop} {d : DefRec} {x : Str} {f : List D → PRes}
    (hn : l.most = some n) (hn2 : n ≤ sizeLine) (hdf : d.params.defaults = []) (hr : Room k callerA)
    (F : ∀ (w : World) (mg : Str → Option Value) (fa : Addr) (h : Heap), YP w h → h.Ns mainGlobals mg → mg d.name = some (.ref fa) →
      ∃ (K : PySem.W.Frag) (fd : FuncData), K.In h ∧ (∀ (s : Shared) (u : Value), BindsTo s fd ⟨[u], []⟩ [(x, u)]) ∧ ∀ base : Heap, K.In base → base.Ns mainGlobals mg → FnOk l.prog w K mg base (L2.CX l.prog w) k fa fd [x] (spP ⟨K, mg⟩ 1 f))
    (hf : ∀ ns : List Int, ns.length ≤ n → (∀ z ∈ ns, Builtin.Int.intBits z ≤ 1048576) → f [.lst (ns.map .int)] = .ok (.bl true)) :
    PySem.W.WalkO q loose XP YP l.row.toRowW d [] (fun f vs => PySem.call f vs) := by
  refine Att.attach_callB hn hdf fun w s₀ s₁ mg mb fa o pm cd doc a vs ns G Y ho hd hcd hmg hobj hints hlen hbits hg => ?_
  obtain ⟨K, fd, KX, hb, hF⟩ := F w mg fa _ Y G.T.g hmg
  refine law_call KX G.T.g G.T.b G.T.builtins G.T.nolimit hg hobj hints (Nat.le_trans hlen hn2) hr hF hb (fun H hO hS => ?_) fun H e s' c => ?_
  · refine ⟨H, [.lst (ns.map .int)], rfl, Same.refl _, ?_, ?_⟩
    · have gen : ∀ l : List Int, RpL ⟨K, mg⟩ H (l.map D.int) (l.map V.int) := by
        intro l
        induction l with
        | nil => simp only [List.map_nil, RpL]
        | cons i l ih => simp only [List.map_cons, RpL, Rp]; exact ⟨_, _, rfl, rfl, ih⟩
      simp only [RpL, Rp]
      exact ⟨_, _, rfl, ⟨_, _, rfl, hS, gen ns⟩, rfl⟩
    · rw [hf ns hlen hbits]
      intro v F' H' _ _ _ _ r
      simp only [Rp] at r
      exact r
  · obtain ⟨_, _, _, _, _, _, _, _, _, _, _, _, z⟩ := c
    exact z
end Gh

set_option Elab.async false
set_option linter.all false
set_option maxRecDepth 100000
set_option maxHeartbeats 8000000
namespace K42
open PySem PySem.Spec PyProof.Rows L2 Gh

def top (i : Nat) : Stmt := PySem.Challenge.pw_leastmarks_k42_errors_of_one_family.main.body.getD i (.Pass ⟨0, 0, 0, 0⟩)
def inCls (i j : Nat) : Stmt := match top i with
  | .ClassDef _ _ _ b _ _ _ _ _ _ _ => b.getD j (.Pass ⟨0, 0, 0, 0⟩)
  | _ => .Pass ⟨0, 0, 0, 0⟩
/-! the names of values -/
def kb_NoFunction : List (Ty × Bool) := [(.non, false), (.bl, false), (.int, false), (.str, false), (.tup, false), (.lst, false), (.dic, false)]
def ko_NoFunction : List (Str × Bool) := [("MarkError", false), ("NoProgram", false), ("NoText", false), ("NoFunction", true), ("NoPoint", false), ("NoPlan", false), ("HasFaults", false), ("NoChoices", false), ("NoStops", false), ("NoLowered", false), ("NoWrites", false), ("NoSpare", false), ("NoImage", false), ("NoModule", false)]
def ku_NoFunction : List Cn := [.o "NoFunction"]
abbrev k_NoFunction : Tc → Option Bool := tcf kb_NoFunction ko_NoFunction
def kb_NoText : List (Ty × Bool) := [(.non, false), (.bl, false), (.int, false), (.str, false), (.tup, false), (.lst, false), (.dic, false)]
def ko_NoText : List (Str × Bool) := [("MarkError", false), ("NoProgram", false), ("NoText", true), ("NoFunction", false), ("NoPoint", false), ("NoPlan", false), ("HasFaults", false), ("NoChoices", false), ("NoStops", false), ("NoLowered", false), ("NoWrites", false), ("NoSpare", false), ("NoImage", false), ("NoModule", false)]
def ku_NoText : List Cn := [.o "NoText"]
abbrev k_NoText : Tc → Option Bool := tcf kb_NoText ko_NoText
def kb_NoProgram : List (Ty × Bool) := [(.non, false), (.bl, false), (.int, false), (.str, false), (.tup, false), (.lst, false), (.dic, false)]
def ko_NoProgram : List (Str × Bool) := [("MarkError", false), ("NoProgram", true), ("NoText", false), ("NoFunction", false), ("NoPoint", false), ("NoPlan", false), ("HasFaults", false), ("NoChoices", false), ("NoStops", false), ("NoLowered", false), ("NoWrites", false), ("NoSpare", false), ("NoImage", false), ("NoModule", false)]
def ku_NoProgram : List Cn := [.o "NoProgram"]
abbrev k_NoProgram : Tc → Option Bool := tcf kb_NoProgram ko_NoProgram
def kb_HasFaults : List (Ty × Bool) := [(.non, false), (.bl, false), (.int, false), (.str, false), (.tup, false), (.lst, false), (.dic, false)]
def ko_HasFaults : List (Str × Bool) := [("MarkError", false), ("NoProgram", false), ("NoText", false), ("NoFunction", false), ("NoPoint", false), ("NoPlan", false), ("HasFaults", true), ("NoChoices", false), ("NoStops", false), ("NoLowered", false), ("NoWrites", false), ("NoSpare", false), ("NoImage", false), ("NoModule", false)]
def ku_HasFaults : List Cn := [.o "HasFaults"]
abbrev k_HasFaults : Tc → Option Bool := tcf kb_HasFaults ko_HasFaults
def kb_NoPlan : List (Ty × Bool) := [(.non, false), (.bl, false), (.int, false), (.str, false), (.tup, false), (.lst, false), (.dic, false)]
def ko_NoPlan : List (Str × Bool) := [("MarkError", false), ("NoProgram", false), ("NoText", false), ("NoFunction", false), ("NoPoint", false), ("NoPlan", true), ("HasFaults", false), ("NoChoices", false), ("NoStops", false), ("NoLowered", false), ("NoWrites", false), ("NoSpare", false), ("NoImage", false), ("NoModule", false)]
def ku_NoPlan : List Cn := [.o "NoPlan"]
abbrev k_NoPlan : Tc → Option Bool := tcf kb_NoPlan ko_NoPlan
def kb_NoPoint : List (Ty × Bool) := [(.non, false), (.bl, false), (.int, false), (.str, false), (.tup, false), (.lst, false), (.dic, false)]
def ko_NoPoint : List (Str × Bool) := [("MarkError", false), ("NoProgram", false), ("NoText", false), ("NoFunction", false), ("NoPoint", true), ("NoPlan", false), ("HasFaults", false), ("NoChoices", false), ("NoStops", false), ("NoLowered", false), ("NoWrites", false), ("NoSpare", false), ("NoImage", false), ("NoModule", false)]
def ku_NoPoint : List Cn := [.o "NoPoint"]
abbrev k_NoPoint : Tc → Option Bool := tcf kb_NoPoint ko_NoPoint
def kb_NoLowered : List (Ty × Bool) := [(.non, false), (.bl, false), (.int, false), (.str, false), (.tup, false), (.lst, false), (.dic, false)]
def ko_NoLowered : List (Str × Bool) := [("MarkError", false), ("NoProgram", false), ("NoText", false), ("NoFunction", false), ("NoPoint", false), ("NoPlan", false), ("HasFaults", false), ("NoChoices", false), ("NoStops", false), ("NoLowered", true), ("NoWrites", false), ("NoSpare", false), ("NoImage", false), ("NoModule", false)]
def ku_NoLowered : List Cn := [.o "NoLowered"]
abbrev k_NoLowered : Tc → Option Bool := tcf kb_NoLowered ko_NoLowered
def kb_NoStops : List (Ty × Bool) := [(.non, false), (.bl, false), (.int, false), (.str, false), (.tup, false), (.lst, false), (.dic, false)]
def ko_NoStops : List (Str × Bool) := [("MarkError", false), ("NoProgram", false), ("NoText", false), ("NoFunction", false), ("NoPoint", false), ("NoPlan", false), ("HasFaults", false), ("NoChoices", false), ("NoStops", true), ("NoLowered", false), ("NoWrites", false), ("NoSpare", false), ("NoImage", false), ("NoModule", false)]
def ku_NoStops : List Cn := [.o "NoStops"]
abbrev k_NoStops : Tc → Option Bool := tcf kb_NoStops ko_NoStops
def kb_NoChoices : List (Ty × Bool) := [(.non, false), (.bl, false), (.int, false), (.str, false), (.tup, false), (.lst, false), (.dic, false)]
def ko_NoChoices : List (Str × Bool) := [("MarkError", false), ("NoProgram", false), ("NoText", false), ("NoFunction", false), ("NoPoint", false), ("NoPlan", false), ("HasFaults", false), ("NoChoices", true), ("NoStops", false), ("NoLowered", false), ("NoWrites", false), ("NoSpare", false), ("NoImage", false), ("NoModule", false)]
def ku_NoChoices : List Cn := [.o "NoChoices"]
abbrev k_NoChoices : Tc → Option Bool := tcf kb_NoChoices ko_NoChoices
def kb_NoImage : List (Ty × Bool) := [(.non, false), (.bl, false), (.int, false), (.str, false), (.tup, false), (.lst, false), (.dic, false)]
def ko_NoImage : List (Str × Bool) := [("MarkError", false), ("NoProgram", false), ("NoText", false), ("NoFunction", false), ("NoPoint", false), ("NoPlan", false), ("HasFaults", false), ("NoChoices", false), ("NoStops", false), ("NoLowered", false), ("NoWrites", false), ("NoSpare", false), ("NoImage", true), ("NoModule", false)]
def ku_NoImage : List Cn := [.o "NoImage"]
abbrev k_NoImage : Tc → Option Bool := tcf kb_NoImage ko_NoImage
def kb_NoSpare : List (Ty × Bool) := [(.non, false), (.bl, false), (.int, false), (.str, false), (.tup, false), (.lst, false), (.dic, false)]
def ko_NoSpare : List (Str × Bool) := [("MarkError", false), ("NoProgram", false), ("NoText", false), ("NoFunction", false), ("NoPoint", false), ("NoPlan", false), ("HasFaults", false), ("NoChoices", false), ("NoStops", false), ("NoLowered", false), ("NoWrites", false), ("NoSpare", true), ("NoImage", false), ("NoModule", false)]
def ku_NoSpare : List Cn := [.o "NoSpare"]
abbrev k_NoSpare : Tc → Option Bool := tcf kb_NoSpare ko_NoSpare
def kb_NoWrites : List (Ty × Bool) := [(.non, false), (.bl, false), (.int, false), (.str, false), (.tup, false), (.lst, false), (.dic, false)]
def ko_NoWrites : List (Str × Bool) := [("MarkError", false), ("NoProgram", false), ("NoText", false), ("NoFunction", false), ("NoPoint", false), ("NoPlan", false), ("HasFaults", false), ("NoChoices", false), ("NoStops", false), ("NoLowered", false), ("NoWrites", true), ("NoSpare", false), ("NoImage", false), ("NoModule", false)]
def ku_NoWrites : List Cn := [.o "NoWrites"]
abbrev k_NoWrites : Tc → Option Bool := tcf kb_NoWrites ko_NoWrites
def kb_NoModule : List (Ty × Bool) := [(.non, false), (.bl, false), (.int, false), (.str, false), (.tup, false), (.lst, false), (.dic, false)]
def ko_NoModule : List (Str × Bool) := [("MarkError", false), ("NoProgram", false), ("NoText", false), ("NoFunction", false), ("NoPoint", false), ("NoPlan", false), ("HasFaults", false), ("NoChoices", false), ("NoStops", false), ("NoLowered", false), ("NoWrites", false), ("NoSpare", false), ("NoImage", false), ("NoModule", true)]
def ku_NoModule : List Cn := [.o "NoModule"]
abbrev k_NoModule : Tc → Option Bool := tcf kb_NoModule ko_NoModule
def kb_NoText_NoPoint_NoChoices_NoWrites : List (Ty × Bool) := [(.non, false), (.bl, false), (.int, false), (.str, false), (.tup, false), (.lst, false), (.dic, false)]
def ko_NoText_NoPoint_NoChoices_NoWrites : List (Str × Bool) := [("MarkError", false), ("NoProgram", false), ("NoText", true), ("NoFunction", false), ("NoPoint", true), ("NoPlan", false), ("HasFaults", false), ("NoChoices", true), ("NoStops", false), ("NoLowered", false), ("NoWrites", true), ("NoSpare", false), ("NoImage", false), ("NoModule", false)]
def ku_NoText_NoPoint_NoChoices_NoWrites : List Cn := [.o "NoText", .o "NoPoint", .o "NoChoices", .o "NoWrites"]
abbrev k_NoText_NoPoint_NoChoices_NoWrites : Tc → Option Bool := tcf kb_NoText_NoPoint_NoChoices_NoWrites ko_NoText_NoPoint_NoChoices_NoWrites
def kb_NoFunction_NoModule : List (Ty × Bool) := [(.non, false), (.bl, false), (.int, false), (.str, false), (.tup, false), (.lst, false), (.dic, false)]
def ko_NoFunction_NoModule : List (Str × Bool) := [("MarkError", false), ("NoProgram", false), ("NoText", false), ("NoFunction", true), ("NoPoint", false), ("NoPlan", false), ("HasFaults", false), ("NoChoices", false), ("NoStops", false), ("NoLowered", false), ("NoWrites", false), ("NoSpare", false), ("NoImage", false), ("NoModule", true)]
def ku_NoFunction_NoModule : List Cn := [.o "NoFunction", .o "NoModule"]
abbrev k_NoFunction_NoModule : Tc → Option Bool := tcf kb_NoFunction_NoModule ko_NoFunction_NoModule
def kb_ValueError : List (Ty × Bool) := [(.non, false), (.bl, false), (.int, false), (.str, false), (.tup, false), (.lst, false), (.dic, false)]
def ko_ValueError : List (Str × Bool) := [("MarkError", true), ("NoProgram", true), ("NoText", true), ("NoFunction", true), ("NoPoint", true), ("NoPlan", true), ("HasFaults", true), ("NoChoices", true), ("NoStops", true), ("NoLowered", true), ("NoWrites", true), ("NoSpare", true), ("NoImage", true), ("NoModule", true)]
def ku_ValueError : List Cn := [.b "ValueError"]
abbrev k_ValueError : Tc → Option Bool := tcf kb_ValueError ko_ValueError
def kb_MarkError : List (Ty × Bool) := [(.non, false), (.bl, false), (.int, false), (.str, false), (.tup, false), (.lst, false), (.dic, false)]
def ko_MarkError : List (Str × Bool) := [("MarkError", true), ("NoProgram", true), ("NoText", true), ("NoFunction", true), ("NoPoint", true), ("NoPlan", true), ("HasFaults", true), ("NoChoices", true), ("NoStops", true), ("NoLowered", true), ("NoWrites", true), ("NoSpare", true), ("NoImage", true), ("NoModule", true)]
def ku_MarkError : List Cn := [.o "MarkError"]
abbrev k_MarkError : Tc → Option Bool := tcf kb_MarkError ko_MarkError
def cs_why : List Str := ["NoLowered", "NoProgram"]
def cs_at : List Str := ["NoChoices", "NoPoint", "NoProgram", "NoText", "NoWrites"]
def cs_where : List Str := ["NoProgram"]
def cs_name : List Str := ["NoFunction", "NoLowered", "NoModule"]
def cs_faults : List Str := ["HasFaults"]
def cs_spare : List Str := ["NoSpare"]
/-! the text's facts -/
structure Txt (K : PySem.W.Frag) (mg : Str → Option Value) : Prop where
  fr_ValueError : mg "ValueError" = none
  fr_enumerate : mg "enumerate" = none
  fr_int : mg "int" = none
  fr_isinstance : mg "isinstance" = none
  fr_range : mg "range" = none
  cl_HasFaults : mg "HasFaults" = some (.ref (He.ga K "HasFaults"))
  cl_MarkError : mg "MarkError" = some (.ref (He.ga K "MarkError"))
  cl_NoChoices : mg "NoChoices" = some (.ref (He.ga K "NoChoices"))
  cl_NoFunction : mg "NoFunction" = some (.ref (He.ga K "NoFunction"))
  cl_NoImage : mg "NoImage" = some (.ref (He.ga K "NoImage"))
  cl_NoLowered : mg "NoLowered" = some (.ref (He.ga K "NoLowered"))
  cl_NoModule : mg "NoModule" = some (.ref (He.ga K "NoModule"))
  cl_NoPlan : mg "NoPlan" = some (.ref (He.ga K "NoPlan"))
  cl_NoPoint : mg "NoPoint" = some (.ref (He.ga K "NoPoint"))
  cl_NoProgram : mg "NoProgram" = some (.ref (He.ga K "NoProgram"))
  cl_NoSpare : mg "NoSpare" = some (.ref (He.ga K "NoSpare"))
  cl_NoStops : mg "NoStops" = some (.ref (He.ga K "NoStops"))
  cl_NoText : mg "NoText" = some (.ref (He.ga K "NoText"))
  cl_NoWrites : mg "NoWrites" = some (.ref (He.ga K "NoWrites"))
  kt_NoFunction : KitT ⟨K, mg⟩ (ku_NoFunction.map (Cn.v K)) k_NoFunction
  kt_NoText : KitT ⟨K, mg⟩ (ku_NoText.map (Cn.v K)) k_NoText
  kt_NoProgram : KitT ⟨K, mg⟩ (ku_NoProgram.map (Cn.v K)) k_NoProgram
  kt_HasFaults : KitT ⟨K, mg⟩ (ku_HasFaults.map (Cn.v K)) k_HasFaults
  kt_NoPlan : KitT ⟨K, mg⟩ (ku_NoPlan.map (Cn.v K)) k_NoPlan
  kt_NoPoint : KitT ⟨K, mg⟩ (ku_NoPoint.map (Cn.v K)) k_NoPoint
  kt_NoLowered : KitT ⟨K, mg⟩ (ku_NoLowered.map (Cn.v K)) k_NoLowered
  kt_NoStops : KitT ⟨K, mg⟩ (ku_NoStops.map (Cn.v K)) k_NoStops
  kt_NoChoices : KitT ⟨K, mg⟩ (ku_NoChoices.map (Cn.v K)) k_NoChoices
  kt_NoImage : KitT ⟨K, mg⟩ (ku_NoImage.map (Cn.v K)) k_NoImage
  kt_NoSpare : KitT ⟨K, mg⟩ (ku_NoSpare.map (Cn.v K)) k_NoSpare
  kt_NoWrites : KitT ⟨K, mg⟩ (ku_NoWrites.map (Cn.v K)) k_NoWrites
  kt_NoModule : KitT ⟨K, mg⟩ (ku_NoModule.map (Cn.v K)) k_NoModule
  kt_NoText_NoPoint_NoChoices_NoWrites : KitT ⟨K, mg⟩ (ku_NoText_NoPoint_NoChoices_NoWrites.map (Cn.v K)) k_NoText_NoPoint_NoChoices_NoWrites
  kt_NoFunction_NoModule : KitT ⟨K, mg⟩ (ku_NoFunction_NoModule.map (Cn.v K)) k_NoFunction_NoModule
  kt_ValueError : KitT ⟨K, mg⟩ (ku_ValueError.map (Cn.v K)) k_ValueError
  kt_MarkError : KitT ⟨K, mg⟩ (ku_MarkError.map (Cn.v K)) k_MarkError
  na_why : NoAt ⟨K, mg⟩ cs_why "why"
  na_at : NoAt ⟨K, mg⟩ cs_at "at"
  na_where : NoAt ⟨K, mg⟩ cs_where "where"
  na_name : NoAt ⟨K, mg⟩ cs_name "name"
  na_faults : NoAt ⟨K, mg⟩ cs_faults "faults"
  na_spare : NoAt ⟨K, mg⟩ cs_spare "spare"
theorem room65 {k : Nat} {A : Around} (r : Room k A) : A.units + 65 < cLine := by have := r.un; omega
/-! the defs -/
section
variable {P : Program} {w : World} {K : PySem.W.Frag} {mg : Str → Option Value} {base : Heap}
abbrev s__law_marks_of : Stmt := top 17
def N__law_marks_of : List Str := ["_law_error", "_law_found"]
theorem nd__law_marks_of : N__law_marks_of.Nodup := by decide +kernel
def g__law_marks_of : GS := gSeq (gAsg (gLst (gConsA (gIsc k_NoProgram (gVar 0)) (gConsA (gIsc k_NoText (gVar 0)) (gConsA (gIsc k_NoFunction (gVar 0)) (gNilA))))) (gNm 1)) (gSeq (gAsg (gBin fAdd (gVar 1) (gLst (gConsA (gIsc k_NoPoint (gVar 0)) (gConsA (gIsc k_NoPlan (gVar 0)) (gConsA (gIsc k_HasFaults (gVar 0)) (gNilA)))))) (gNm 1)) (gSeq (gAsg (gBin fAdd (gVar 1) (gLst (gConsA (gIsc k_NoChoices (gVar 0)) (gConsA (gIsc k_NoStops (gVar 0)) (gConsA (gIsc k_NoLowered (gVar 0)) (gNilA)))))) (gNm 1)) (gSeq (gAsg (gBin fAdd (gVar 1) (gLst (gConsA (gIsc k_NoWrites (gVar 0)) (gConsA (gIsc k_NoSpare (gVar 0)) (gConsA (gIsc k_NoImage (gVar 0)) (gNilA)))))) (gNm 1)) (gRet (gBin fAdd (gVar 1) (gLst (gConsA (gIsc k_NoModule (gVar 0)) (gNilA))))))))
def f__law_marks_of : List D → PRes := runP 2 g__law_marks_of
theorem sc__law_marks_of : FnScope N__law_marks_of ["_law_error"] (defScope s__law_marks_of) := ⟨rfl, rfl, rfl, nd__law_marks_of, rfl, by decide +kernel, by decide +kernel⟩
theorem b__law_marks_of {f : Addr} (T : Txt K mg)  : Body P w K mg base N__law_marks_of "_law_marks_of" s__law_marks_of 0 f g__law_marks_of := fun cdv A outer s H E hr => by
  exact gss_cons (gs_set (i := 1) nd__law_marks_of (ge_lst (ga_cons (ge_isc T.fr_isinstance (ge_var 0) (.own (He.ga K "NoProgram") T.cl_NoProgram (by rfl) (by rfl) (by rfl) (.nil)) T.kt_NoProgram) (ga_cons (ge_isc T.fr_isinstance (ge_var 0) (.own (He.ga K "NoText") T.cl_NoText (by rfl) (by rfl) (by rfl) (.nil)) T.kt_NoText) (ga_cons (ge_isc T.fr_isinstance (ge_var 0) (.own (He.ga K "NoFunction") T.cl_NoFunction (by rfl) (by rfl) (by rfl) (.nil)) T.kt_NoFunction) (ga_nil)))))) (gss_cons (gs_set (i := 1) nd__law_marks_of (ge_op op_addA og_add (ge_var 1) (ge_lst (ga_cons (ge_isc T.fr_isinstance (ge_var 0) (.own (He.ga K "NoPoint") T.cl_NoPoint (by rfl) (by rfl) (by rfl) (.nil)) T.kt_NoPoint) (ga_cons (ge_isc T.fr_isinstance (ge_var 0) (.own (He.ga K "NoPlan") T.cl_NoPlan (by rfl) (by rfl) (by rfl) (.nil)) T.kt_NoPlan) (ga_cons (ge_isc T.fr_isinstance (ge_var 0) (.own (He.ga K "HasFaults") T.cl_HasFaults (by rfl) (by rfl) (by rfl) (.nil)) T.kt_HasFaults) (ga_nil))))))) (gss_cons (gs_set (i := 1) nd__law_marks_of (ge_op op_addA og_add (ge_var 1) (ge_lst (ga_cons (ge_isc T.fr_isinstance (ge_var 0) (.own (He.ga K "NoChoices") T.cl_NoChoices (by rfl) (by rfl) (by rfl) (.nil)) T.kt_NoChoices) (ga_cons (ge_isc T.fr_isinstance (ge_var 0) (.own (He.ga K "NoStops") T.cl_NoStops (by rfl) (by rfl) (by rfl) (.nil)) T.kt_NoStops) (ga_cons (ge_isc T.fr_isinstance (ge_var 0) (.own (He.ga K "NoLowered") T.cl_NoLowered (by rfl) (by rfl) (by rfl) (.nil)) T.kt_NoLowered) (ga_nil))))))) (gss_cons (gs_set (i := 1) nd__law_marks_of (ge_op op_addA og_add (ge_var 1) (ge_lst (ga_cons (ge_isc T.fr_isinstance (ge_var 0) (.own (He.ga K "NoWrites") T.cl_NoWrites (by rfl) (by rfl) (by rfl) (.nil)) T.kt_NoWrites) (ga_cons (ge_isc T.fr_isinstance (ge_var 0) (.own (He.ga K "NoSpare") T.cl_NoSpare (by rfl) (by rfl) (by rfl) (.nil)) T.kt_NoSpare) (ga_cons (ge_isc T.fr_isinstance (ge_var 0) (.own (He.ga K "NoImage") T.cl_NoImage (by rfl) (by rfl) (by rfl) (.nil)) T.kt_NoImage) (ga_nil))))))) (gss_one (gs_ret (ge_op op_addA og_add (ge_var 1) (ge_lst (ga_cons (ge_isc T.fr_isinstance (ge_var 0) (.own (He.ga K "NoModule") T.cl_NoModule (by rfl) (by rfl) (by rfl) (.nil)) T.kt_NoModule) (ga_nil)))))))))
abbrev s__law_made : Stmt := top 16
def N__law_made : List Str := ["_law_value", "_law_found"]
theorem nd__law_made : N__law_made.Nodup := by decide +kernel
def g__law_made : GS := gSeq (gAsg (gNew (gConsA (gTup (gConsA (gMkX "NoProgram" ["where", "at", "why"] (gConsA (gVar 0) (gConsA (gC (.int 5)) (gConsA (gC (.str "why")) (gNilA))))) (gConsA (gLst (gConsA (gVar 0) (gConsA (gC (.int 5)) (gConsA (gC (.str "why")) (gNilA))))) (gNilA)))) (gConsA (gTup (gConsA (gMkX "NoText" ["at"] (gConsA (gVar 0) (gNilA))) (gConsA (gLst (gConsA (gVar 0) (gNilA))) (gNilA)))) (gConsA (gTup (gConsA (gMkX "NoFunction" ["name"] (gConsA (gVar 0) (gNilA))) (gConsA (gLst (gConsA (gVar 0) (gNilA))) (gNilA)))) (gNilA))))) (gNm 1)) (gSeq (gAsg (gBin fAddN (gVar 1) (gLst (gConsA (gTup (gConsA (gMkX "NoPoint" ["at"] (gConsA (gVar 0) (gNilA))) (gConsA (gLst (gConsA (gVar 0) (gNilA))) (gNilA)))) (gConsA (gTup (gConsA (gMk0 "NoPlan") (gConsA (gLst (gNilA)) (gNilA)))) (gConsA (gTup (gConsA (gMkX "HasFaults" ["faults"] (gConsA (gVar 0) (gNilA))) (gConsA (gLst (gConsA (gVar 0) (gNilA))) (gNilA)))) (gNilA)))))) (gNm 1)) (gSeq (gAsg (gBin fAddN (gVar 1) (gLst (gConsA (gTup (gConsA (gMkX "NoChoices" ["at"] (gConsA (gVar 0) (gNilA))) (gConsA (gLst (gConsA (gVar 0) (gNilA))) (gNilA)))) (gConsA (gTup (gConsA (gMk0 "NoStops") (gConsA (gLst (gNilA)) (gNilA)))) (gConsA (gTup (gConsA (gMkX "NoLowered" ["name", "why"] (gConsA (gVar 0) (gConsA (gC (.str "why")) (gNilA)))) (gConsA (gLst (gConsA (gVar 0) (gConsA (gC (.str "why")) (gNilA)))) (gNilA)))) (gNilA)))))) (gNm 1)) (gSeq (gAsg (gBin fAddN (gVar 1) (gLst (gConsA (gTup (gConsA (gMkX "NoWrites" ["at"] (gConsA (gVar 0) (gNilA))) (gConsA (gLst (gConsA (gVar 0) (gNilA))) (gNilA)))) (gConsA (gTup (gConsA (gMkX "NoSpare" ["spare"] (gConsA (gVar 0) (gNilA))) (gConsA (gLst (gConsA (gVar 0) (gNilA))) (gNilA)))) (gConsA (gTup (gConsA (gMk0 "NoImage") (gConsA (gLst (gNilA)) (gNilA)))) (gNilA)))))) (gNm 1)) (gSeq (gExpr (gMt .lst fAppend (gVar 1) (gConsA (gTup (gConsA (gMkX "NoModule" ["name"] (gConsA (gVar 0) (gNilA))) (gConsA (gLst (gConsA (gVar 0) (gNilA))) (gNilA)))) (gNilA)))) (gRet (gVar 1))))))
def f__law_made : List D → PRes := runP 2 g__law_made
theorem sc__law_made : FnScope N__law_made ["_law_value"] (defScope s__law_made) := ⟨rfl, rfl, rfl, nd__law_made, rfl, by decide +kernel, by decide +kernel⟩
theorem b__law_made {f : Addr} (T : Txt K mg)  (X_HasFaults : ClsX P w K mg base "HasFaults" ["faults"]) (X_NoChoices : ClsX P w K mg base "NoChoices" ["at"]) (X_NoFunction : ClsX P w K mg base "NoFunction" ["name"]) (X_NoImage : ClsX0 K mg "NoImage") (X_NoLowered : ClsX P w K mg base "NoLowered" ["name", "why"]) (X_NoModule : ClsX P w K mg base "NoModule" ["name"]) (X_NoPlan : ClsX0 K mg "NoPlan") (X_NoPoint : ClsX P w K mg base "NoPoint" ["at"]) (X_NoProgram : ClsX P w K mg base "NoProgram" ["where", "at", "why"]) (X_NoSpare : ClsX P w K mg base "NoSpare" ["spare"]) (X_NoStops : ClsX0 K mg "NoStops") (X_NoText : ClsX P w K mg base "NoText" ["at"]) (X_NoWrites : ClsX P w K mg base "NoWrites" ["at"]) : Body P w K mg base N__law_made "_law_made" s__law_made 2 f g__law_made := fun cdv A outer s H E hr => by
  exact gss_cons (gs_set (i := 1) nd__law_made (ge_new (ga_cons (ge_tup (ga_cons (ge_mkX X_NoProgram hr (by decide) (ga_cons (ge_var 0) (ga_cons (ge_int) (ga_cons (ge_str) (ga_nil))))) (ga_cons (ge_lst (ga_cons (ge_var 0) (ga_cons (ge_int) (ga_cons (ge_str) (ga_nil))))) (ga_nil)))) (ga_cons (ge_tup (ga_cons (ge_mkX X_NoText hr (by decide) (ga_cons (ge_var 0) (ga_nil))) (ga_cons (ge_lst (ga_cons (ge_var 0) (ga_nil))) (ga_nil)))) (ga_cons (ge_tup (ga_cons (ge_mkX X_NoFunction hr (by decide) (ga_cons (ge_var 0) (ga_nil))) (ga_cons (ge_lst (ga_cons (ge_var 0) (ga_nil))) (ga_nil)))) (ga_nil)))))) (gss_cons (gs_set (i := 1) nd__law_made (ge_op op_addA og_addN (ge_var 1) (ge_lst (ga_cons (ge_tup (ga_cons (ge_mkX X_NoPoint hr (by decide) (ga_cons (ge_var 0) (ga_nil))) (ga_cons (ge_lst (ga_cons (ge_var 0) (ga_nil))) (ga_nil)))) (ga_cons (ge_tup (ga_cons (ge_mk0 X_NoPlan) (ga_cons (ge_lst (ga_nil)) (ga_nil)))) (ga_cons (ge_tup (ga_cons (ge_mkX X_HasFaults hr (by decide) (ga_cons (ge_var 0) (ga_nil))) (ga_cons (ge_lst (ga_cons (ge_var 0) (ga_nil))) (ga_nil)))) (ga_nil))))))) (gss_cons (gs_set (i := 1) nd__law_made (ge_op op_addA og_addN (ge_var 1) (ge_lst (ga_cons (ge_tup (ga_cons (ge_mkX X_NoChoices hr (by decide) (ga_cons (ge_var 0) (ga_nil))) (ga_cons (ge_lst (ga_cons (ge_var 0) (ga_nil))) (ga_nil)))) (ga_cons (ge_tup (ga_cons (ge_mk0 X_NoStops) (ga_cons (ge_lst (ga_nil)) (ga_nil)))) (ga_cons (ge_tup (ga_cons (ge_mkX X_NoLowered hr (by decide) (ga_cons (ge_var 0) (ga_cons (ge_str) (ga_nil)))) (ga_cons (ge_lst (ga_cons (ge_var 0) (ga_cons (ge_str) (ga_nil)))) (ga_nil)))) (ga_nil))))))) (gss_cons (gs_set (i := 1) nd__law_made (ge_op op_addA og_addN (ge_var 1) (ge_lst (ga_cons (ge_tup (ga_cons (ge_mkX X_NoWrites hr (by decide) (ga_cons (ge_var 0) (ga_nil))) (ga_cons (ge_lst (ga_cons (ge_var 0) (ga_nil))) (ga_nil)))) (ga_cons (ge_tup (ga_cons (ge_mkX X_NoSpare hr (by decide) (ga_cons (ge_var 0) (ga_nil))) (ga_cons (ge_lst (ga_cons (ge_var 0) (ga_nil))) (ga_nil)))) (ga_cons (ge_tup (ga_cons (ge_mk0 X_NoImage) (ga_cons (ge_lst (ga_nil)) (ga_nil)))) (ga_nil))))))) (gss_cons (gs_expr (ge_append (ge_var 1) (ga_cons (ge_tup (ga_cons (ge_mkX X_NoModule hr (by decide) (ga_cons (ge_var 0) (ga_nil))) (ga_cons (ge_lst (ga_cons (ge_var 0) (ga_nil))) (ga_nil)))) (ga_nil)))) (gss_one (gs_ret (ge_var 1)))))))
abbrev s__law_shown : Stmt := top 18
def N__law_shown : List Str := ["_law_error"]
theorem nd__law_shown : N__law_shown.Nodup := by decide +kernel
def g__law_shown : GS := gSeq (gIf (gTst (gIsc k_NoProgram (gVar 0))) (gRet (gLst (gConsA (gFld cs_where "where" (gVar 0)) (gConsA (gFld cs_at "at" (gVar 0)) (gConsA (gFld cs_why "why" (gVar 0)) (gNilA)))))) (gNil)) (gSeq (gIf (gTst (gIsc k_NoText_NoPoint_NoChoices_NoWrites (gVar 0))) (gRet (gLst (gConsA (gFld cs_at "at" (gVar 0)) (gNilA)))) (gNil)) (gSeq (gIf (gTst (gIsc k_NoFunction_NoModule (gVar 0))) (gRet (gLst (gConsA (gFld cs_name "name" (gVar 0)) (gNilA)))) (gNil)) (gSeq (gIf (gTst (gIsc k_NoLowered (gVar 0))) (gRet (gLst (gConsA (gFld cs_name "name" (gVar 0)) (gConsA (gFld cs_why "why" (gVar 0)) (gNilA))))) (gNil)) (gSeq (gIf (gTst (gIsc k_HasFaults (gVar 0))) (gRet (gLst (gConsA (gFld cs_faults "faults" (gVar 0)) (gNilA)))) (gNil)) (gRet (gIfE (gTst (gIsc k_NoSpare (gVar 0))) (gLst (gConsA (gFld cs_spare "spare" (gVar 0)) (gNilA))) (gLst (gNilA))))))))
def f__law_shown : List D → PRes := runP 1 g__law_shown
theorem sc__law_shown : FnScope N__law_shown ["_law_error"] (defScope s__law_shown) := ⟨rfl, rfl, rfl, nd__law_shown, rfl, by decide +kernel, by decide +kernel⟩
theorem b__law_shown {f : Addr} (T : Txt K mg)  : Body P w K mg base N__law_shown "_law_shown" s__law_shown 0 f g__law_shown := fun cdv A outer s H E hr => by
  exact gss_cons (gs_if (gt_val (ge_isc T.fr_isinstance (ge_var 0) (.own (He.ga K "NoProgram") T.cl_NoProgram (by rfl) (by rfl) (by rfl) (.nil)) T.kt_NoProgram)) (gss_one (gs_ret (ge_lst (ga_cons (ge_fld T.na_where (ge_var 0)) (ga_cons (ge_fld T.na_at (ge_var 0)) (ga_cons (ge_fld T.na_why (ge_var 0)) (ga_nil))))))) (gss_nil)) (gss_cons (gs_if (gt_val (ge_iscT T.fr_isinstance (ge_var 0) (.own (He.ga K "NoText") T.cl_NoText (by rfl) (by rfl) (by rfl) (.own (He.ga K "NoPoint") T.cl_NoPoint (by rfl) (by rfl) (by rfl) (.own (He.ga K "NoChoices") T.cl_NoChoices (by rfl) (by rfl) (by rfl) (.own (He.ga K "NoWrites") T.cl_NoWrites (by rfl) (by rfl) (by rfl) (.nil))))) T.kt_NoText_NoPoint_NoChoices_NoWrites)) (gss_one (gs_ret (ge_lst (ga_cons (ge_fld T.na_at (ge_var 0)) (ga_nil))))) (gss_nil)) (gss_cons (gs_if (gt_val (ge_iscT T.fr_isinstance (ge_var 0) (.own (He.ga K "NoFunction") T.cl_NoFunction (by rfl) (by rfl) (by rfl) (.own (He.ga K "NoModule") T.cl_NoModule (by rfl) (by rfl) (by rfl) (.nil))) T.kt_NoFunction_NoModule)) (gss_one (gs_ret (ge_lst (ga_cons (ge_fld T.na_name (ge_var 0)) (ga_nil))))) (gss_nil)) (gss_cons (gs_if (gt_val (ge_isc T.fr_isinstance (ge_var 0) (.own (He.ga K "NoLowered") T.cl_NoLowered (by rfl) (by rfl) (by rfl) (.nil)) T.kt_NoLowered)) (gss_one (gs_ret (ge_lst (ga_cons (ge_fld T.na_name (ge_var 0)) (ga_cons (ge_fld T.na_why (ge_var 0)) (ga_nil)))))) (gss_nil)) (gss_cons (gs_if (gt_val (ge_isc T.fr_isinstance (ge_var 0) (.own (He.ga K "HasFaults") T.cl_HasFaults (by rfl) (by rfl) (by rfl) (.nil)) T.kt_HasFaults)) (gss_one (gs_ret (ge_lst (ga_cons (ge_fld T.na_faults (ge_var 0)) (ga_nil))))) (gss_nil)) (gss_one (gs_ret (ge_if (gt_val (ge_isc T.fr_isinstance (ge_var 0) (.own (He.ga K "NoSpare") T.cl_NoSpare (by rfl) (by rfl) (by rfl) (.nil)) T.kt_NoSpare)) (ge_lst (ga_cons (ge_fld T.na_spare (ge_var 0)) (ga_nil))) (ge_lst (ga_nil)))))))))
abbrev s_law : Stmt := top 19
def N_law : List Str := ["_law_script", "_law_base", "_law_value", "_law_at", "_law_cell", "_law_error", "_law_due", "_law_k"]
theorem nd_law : N_law.Nodup := by decide +kernel
def le0_law : GE := gBin (fI iMod) (gCall fInt (gConsA (gVar 4) (gNilA))) (gBin (fI iPow) (gC (.int 10)) (gC (.int 30)))
def le1_law : GE := gBin (fEq false) (gVar 7) (gVar 3)
def fb0_law : GS := gSeq (gIf (gOr (gNot (gTst (gIsc k_MarkError (gVar 5)))) (gNot (gTst (gIsc k_ValueError (gVar 5))))) (gRet (gC (.bl false))) (gNil)) (gIf (gOr (gTst (gBin (fEq true) (gFnP 1 f__law_marks_of (gConsA (gVar 5) (gNilA))) (fun ρ G => (gLcW (gRng1 (gConsA (gC (.int 13)) (gNilA))) [7] (gNm 7) (gYes) (le1_law) ρ G).bind finT))) (gTst (gBin (fEq true) (gFnP 1 f__law_shown (gConsA (gVar 5) (gNilA))) (gVar 6)))) (gRet (gC (.bl false))) (gNil))
def fb1_law : GS := gFor (gEnumI (gConsA (gFnP 1 f__law_made (gConsA (gVar 2) (gNilA))) (gNilA))) (gTp [gNm 3, gTp [gNm 5, gNm 6]]) (fb0_law)
def g_law : GS := gSeq (gAsg (gMk0 "MarkError") (gNm 1)) (gSeq (gIf (gOr (gNot (gTst (gIsc k_ValueError (gVar 1)))) (gTst (gBin (fIn false) (gC (.bl true)) (gFnP 1 f__law_marks_of (gConsA (gVar 1) (gNilA)))))) (gRet (gC (.bl false))) (gNil)) (gSeq (gFor (gSeqI (gBin fAdd (gLst (gConsA (gC (.str "why")) (gConsA (gC (.int 5)) (gConsA (gC .non) (gConsA (gTup (gConsA (gC (.str "first")) (gConsA (gC (.str "main")) (gNilA)))) (gConsA (gLst (gConsA (gC (.int 1)) (gConsA (gC (.int 2)) (gNilA)))) (gConsA (gBin (fI iPow) (gC (.int 10)) (gC (.int 20))) (gNilA)))))))) (fun ρ G => (gLcW (gSeqI (gSlice (gVar 0) (gNoP) (gPt (gC (.int 3))))) [4] (gNm 4) (gYes) (le0_law) ρ G).bind finT))) (gNm 2) (fb1_law)) (gRet (gC (.bl true)))))
def f_law : List D → PRes := runP 8 g_law
theorem sc_law : FnScope N_law ["_law_script"] (defScope s_law) := ⟨rfl, rfl, rfl, nd_law, rfl, by decide +kernel, by decide +kernel⟩
theorem b_law {f : Addr} (T : Txt K mg) (C__law_made : CalX P w K mg base 3 "_law_made" (spP ⟨K, mg⟩ 1 f__law_made)) (C__law_marks_of : CalX P w K mg base 1 "_law_marks_of" (spP ⟨K, mg⟩ 1 f__law_marks_of)) (C__law_shown : CalX P w K mg base 1 "_law_shown" (spP ⟨K, mg⟩ 1 f__law_shown)) (X_MarkError : ClsX0 K mg "MarkError") : Body P w K mg base N_law "law" s_law 3 f g_law := fun cdv A outer s H E hr => by
  exact gss_cons (gs_set (i := 1) nd_law (ge_mk0 X_MarkError)) (gss_cons (gs_if ((gw_or (gt_not (gt_val (ge_isc T.fr_isinstance (ge_var 1) (.ty "ValueError" (by decide +kernel) T.fr_ValueError (by rfl) (by decide) (by decide) (by rfl) (.nil)) T.kt_ValueError))) (gw_or1 (gt_cmp (op_inA (room65 hr)) og_in (ge_bl) (ge_fnP C__law_marks_of hr (by decide) (ga_cons (ge_var 1) (ga_nil)))))).pt) (gss_one (gs_ret (ge_bl))) (gss_nil)) (gss_cons (gs_for (own := [2]) (passes_of rfl) rfl (gi_seq (ge_op op_addA og_add (ge_lst (ga_cons (ge_str) (ga_cons (ge_int) (ga_cons (ge_non) (ga_cons (ge_tup (ga_cons (ge_str) (ga_cons (ge_str) (ga_nil)))) (ga_cons (ge_lst (ga_cons (ge_int) (ga_cons (ge_int) (ga_nil)))) (ga_cons (ge_op op_pow og_pow (ge_int) (ge_int)) (ga_nil)))))))) (ge_lc (⟨rfl, nd_law, gi_seq (ge_slice (ge_var 0) (gp_none) (gp_some (ge_int))), blkOk_by (own := [("_law_cell", 4)]) (by rfl), fun _ _ _ _ _ => gg_name 4 nd_law, fun _ _ _ _ _ => gts_nil, fun _ _ _ _ _ => ge_op op_mod og_mod (ge_callTy call_int1 cg_int T.fr_int (ga_cons (ge_var 4) (ga_nil))) (ge_op op_pow og_pow (ge_int) (ge_int))⟩ : LcParts _ _ _ _ _ _ _ _ _ _ _) finT_ok))) (gg_name 2 nd_law) (gss_one (gs_for (own := [3, 5, 6]) (passes_of rfl) rfl (gi_enum T.fr_enumerate (ga_cons (ge_fnP C__law_made hr (by decide) (ga_cons (ge_var 2) (ga_nil))) (ga_nil))) (gg_tup rfl (ggs_cons (gg_name 3 nd_law) (ggs_cons (gg_tup rfl (ggs_cons (gg_name 5 nd_law) (ggs_cons (gg_name 6 nd_law) (ggs_nil)))) (ggs_nil)))) (gss_cons (gs_if ((gw_or (gt_not (gt_val (ge_isc T.fr_isinstance (ge_var 5) (.own (He.ga K "MarkError") T.cl_MarkError (by rfl) (by rfl) (by rfl) (.nil)) T.kt_MarkError))) (gw_or1 (gt_not (gt_val (ge_isc T.fr_isinstance (ge_var 5) (.ty "ValueError" (by decide +kernel) T.fr_ValueError (by rfl) (by decide) (by decide) (by rfl) (.nil)) T.kt_ValueError))))).pt) (gss_one (gs_ret (ge_bl))) (gss_nil)) (gss_one (gs_if ((gw_or (gt_cmp (op_neD hr.units) og_ne (ge_fnP C__law_marks_of hr (by decide) (ga_cons (ge_var 5) (ga_nil))) (ge_lc (⟨rfl, nd_law, gi_range1 T.fr_range (ga_cons (ge_int) (ga_nil)), blkOk_by (own := [("_law_k", 7)]) (by rfl), fun _ _ _ _ _ => gg_name 7 nd_law, fun _ _ _ _ _ => gts_nil, fun _ _ _ _ _ => ge_cmp (op_eqD hr.units) og_eq (ge_var 7) (ge_var 3)⟩ : LcParts _ _ _ _ _ _ _ _ _ _ _) finT_ok)) (gw_or1 (gt_cmp (op_neD hr.units) og_ne (ge_fnP C__law_shown hr (by decide) (ga_cons (ge_var 5) (ga_nil))) (ge_var 6)))).pt) (gss_one (gs_ret (ge_bl))) (gss_nil))))))) (gss_one (gs_ret (ge_bl)))))
end
end K42

set_option Elab.async false
set_option linter.all false
set_option maxRecDepth 100000
set_option maxHeartbeats 8000000
namespace K42
open PySem PySem.Spec PyProof.Rows L2 Gh
theorem gIf_f {c : GT} {a b : GS} {ρ : GEnv} {G G1 : Hg} (h : c ρ G = .ok false G1) : gIf c a b ρ G = b ρ G1 := by simp [gIf, h, Res.toS]
theorem gIf_t {c : GT} {a b : GS} {ρ : GEnv} {G G1 : Hg} (h : c ρ G = .ok true G1) : gIf c a b ρ G = a ρ G1 := by simp [gIf, h, Res.toS]
theorem gOr_f {a b : GT} {ρ : GEnv} {G G1 : Hg} {r : Res Bool} (h : a ρ G = .ok false G1) (h2 : b ρ G1 = r) : gOr a b ρ G = r := by simp [gOr, h, Res.bind, h2]
theorem gNot_ok {a : GT} {ρ : GEnv} {G G1 : Hg} {k : Bool} (h : a ρ G = .ok k G1) : gNot a ρ G = .ok (!k) G1 := by simp [gNot, h, Res.bind]
theorem gSeq_nx {a b : GS} {ρ ρ1 : GEnv} {G G1 : Hg} (h : a ρ G = .nx ρ1 G1) : gSeq a b ρ G = b ρ1 G1 := by simp [gSeq, h]
def errs (v : D) : List (D × D) := [(mkX "NoProgram" ["where", "at", "why"] [v, .int 5, .str "why"], .lst [v, .int 5, .str "why"]), (mkX "NoText" ["at"] [v], .lst [v]), (mkX "NoFunction" ["name"] [v], .lst [v]), (mkX "NoPoint" ["at"] [v], .lst [v]), (.ins "NoPlan" [], .lst []), (mkX "HasFaults" ["faults"] [v], .lst [v]),
  (mkX "NoChoices" ["at"] [v], .lst [v]), (.ins "NoStops" [], .lst []), (mkX "NoLowered" ["name", "why"] [v, .str "why"], .lst [v, .str "why"]), (mkX "NoWrites" ["at"] [v], .lst [v]), (mkX "NoSpare" ["spare"] [v], .lst [v]), (.ins "NoImage" [], .lst []), (mkX "NoModule" ["name"] [v], .lst [v])]
theorem made (v : D) : f__law_made [v] = .ok (.lst ((errs v).map fun p => .tup [p.1, p.2])) := by rfl
/-- the value is equal to itself wherever it stands -/
structure Good (v : D) : Prop where
  o1 : okD (.lst [v]) = true
  o2 : okD (.lst [v, .str "why"]) = true
  o3 : okD (.lst [v, .int 5, .str "why"]) = true
  e : eqD v v = true
def marksD (k : Nat) : D := .lst ((List.range 13).map fun j => .bl (decide (j = k)))
theorem eq_self {d : D} {G : Hg} (h : okD d = true) (e : eqD d d = true) : fEq true (.d d) (.d d) G = some (.d (.bl false), G) := by
  simp [fEq, snap, h, e]
abbrev cmpE : GE := fun ρ G => (gLcW (gRng1 (gConsA (gC (.int 13)) (gNilA))) [7] (gNm 7) (gYes) (le1_law) ρ G).bind finT
theorem body {ρ : GEnv} {G : Hg} {k : Nat} {d : D} (i1 : gTst (gIsc k_MarkError (gVar 5)) ρ G = .ok true G) (i2 : gTst (gIsc k_ValueError (gVar 5)) ρ G = .ok true G) (m : gFnP 1 f__law_marks_of (gConsA (gVar 5) gNilA) ρ G = .ok (.d (marksD k)) G) (c : cmpE ρ G = .ok (.d (marksD k)) G)
    (om : okD (marksD k) = true) (em : eqD (marksD k) (marksD k) = true) (s : gFnP 1 f__law_shown (gConsA (gVar 5) gNilA) ρ G = .ok (.d d) G) (g : gVar 6 ρ G = .ok (.d d) G) (od : okD d = true) (ed : eqD d d = true) : fb0_law ρ G = .nx ρ G := by
  have h1 : gTst (gBin (fEq true) (gFnP 1 f__law_marks_of (gConsA (gVar 5) gNilA)) cmpE) ρ G = .ok false G := by
    unfold gTst gBin
    rw [m]
    simp only [Res.bind, c, eq_self om em, lift, asB, liftP]
  have h2 : gTst (gBin (fEq true) (gFnP 1 f__law_shown (gConsA (gVar 5) gNilA)) (gVar 6)) ρ G = .ok false G := by
    unfold gTst gBin
    rw [s]
    simp only [Res.bind, g, eq_self od ed, lift, asB, liftP]
  have s1 : gIf (gOr (gNot (gTst (gIsc k_MarkError (gVar 5)))) (gNot (gTst (gIsc k_ValueError (gVar 5))))) (gRet (gC (.bl false))) Gh.gNil ρ G = .nx ρ G :=
    gIf_f (gOr_f (gNot_ok i1) (gNot_ok i2))
  have s2 : gIf (gOr (gTst (gBin (fEq true) (gFnP 1 f__law_marks_of (gConsA (gVar 5) gNilA)) cmpE)) (gTst (gBin (fEq true) (gFnP 1 f__law_shown (gConsA (gVar 5) gNilA)) (gVar 6)))) (gRet (gC (.bl false))) Gh.gNil ρ G = .nx ρ G :=
    gIf_f (gOr_f h1 h2)
  exact (gSeq_nx s1).trans s2
theorem step {t : GTg} {b : GS} {ck : Hg → Bool} {w : W} {ws : List W} {ρ ρ1 ρ2 : GEnv} {G : Hg} (h : ck G = true) (ht : t w ρ G = some (ρ1, G)) (hb : b ρ1 G = .nx ρ2 G) : forL t b ck (w :: ws) ρ G = forL t b ck ws ρ2 G := by
  conv => lhs; unfold forL
  rw [h, if_pos rfl, ht]
  simp only [hb]
theorem ge1 {v : D} (h : eqD v v = true) : eqD (.lst [v]) (.lst [v]) = true := by
  have e : PyData.eqv (toPy v) (toPy v) = true := h
  simp [eqD, toPy, toPyL, PyData.eqv, PyData.eqvAll, e]
theorem ge2 {v : D} (h : eqD v v = true) : eqD (.lst [v, .str "why"]) (.lst [v, .str "why"]) = true := by
  have e : PyData.eqv (toPy v) (toPy v) = true := h
  simp [eqD, toPy, toPyL, PyData.eqv, PyData.eqvAll, e]
theorem ge3 {v : D} (h : eqD v v = true) : eqD (.lst [v, .int 5, .str "why"]) (.lst [v, .int 5, .str "why"]) = true := by
  have e : PyData.eqv (toPy v) (toPy v) = true := h
  simp [eqD, toPy, toPyL, PyData.eqv, PyData.eqvAll, e]
theorem inner {v : D} (h : Good v) (a0 a1 a2 a3 a4 a5 a6 a7 : Option W) (G : Hg) : ∃ b3 b5 b6, fb1_law [a0, a1, some (.d v), a3, a4, a5, a6, a7] G = .nx [a0, a1, some (.d v), b3, a4, b5, b6, a7] G := by
  refine ⟨some (.d (.int 12)), some (.d (mkX "NoModule" ["name"] [v])), some (.d (.lst [v])), ?_⟩
  have e1 : fb1_law [a0, a1, some (.d v), a3, a4, a5, a6, a7] G = forL (gTp [gNm 3, gTp [gNm 5, gNm 6]]) fb0_law (fun _ => true) (enumW 0 ((errs v).map fun p => .d (.tup [p.1, p.2]))) [a0, a1, some (.d v), a3, a4, a5, a6, a7] G := by rfl
  rw [e1]
  refine (step (ρ1 := [a0, a1, some (.d v), some (.d (.int 0)), a4, _, _, a7]) rfl rfl (body (k := 0) rfl rfl rfl rfl rfl rfl rfl rfl h.o3 (ge3 h.e))).trans ?_
  refine (step (ρ1 := [a0, a1, some (.d v), some (.d (.int 1)), a4, _, _, a7]) rfl rfl (body (k := 1) rfl rfl rfl rfl rfl rfl rfl rfl h.o1 (ge1 h.e))).trans ?_
  refine (step (ρ1 := [a0, a1, some (.d v), some (.d (.int 2)), a4, _, _, a7]) rfl rfl (body (k := 2) rfl rfl rfl rfl rfl rfl rfl rfl h.o1 (ge1 h.e))).trans ?_
  refine (step (ρ1 := [a0, a1, some (.d v), some (.d (.int 3)), a4, _, _, a7]) rfl rfl (body (k := 3) rfl rfl rfl rfl rfl rfl rfl rfl h.o1 (ge1 h.e))).trans ?_
  refine (step (ρ1 := [a0, a1, some (.d v), some (.d (.int 4)), a4, _, _, a7]) rfl rfl (body (k := 4) rfl rfl rfl rfl rfl rfl rfl rfl rfl rfl)).trans ?_
  refine (step (ρ1 := [a0, a1, some (.d v), some (.d (.int 5)), a4, _, _, a7]) rfl rfl (body (k := 5) rfl rfl rfl rfl rfl rfl rfl rfl h.o1 (ge1 h.e))).trans ?_
  refine (step (ρ1 := [a0, a1, some (.d v), some (.d (.int 6)), a4, _, _, a7]) rfl rfl (body (k := 6) rfl rfl rfl rfl rfl rfl rfl rfl h.o1 (ge1 h.e))).trans ?_
  refine (step (ρ1 := [a0, a1, some (.d v), some (.d (.int 7)), a4, _, _, a7]) rfl rfl (body (k := 7) rfl rfl rfl rfl rfl rfl rfl rfl rfl rfl)).trans ?_
  refine (step (ρ1 := [a0, a1, some (.d v), some (.d (.int 8)), a4, _, _, a7]) rfl rfl (body (k := 8) rfl rfl rfl rfl rfl rfl rfl rfl h.o2 (ge2 h.e))).trans ?_
  refine (step (ρ1 := [a0, a1, some (.d v), some (.d (.int 9)), a4, _, _, a7]) rfl rfl (body (k := 9) rfl rfl rfl rfl rfl rfl rfl rfl h.o1 (ge1 h.e))).trans ?_
  refine (step (ρ1 := [a0, a1, some (.d v), some (.d (.int 10)), a4, _, _, a7]) rfl rfl (body (k := 10) rfl rfl rfl rfl rfl rfl rfl rfl h.o1 (ge1 h.e))).trans ?_
  refine (step (ρ1 := [a0, a1, some (.d v), some (.d (.int 11)), a4, _, _, a7]) rfl rfl (body (k := 11) rfl rfl rfl rfl rfl rfl rfl rfl rfl rfl)).trans ?_
  refine (step (ρ1 := [a0, a1, some (.d v), some (.d (.int 12)), a4, _, _, a7]) rfl rfl (body (k := 12) rfl rfl rfl rfl rfl rfl rfl rfl h.o1 (ge1 h.e))).trans ?_
  rfl
theorem outer (ck : Hg → Bool) (hck : ∀ G, ck G = true) (G : Hg) : ∀ (l : List D), (∀ v ∈ l, Good v) → ∀ a0 a1 a2 a3 a4 a5 a6 a7, ∃ ρ', forL (gNm 2) fb1_law ck (l.map .d) [a0, a1, a2, a3, a4, a5, a6, a7] G = .nx ρ' G
  | [], _, a0, a1, a2, a3, a4, a5, a6, a7 => ⟨[a0, a1, a2, a3, a4, a5, a6, a7], by simp [forL, hck]⟩
  | v :: l, h, a0, a1, a2, a3, a4, a5, a6, a7 => by
    obtain ⟨b3, b5, b6, e⟩ := inner (h v List.mem_cons_self) a0 a1 a2 a3 a4 a5 a6 a7 G
    obtain ⟨ρ', e2⟩ := outer ck hck G l (fun x hx => h x (List.mem_cons_of_mem _ hx)) a0 a1 (some (.d v)) b3 a4 b5 b6 a7
    exact ⟨ρ', (step (hck G) rfl e).trans e2⟩
theorem why_ok : PyData.strOk (Str.ofString "why") = true := by decide +kernel
theorem good_int (i : Int) : Good (.int i) := ⟨by simp [okD, SeqAt.shaped, toPy, toPyL, PyData.canLay0, PyData.canLayAll0, PyData.depth, PyData.depthAll, why_ok], by simp [okD, SeqAt.shaped, toPy, toPyL, PyData.canLay0, PyData.canLayAll0, PyData.depth, PyData.depthAll, why_ok], by simp [okD, SeqAt.shaped, toPy, toPyL, PyData.canLay0, PyData.canLayAll0, PyData.depth, PyData.depthAll, why_ok], by simp [eqD, toPy, PyData.eqv]⟩
theorem cells (ns : List Int) : ∃ ms : List Int, (∀ a1 a2 a3 a4 a5 a6 a7 (G : Hg), gSeqI (gBin fAdd (gLst (gConsA (gC (.str "why")) (gConsA (gC (.int 5)) (gConsA (gC .non) (gConsA (gTup (gConsA (gC (.str "first")) (gConsA (gC (.str "main")) (gNilA)))) (gConsA (gLst (gConsA (gC (.int 1)) (gConsA (gC (.int 2)) (gNilA)))) (gConsA (gBin (fI iPow) (gC (.int 10)) (gC (.int 20))) (gNilA)))))))) (fun ρ G => (gLcW (gSeqI (gSlice (gVar 0) (gNoP) (gPt (gC (.int 3))))) [4] (gNm 4) (gYes) (le0_law) ρ G).bind finT)) [some (.d (.lst (ns.map .int))), a1, a2, a3, a4, a5, a6, a7] G
    = .ok (([.str "why", .int 5, .non, .tup [.str "first", .str "main"], .lst [.int 1, .int 2], .int 100000000000000000000] ++ ms.map .int : List D).map .d, fun _ => true) G) := by
  match ns with
  | [] => exact ⟨[], fun _ _ _ _ _ _ _ _ => rfl⟩
  | [i] => exact ⟨[i % 10 ^ 30], fun _ _ _ _ _ _ _ _ => rfl⟩
  | [i, j] => exact ⟨[i % 10 ^ 30, j % 10 ^ 30], fun _ _ _ _ _ _ _ _ => rfl⟩
  | i :: j :: k :: r => exact ⟨[i % 10 ^ 30, j % 10 ^ 30, k % 10 ^ 30], fun a1 a2 a3 a4 a5 a6 a7 G => by
      have e : ∀ ρ0 : GEnv, gSlice (gVar 0) gNoP (gPt (gC (.int 3))) (some (.d (.lst ((i :: j :: k :: r).map .int))) :: ρ0) G = .ok (.d (.lst [.int i, .int j, .int k])) G := fun ρ0 => by
        have e2 : HT.sIx (((i :: j :: k :: r).map D.int).map W.d).length (((i :: j :: k :: r).map D.int).map W.d).length (some 3) = 3 := by
          simp [HT.sIx]
        have e3 : HT.sIx (((i :: j :: k :: r).map D.int).map W.d).length 0 none = 0 := by simp [HT.sIx]
        have e4 : cutW (((i :: j :: k :: r).map D.int).map W.d) none (some 3) = [W.d (.int i), W.d (.int j), W.d (.int k)] := by
          unfold cutW
          rw [e2, e3]
          rfl
        show sliceEnd (.d (.lst ((i :: j :: k :: r).map D.int))) none (some 3) G = _
        show (match mkLst (cutW (((i :: j :: k :: r).map D.int).map W.d) none (some 3)) with
          | some z => Res.ok z G
          | none => .stuck) = _
        rw [e4]
        rfl
      have e5 : ∀ ρ0 : GEnv, gSeqI (gSlice (gVar 0) gNoP (gPt (gC (.int 3)))) (some (.d (.lst ((i :: j :: k :: r).map .int))) :: ρ0) G = .ok ([.d (.int i), .d (.int j), .d (.int k)], fun _ => true) G := fun ρ0 => by
        unfold gSeqI
        rw [e]
        rfl
      have e6 : ((gLcW (gSeqI (gSlice (gVar 0) gNoP (gPt (gC (.int 3))))) [4] (gNm 4) gYes le0_law [some (.d (.lst ((i :: j :: k :: r).map .int))), a1, a2, a3, a4, a5, a6, a7] G).bind finT) = .ok (.d (.lst [.int (i % 10 ^ 30), .int (j % 10 ^ 30), .int (k % 10 ^ 30)])) G := by
        unfold gLcW
        rw [e5]
        rfl
      unfold gSeqI
      show Res.bind (gBin fAdd _ _ _ _) _ = _
      unfold gBin
      show Res.bind (Res.bind (Res.ok _ G) fun x G1 => Res.bind ((gLcW (gSeqI (gSlice (gVar 0) gNoP (gPt (gC (.int 3))))) [4] (gNm 4) gYes le0_law [some (.d (.lst ((i :: j :: k :: r).map .int))), a1, a2, a3, a4, a5, a6, a7] G1).bind finT) fun y G2 => lift (fAdd x y G2)) _ = _
      simp only [Res.bind, e6]
      rfl⟩
theorem law_true : ∀ ns : List Int, ns.length ≤ 63 → (∀ z ∈ ns, PySem.Builtin.Int.intBits z ≤ 1048576) → f_law [.lst (ns.map .int)] = .ok (.bl true) := fun ns _ _ => by
  obtain ⟨ms, hc⟩ := cells ns
  have good : ∀ v ∈ ([.str "why", .int 5, .non, .tup [.str "first", .str "main"], .lst [.int 1, .int 2], .int 100000000000000000000] ++ ms.map .int : List D), Good v := fun v hv => by
    rcases List.mem_append.mp hv with h | h
    · simp only [List.mem_cons, List.not_mem_nil, or_false] at h
      rcases h with rfl | rfl | rfl | rfl | rfl | rfl
      · exact ⟨by decide +kernel, by decide +kernel, by decide +kernel, by decide +kernel⟩
      · exact good_int _
      · exact ⟨by decide +kernel, by decide +kernel, by decide +kernel, by decide +kernel⟩
      · exact ⟨by decide +kernel, by decide +kernel, by decide +kernel, by decide +kernel⟩
      · exact ⟨by decide +kernel, by decide +kernel, by decide +kernel, by decide +kernel⟩
      · exact good_int _
    · obtain ⟨i, _, rfl⟩ := List.mem_map.mp h
      exact good_int i
  have z : ∃ ρ', g_law (envP 8 [.lst (ns.map .int)]) [] = SRes.ret (.d (.bl true)) [] ∧ ρ' = ([] : GEnv) := by
    refine ⟨[], ?_, rfl⟩
    have s1 : gAsg (gMk0 "MarkError") (gNm 1) (envP 8 [.lst (ns.map .int)]) [] = .nx [some (.d (.lst (ns.map .int))), some (.d (.ins "MarkError" [])), none, none, none, none, none, none] [] := rfl
    obtain ⟨ρ', ho⟩ := outer (fun _ => true) (fun _ => rfl) [] _ good (some (.d (.lst (ns.map .int)))) (some (.d (.ins "MarkError" []))) none none none none none none
    have hc2 := hc (some (.d (.ins "MarkError" []))) none none none none none none []
    unfold g_law
    refine (gSeq_nx s1).trans ?_
    refine (gSeq_nx (G1 := []) (ρ1 := [some (.d (.lst (ns.map .int))), some (.d (.ins "MarkError" [])), none, none, none, none, none, none]) (by rfl)).trans ?_
    refine (gSeq_nx (G1 := []) (ρ1 := ρ') ?_).trans rfl
    unfold gFor
    rw [hc2]
    exact ho
  obtain ⟨_, z, _⟩ := z
  show runP 8 g_law _ = _
  unfold runP
  rw [z]
  rfl
end K42

set_option Elab.async false
set_option linter.all false
set_option maxRecDepth 100000
set_option maxHeartbeats 0
namespace K42
open PySem PySem.Spec PyProof.Rows L2 Gh

def dd__law_marks_of : He.DefD := ⟨("_law_marks_of", none), "_law_marks_of", "_law_marks_of", defArgs s__law_marks_of, defBody s__law_marks_of, defScope s__law_marks_of, [], []⟩
def dd__law_made : He.DefD := ⟨("_law_made", none), "_law_made", "_law_made", defArgs s__law_made, defBody s__law_made, defScope s__law_made, [], []⟩
def dd__law_shown : He.DefD := ⟨("_law_shown", none), "_law_shown", "_law_shown", defArgs s__law_shown, defBody s__law_shown, defScope s__law_shown, [], []⟩
def dd_law : He.DefD := ⟨("law", none), "law", "law", defArgs s_law, defBody s_law, defScope s_law, [], []⟩
abbrev si_HasFaults : Stmt := inCls 7 0
def di_HasFaults : He.DefD := ⟨("HasFaults", some "__init__"), "__init__", "HasFaults.__init__", defArgs si_HasFaults, defBody si_HasFaults, defScope si_HasFaults, [], []⟩
theorem sci_HasFaults : FnScope ["self", "faults"] ["self", "faults"] (defScope si_HasFaults) := ⟨rfl, rfl, rfl, by decide +kernel, rfl, by decide +kernel, by decide +kernel⟩
theorem xi_HasFaults {P : Program} {w : World} {K : PySem.W.Frag} {h : Heap} {mg : Str → Option Value} {base : Heap} (X : K.In h) (G : h.Ns mainGlobals mg) {fd : FuncData} (F : FunD K "__init__" "HasFaults.__init__" (defArgs si_HasFaults) (defBody si_HasFaults) (defScope si_HasFaults) [] [] (He.fAd K ("HasFaults", some "__init__")) fd) (b : clsXb K "HasFaults" ["faults"] = true) : ClsX P w K mg base "HasFaults" ["faults"] :=
  clsXb_ok X G b (fn_init (f := "faults") (i := 1) (l := []) F sci_HasFaults rfl (by decide) rfl (by decide) (fun cdv A outer s H E => by exact .cons (by rfl) (.inl rfl) (by decide) (by decide) (by rfl) (.inl rfl) (by decide) (by decide) (by rfl) (.nil))) (F.bindsN fun _ _ _ _ _ _ us hl => match us, hl with | [_, _], _ => rfl)
abbrev si_NoChoices : Stmt := inCls 8 0
def di_NoChoices : He.DefD := ⟨("NoChoices", some "__init__"), "__init__", "NoChoices.__init__", defArgs si_NoChoices, defBody si_NoChoices, defScope si_NoChoices, [], []⟩
theorem sci_NoChoices : FnScope ["self", "at"] ["self", "at"] (defScope si_NoChoices) := ⟨rfl, rfl, rfl, by decide +kernel, rfl, by decide +kernel, by decide +kernel⟩
theorem xi_NoChoices {P : Program} {w : World} {K : PySem.W.Frag} {h : Heap} {mg : Str → Option Value} {base : Heap} (X : K.In h) (G : h.Ns mainGlobals mg) {fd : FuncData} (F : FunD K "__init__" "NoChoices.__init__" (defArgs si_NoChoices) (defBody si_NoChoices) (defScope si_NoChoices) [] [] (He.fAd K ("NoChoices", some "__init__")) fd) (b : clsXb K "NoChoices" ["at"] = true) : ClsX P w K mg base "NoChoices" ["at"] :=
  clsXb_ok X G b (fn_init (f := "at") (i := 1) (l := []) F sci_NoChoices rfl (by decide) rfl (by decide) (fun cdv A outer s H E => by exact .cons (by rfl) (.inl rfl) (by decide) (by decide) (by rfl) (.inl rfl) (by decide) (by decide) (by rfl) (.nil))) (F.bindsN fun _ _ _ _ _ _ us hl => match us, hl with | [_, _], _ => rfl)
abbrev si_NoFunction : Stmt := inCls 4 0
def di_NoFunction : He.DefD := ⟨("NoFunction", some "__init__"), "__init__", "NoFunction.__init__", defArgs si_NoFunction, defBody si_NoFunction, defScope si_NoFunction, [], []⟩
theorem sci_NoFunction : FnScope ["self", "name"] ["self", "name"] (defScope si_NoFunction) := ⟨rfl, rfl, rfl, by decide +kernel, rfl, by decide +kernel, by decide +kernel⟩
theorem xi_NoFunction {P : Program} {w : World} {K : PySem.W.Frag} {h : Heap} {mg : Str → Option Value} {base : Heap} (X : K.In h) (G : h.Ns mainGlobals mg) {fd : FuncData} (F : FunD K "__init__" "NoFunction.__init__" (defArgs si_NoFunction) (defBody si_NoFunction) (defScope si_NoFunction) [] [] (He.fAd K ("NoFunction", some "__init__")) fd) (b : clsXb K "NoFunction" ["name"] = true) : ClsX P w K mg base "NoFunction" ["name"] :=
  clsXb_ok X G b (fn_init (f := "name") (i := 1) (l := []) F sci_NoFunction rfl (by decide) rfl (by decide) (fun cdv A outer s H E => by exact .cons (by rfl) (.inl rfl) (by decide) (by decide) (by rfl) (.inl rfl) (by decide) (by decide) (by rfl) (.nil))) (F.bindsN fun _ _ _ _ _ _ us hl => match us, hl with | [_, _], _ => rfl)
abbrev si_NoLowered : Stmt := inCls 10 0
def di_NoLowered : He.DefD := ⟨("NoLowered", some "__init__"), "__init__", "NoLowered.__init__", defArgs si_NoLowered, defBody si_NoLowered, defScope si_NoLowered, [], []⟩
theorem sci_NoLowered : FnScope ["self", "name", "why"] ["self", "name", "why"] (defScope si_NoLowered) := ⟨rfl, rfl, rfl, by decide +kernel, rfl, by decide +kernel, by decide +kernel⟩
theorem xi_NoLowered {P : Program} {w : World} {K : PySem.W.Frag} {h : Heap} {mg : Str → Option Value} {base : Heap} (X : K.In h) (G : h.Ns mainGlobals mg) {fd : FuncData} (F : FunD K "__init__" "NoLowered.__init__" (defArgs si_NoLowered) (defBody si_NoLowered) (defScope si_NoLowered) [] [] (He.fAd K ("NoLowered", some "__init__")) fd) (b : clsXb K "NoLowered" ["name", "why"] = true) : ClsX P w K mg base "NoLowered" ["name", "why"] :=
  clsXb_ok X G b (fn_init (f := "name") (i := 1) (l := [("why", 2)]) F sci_NoLowered rfl (by decide) rfl (by decide) (fun cdv A outer s H E => by exact .cons (by rfl) (.inl rfl) (by decide) (by decide) (by rfl) (.inl rfl) (by decide) (by decide) (by rfl) (.cons (by rfl) (.inl rfl) (by decide) (by decide) (by rfl) (.inl rfl) (by decide) (by decide) (by rfl) (.nil)))) (F.bindsN fun _ _ _ _ _ _ us hl => match us, hl with | [_, _, _], _ => rfl)
abbrev si_NoModule : Stmt := inCls 14 0
def di_NoModule : He.DefD := ⟨("NoModule", some "__init__"), "__init__", "NoModule.__init__", defArgs si_NoModule, defBody si_NoModule, defScope si_NoModule, [], []⟩
theorem sci_NoModule : FnScope ["self", "name"] ["self", "name"] (defScope si_NoModule) := ⟨rfl, rfl, rfl, by decide +kernel, rfl, by decide +kernel, by decide +kernel⟩
theorem xi_NoModule {P : Program} {w : World} {K : PySem.W.Frag} {h : Heap} {mg : Str → Option Value} {base : Heap} (X : K.In h) (G : h.Ns mainGlobals mg) {fd : FuncData} (F : FunD K "__init__" "NoModule.__init__" (defArgs si_NoModule) (defBody si_NoModule) (defScope si_NoModule) [] [] (He.fAd K ("NoModule", some "__init__")) fd) (b : clsXb K "NoModule" ["name"] = true) : ClsX P w K mg base "NoModule" ["name"] :=
  clsXb_ok X G b (fn_init (f := "name") (i := 1) (l := []) F sci_NoModule rfl (by decide) rfl (by decide) (fun cdv A outer s H E => by exact .cons (by rfl) (.inl rfl) (by decide) (by decide) (by rfl) (.inl rfl) (by decide) (by decide) (by rfl) (.nil))) (F.bindsN fun _ _ _ _ _ _ us hl => match us, hl with | [_, _], _ => rfl)
abbrev si_NoPoint : Stmt := inCls 5 0
def di_NoPoint : He.DefD := ⟨("NoPoint", some "__init__"), "__init__", "NoPoint.__init__", defArgs si_NoPoint, defBody si_NoPoint, defScope si_NoPoint, [], []⟩
theorem sci_NoPoint : FnScope ["self", "at"] ["self", "at"] (defScope si_NoPoint) := ⟨rfl, rfl, rfl, by decide +kernel, rfl, by decide +kernel, by decide +kernel⟩
theorem xi_NoPoint {P : Program} {w : World} {K : PySem.W.Frag} {h : Heap} {mg : Str → Option Value} {base : Heap} (X : K.In h) (G : h.Ns mainGlobals mg) {fd : FuncData} (F : FunD K "__init__" "NoPoint.__init__" (defArgs si_NoPoint) (defBody si_NoPoint) (defScope si_NoPoint) [] [] (He.fAd K ("NoPoint", some "__init__")) fd) (b : clsXb K "NoPoint" ["at"] = true) : ClsX P w K mg base "NoPoint" ["at"] :=
  clsXb_ok X G b (fn_init (f := "at") (i := 1) (l := []) F sci_NoPoint rfl (by decide) rfl (by decide) (fun cdv A outer s H E => by exact .cons (by rfl) (.inl rfl) (by decide) (by decide) (by rfl) (.inl rfl) (by decide) (by decide) (by rfl) (.nil))) (F.bindsN fun _ _ _ _ _ _ us hl => match us, hl with | [_, _], _ => rfl)
abbrev si_NoProgram : Stmt := inCls 2 0
def di_NoProgram : He.DefD := ⟨("NoProgram", some "__init__"), "__init__", "NoProgram.__init__", defArgs si_NoProgram, defBody si_NoProgram, defScope si_NoProgram, [], []⟩
theorem sci_NoProgram : FnScope ["self", "where", "at", "why"] ["self", "where", "at", "why"] (defScope si_NoProgram) := ⟨rfl, rfl, rfl, by decide +kernel, rfl, by decide +kernel, by decide +kernel⟩
theorem xi_NoProgram {P : Program} {w : World} {K : PySem.W.Frag} {h : Heap} {mg : Str → Option Value} {base : Heap} (X : K.In h) (G : h.Ns mainGlobals mg) {fd : FuncData} (F : FunD K "__init__" "NoProgram.__init__" (defArgs si_NoProgram) (defBody si_NoProgram) (defScope si_NoProgram) [] [] (He.fAd K ("NoProgram", some "__init__")) fd) (b : clsXb K "NoProgram" ["where", "at", "why"] = true) : ClsX P w K mg base "NoProgram" ["where", "at", "why"] :=
  clsXb_ok X G b (fn_init (f := "where") (i := 1) (l := [("at", 2), ("why", 3)]) F sci_NoProgram rfl (by decide) rfl (by decide) (fun cdv A outer s H E => by exact .cons (by rfl) (.inl rfl) (by decide) (by decide) (by rfl) (.inl rfl) (by decide) (by decide) (by rfl) (.cons (by rfl) (.inl rfl) (by decide) (by decide) (by rfl) (.inl rfl) (by decide) (by decide) (by rfl) (.cons (by rfl) (.inl rfl) (by decide) (by decide) (by rfl) (.inl rfl) (by decide) (by decide) (by rfl) (.nil))))) (F.bindsN fun _ _ _ _ _ _ us hl => match us, hl with | [_, _, _, _], _ => rfl)
abbrev si_NoSpare : Stmt := inCls 12 0
def di_NoSpare : He.DefD := ⟨("NoSpare", some "__init__"), "__init__", "NoSpare.__init__", defArgs si_NoSpare, defBody si_NoSpare, defScope si_NoSpare, [], []⟩
theorem sci_NoSpare : FnScope ["self", "spare"] ["self", "spare"] (defScope si_NoSpare) := ⟨rfl, rfl, rfl, by decide +kernel, rfl, by decide +kernel, by decide +kernel⟩
theorem xi_NoSpare {P : Program} {w : World} {K : PySem.W.Frag} {h : Heap} {mg : Str → Option Value} {base : Heap} (X : K.In h) (G : h.Ns mainGlobals mg) {fd : FuncData} (F : FunD K "__init__" "NoSpare.__init__" (defArgs si_NoSpare) (defBody si_NoSpare) (defScope si_NoSpare) [] [] (He.fAd K ("NoSpare", some "__init__")) fd) (b : clsXb K "NoSpare" ["spare"] = true) : ClsX P w K mg base "NoSpare" ["spare"] :=
  clsXb_ok X G b (fn_init (f := "spare") (i := 1) (l := []) F sci_NoSpare rfl (by decide) rfl (by decide) (fun cdv A outer s H E => by exact .cons (by rfl) (.inl rfl) (by decide) (by decide) (by rfl) (.inl rfl) (by decide) (by decide) (by rfl) (.nil))) (F.bindsN fun _ _ _ _ _ _ us hl => match us, hl with | [_, _], _ => rfl)
abbrev si_NoText : Stmt := inCls 3 0
def di_NoText : He.DefD := ⟨("NoText", some "__init__"), "__init__", "NoText.__init__", defArgs si_NoText, defBody si_NoText, defScope si_NoText, [], []⟩
theorem sci_NoText : FnScope ["self", "at"] ["self", "at"] (defScope si_NoText) := ⟨rfl, rfl, rfl, by decide +kernel, rfl, by decide +kernel, by decide +kernel⟩
theorem xi_NoText {P : Program} {w : World} {K : PySem.W.Frag} {h : Heap} {mg : Str → Option Value} {base : Heap} (X : K.In h) (G : h.Ns mainGlobals mg) {fd : FuncData} (F : FunD K "__init__" "NoText.__init__" (defArgs si_NoText) (defBody si_NoText) (defScope si_NoText) [] [] (He.fAd K ("NoText", some "__init__")) fd) (b : clsXb K "NoText" ["at"] = true) : ClsX P w K mg base "NoText" ["at"] :=
  clsXb_ok X G b (fn_init (f := "at") (i := 1) (l := []) F sci_NoText rfl (by decide) rfl (by decide) (fun cdv A outer s H E => by exact .cons (by rfl) (.inl rfl) (by decide) (by decide) (by rfl) (.inl rfl) (by decide) (by decide) (by rfl) (.nil))) (F.bindsN fun _ _ _ _ _ _ us hl => match us, hl with | [_, _], _ => rfl)
abbrev si_NoWrites : Stmt := inCls 11 0
def di_NoWrites : He.DefD := ⟨("NoWrites", some "__init__"), "__init__", "NoWrites.__init__", defArgs si_NoWrites, defBody si_NoWrites, defScope si_NoWrites, [], []⟩
theorem sci_NoWrites : FnScope ["self", "at"] ["self", "at"] (defScope si_NoWrites) := ⟨rfl, rfl, rfl, by decide +kernel, rfl, by decide +kernel, by decide +kernel⟩
theorem xi_NoWrites {P : Program} {w : World} {K : PySem.W.Frag} {h : Heap} {mg : Str → Option Value} {base : Heap} (X : K.In h) (G : h.Ns mainGlobals mg) {fd : FuncData} (F : FunD K "__init__" "NoWrites.__init__" (defArgs si_NoWrites) (defBody si_NoWrites) (defScope si_NoWrites) [] [] (He.fAd K ("NoWrites", some "__init__")) fd) (b : clsXb K "NoWrites" ["at"] = true) : ClsX P w K mg base "NoWrites" ["at"] :=
  clsXb_ok X G b (fn_init (f := "at") (i := 1) (l := []) F sci_NoWrites rfl (by decide) rfl (by decide) (fun cdv A outer s H E => by exact .cons (by rfl) (.inl rfl) (by decide) (by decide) (by rfl) (.inl rfl) (by decide) (by decide) (by rfl) (.nil))) (F.bindsN fun _ _ _ _ _ _ us hl => match us, hl with | [_, _], _ => rfl)
def exL (K : PySem.W.Frag) : List Bool := [He.eqO (PySem.W.nsIn K mainGlobals "ValueError") (some none),
  He.eqO (PySem.W.nsIn K mainGlobals "enumerate") (some none),
  He.eqO (PySem.W.nsIn K mainGlobals "int") (some none),
  He.eqO (PySem.W.nsIn K mainGlobals "isinstance") (some none),
  He.eqO (PySem.W.nsIn K mainGlobals "range") (some none),
  He.eqO (PySem.W.nsIn K mainGlobals "HasFaults") (some (some (.ref (He.ga K "HasFaults")))),
  He.eqO (PySem.W.nsIn K mainGlobals "MarkError") (some (some (.ref (He.ga K "MarkError")))),
  He.eqO (PySem.W.nsIn K mainGlobals "NoChoices") (some (some (.ref (He.ga K "NoChoices")))),
  He.eqO (PySem.W.nsIn K mainGlobals "NoFunction") (some (some (.ref (He.ga K "NoFunction")))),
  He.eqO (PySem.W.nsIn K mainGlobals "NoImage") (some (some (.ref (He.ga K "NoImage")))),
  He.eqO (PySem.W.nsIn K mainGlobals "NoLowered") (some (some (.ref (He.ga K "NoLowered")))),
  He.eqO (PySem.W.nsIn K mainGlobals "NoModule") (some (some (.ref (He.ga K "NoModule")))),
  He.eqO (PySem.W.nsIn K mainGlobals "NoPlan") (some (some (.ref (He.ga K "NoPlan")))),
  He.eqO (PySem.W.nsIn K mainGlobals "NoPoint") (some (some (.ref (He.ga K "NoPoint")))),
  He.eqO (PySem.W.nsIn K mainGlobals "NoProgram") (some (some (.ref (He.ga K "NoProgram")))),
  He.eqO (PySem.W.nsIn K mainGlobals "NoSpare") (some (some (.ref (He.ga K "NoSpare")))),
  He.eqO (PySem.W.nsIn K mainGlobals "NoStops") (some (some (.ref (He.ga K "NoStops")))),
  He.eqO (PySem.W.nsIn K mainGlobals "NoText") (some (some (.ref (He.ga K "NoText")))),
  He.eqO (PySem.W.nsIn K mainGlobals "NoWrites") (some (some (.ref (He.ga K "NoWrites")))),
  kitTb K ku_NoFunction kb_NoFunction ko_NoFunction,
  kitTb K ku_NoText kb_NoText ko_NoText,
  kitTb K ku_NoProgram kb_NoProgram ko_NoProgram,
  kitTb K ku_HasFaults kb_HasFaults ko_HasFaults,
  kitTb K ku_NoPlan kb_NoPlan ko_NoPlan,
  kitTb K ku_NoPoint kb_NoPoint ko_NoPoint,
  kitTb K ku_NoLowered kb_NoLowered ko_NoLowered,
  kitTb K ku_NoStops kb_NoStops ko_NoStops,
  kitTb K ku_NoChoices kb_NoChoices ko_NoChoices,
  kitTb K ku_NoImage kb_NoImage ko_NoImage,
  kitTb K ku_NoSpare kb_NoSpare ko_NoSpare,
  kitTb K ku_NoWrites kb_NoWrites ko_NoWrites,
  kitTb K ku_NoModule kb_NoModule ko_NoModule,
  kitTb K ku_NoText_NoPoint_NoChoices_NoWrites kb_NoText_NoPoint_NoChoices_NoWrites ko_NoText_NoPoint_NoChoices_NoWrites,
  kitTb K ku_NoFunction_NoModule kb_NoFunction_NoModule ko_NoFunction_NoModule,
  kitTb K ku_ValueError kb_ValueError ko_ValueError,
  kitTb K ku_MarkError kb_MarkError ko_MarkError,
  noAtb K cs_why "why",
  noAtb K cs_at "at",
  noAtb K cs_where "where",
  noAtb K cs_name "name",
  noAtb K cs_faults "faults",
  noAtb K cs_spare "spare",
  He.eqO (PySem.W.nsIn K mainGlobals "_law_marks_of") (some (some (.ref (He.ga K "_law_marks_of")))),
  He.eqO (PySem.W.nsIn K mainGlobals "_law_made") (some (some (.ref (He.ga K "_law_made")))),
  He.eqO (PySem.W.nsIn K mainGlobals "_law_shown") (some (some (.ref (He.ga K "_law_shown")))),
  He.eqO (PySem.W.nsIn K mainGlobals "law") (some (some (.ref (He.ga K "law")))),
  clsXb K "HasFaults" ["faults"],
  clsX0b K "MarkError",
  clsXb K "NoChoices" ["at"],
  clsXb K "NoFunction" ["name"],
  clsX0b K "NoImage",
  clsXb K "NoLowered" ["name", "why"],
  clsXb K "NoModule" ["name"],
  clsX0b K "NoPlan",
  clsXb K "NoPoint" ["at"],
  clsXb K "NoProgram" ["where", "at", "why"],
  clsXb K "NoSpare" ["spare"],
  clsX0b K "NoStops",
  clsXb K "NoText" ["at"],
  clsXb K "NoWrites" ["at"]]
def ex (K : PySem.W.Frag) : Bool := (exL K).all id
theorem exAt {K : PySem.W.Frag} (h : ex K = true) {b : Bool} (i : Nat) (e : (exL K)[i]? = some b := by rfl) : b = true := List.all_eq_true.mp h b (List.mem_of_getElem? e)
def fn : List He.DefD := [dd__law_marks_of, dd__law_made, dd__law_shown, dd_law, di_HasFaults, di_NoChoices, di_NoFunction, di_NoLowered, di_NoModule, di_NoPoint, di_NoProgram, di_NoSpare, di_NoText, di_NoWrites]
abbrev R : PySem.W.OpenRow := PySem.W.OpenLaw.row PySem.Challenge.rw_leastmarks_k42_errors_of_one_family
abbrev hk : PySem.W.Hook := He.hookX 7 [] fn [] [] ex
def ob (s : PySem.W.SharedT) : He.AlX := He.obsX 7 [] fn [] [] ex (HandSHeadRun.getT s)
theorem ob_eq (s : PySem.W.SharedT) : ob s = hk.obs s.abs := He.obsX_eq (HandSHeadRun.getT_eq s)
def loose0 : List Str := ["MarkError", "NoProgram", "NoText", "NoFunction", "NoPoint", "NoPlan", "HasFaults", "NoChoices", "NoStops", "NoLowered", "NoWrites", "NoSpare", "NoImage", "NoModule", "_law_made", "_law_marks_of", "_law_shown"]
def loose : List Str := loose0
theorem run (w : World) : HandSHeadRun.RunEq R (PySem.W.view R.prog [19]) hk ob 6000 loose w := by
  intro os
  kernel_rfl
theorem facts {w : World} {mg : Str → Option Value} {fa : Addr} {h : Heap} (Y : hk.says w h) (G : h.Ns mainGlobals mg) (hmg : mg "law" = some (.ref fa)) :
    ∃ (K : PySem.W.Frag) (fd : FuncData), K.In h ∧ (∀ (s : Shared) (u : Value), BindsTo s fd ⟨[u], []⟩ [("_law_script", u)]) ∧ ∀ base : Heap, K.In base → base.Ns mainGlobals mg → FnOk (PySem.Challenge.rw_leastmarks_k42_errors_of_one_family).prog w K mg base (L2.CX (PySem.Challenge.rw_leastmarks_k42_errors_of_one_family).prog w) 4 fa fd ["_law_script"] (spP ⟨K, mg⟩ 1 f_law) := by
  obtain ⟨K, KX, c⟩ := Y
  have m := c.more
  have T : Txt K mg := ⟨freeb_ok KX G (exAt m 0), freeb_ok KX G (exAt m 1), freeb_ok KX G (exAt m 2), freeb_ok KX G (exAt m 3), freeb_ok KX G (exAt m 4), glob_ok KX G (exAt m 5), glob_ok KX G (exAt m 6), glob_ok KX G (exAt m 7), glob_ok KX G (exAt m 8), glob_ok KX G (exAt m 9), glob_ok KX G (exAt m 10), glob_ok KX G (exAt m 11), glob_ok KX G (exAt m 12), glob_ok KX G (exAt m 13), glob_ok KX G (exAt m 14), glob_ok KX G (exAt m 15), glob_ok KX G (exAt m 16), glob_ok KX G (exAt m 17), glob_ok KX G (exAt m 18), kitTb_ok KX G (exAt m 19), kitTb_ok KX G (exAt m 20), kitTb_ok KX G (exAt m 21), kitTb_ok KX G (exAt m 22), kitTb_ok KX G (exAt m 23), kitTb_ok KX G (exAt m 24), kitTb_ok KX G (exAt m 25), kitTb_ok KX G (exAt m 26), kitTb_ok KX G (exAt m 27), kitTb_ok KX G (exAt m 28), kitTb_ok KX G (exAt m 29), kitTb_ok KX G (exAt m 30), kitTb_ok KX G (exAt m 31), kitTb_ok KX G (exAt m 32), kitTb_ok KX G (exAt m 33), kitTb_ok KX G (exAt m 34), kitTb_ok KX G (exAt m 35), noAtb_ok KX G (exAt m 36), noAtb_ok KX G (exAt m 37), noAtb_ok KX G (exAt m 38), noAtb_ok KX G (exAt m 39), noAtb_ok KX G (exAt m 40), noAtb_ok KX G (exAt m 41)⟩
  obtain ⟨fd__law_marks_of, F__law_marks_of⟩ := c.t.d.def_ 0 (d := dd__law_marks_of) rfl
  obtain ⟨fd__law_made, F__law_made⟩ := c.t.d.def_ 1 (d := dd__law_made) rfl
  obtain ⟨fd__law_shown, F__law_shown⟩ := c.t.d.def_ 2 (d := dd__law_shown) rfl
  obtain ⟨fd_law, F_law⟩ := c.t.d.def_ 3 (d := dd_law) rfl
  obtain ⟨fd_iHasFaults, F_iHasFaults⟩ := c.t.d.def_ 4 (d := di_HasFaults) rfl
  obtain ⟨fd_iNoChoices, F_iNoChoices⟩ := c.t.d.def_ 5 (d := di_NoChoices) rfl
  obtain ⟨fd_iNoFunction, F_iNoFunction⟩ := c.t.d.def_ 6 (d := di_NoFunction) rfl
  obtain ⟨fd_iNoLowered, F_iNoLowered⟩ := c.t.d.def_ 7 (d := di_NoLowered) rfl
  obtain ⟨fd_iNoModule, F_iNoModule⟩ := c.t.d.def_ 8 (d := di_NoModule) rfl
  obtain ⟨fd_iNoPoint, F_iNoPoint⟩ := c.t.d.def_ 9 (d := di_NoPoint) rfl
  obtain ⟨fd_iNoProgram, F_iNoProgram⟩ := c.t.d.def_ 10 (d := di_NoProgram) rfl
  obtain ⟨fd_iNoSpare, F_iNoSpare⟩ := c.t.d.def_ 11 (d := di_NoSpare) rfl
  obtain ⟨fd_iNoText, F_iNoText⟩ := c.t.d.def_ 12 (d := di_NoText) rfl
  obtain ⟨fd_iNoWrites, F_iNoWrites⟩ := c.t.d.def_ 13 (d := di_NoWrites) rfl
  have g__law_marks_of : mg "_law_marks_of" = some (.ref (He.ga K "_law_marks_of")) := glob_ok KX G (exAt m 42)
  have g__law_made : mg "_law_made" = some (.ref (He.ga K "_law_made")) := glob_ok KX G (exAt m 43)
  have g__law_shown : mg "_law_shown" = some (.ref (He.ga K "_law_shown")) := glob_ok KX G (exAt m 44)
  have g_law : mg "law" = some (.ref (He.ga K "law")) := glob_ok KX G (exAt m 45)
  have e := hmg.symm.trans g_law
  cases e
  have B__law_marks_of : Binds K fd__law_marks_of ["_law_error"] [] := FunD.bindsN F__law_marks_of fun _ _ _ _ _ _ us hl => match us, hl with | [_], _ => rfl
  have B__law_made : Binds K fd__law_made ["_law_value"] [] := FunD.bindsN F__law_made fun _ _ _ _ _ _ us hl => match us, hl with | [_], _ => rfl
  have B__law_shown : Binds K fd__law_shown ["_law_error"] [] := FunD.bindsN F__law_shown fun _ _ _ _ _ _ us hl => match us, hl with | [_], _ => rfl
  have B_law : Binds K fd_law ["_law_script"] [] := FunD.bindsN F_law fun _ _ _ _ _ _ us hl => match us, hl with | [_], _ => rfl
  refine ⟨K, fd_law, KX, fun s u => FunD.bindsA (ps := ["_law_script"]) F_law (fun _ _ _ _ _ _ us hl => match us, hl with | [_], _ => rfl) s [u] rfl, fun base _ _ => ?_⟩
  have X_HasFaults : ClsX (PySem.Challenge.rw_leastmarks_k42_errors_of_one_family).prog w K mg base "HasFaults" ["faults"] := xi_HasFaults KX G F_iHasFaults (exAt m 46)
  have X_MarkError : ClsX0 K mg "MarkError" := clsX0b_ok KX G (exAt m 47)
  have X_NoChoices : ClsX (PySem.Challenge.rw_leastmarks_k42_errors_of_one_family).prog w K mg base "NoChoices" ["at"] := xi_NoChoices KX G F_iNoChoices (exAt m 48)
  have X_NoFunction : ClsX (PySem.Challenge.rw_leastmarks_k42_errors_of_one_family).prog w K mg base "NoFunction" ["name"] := xi_NoFunction KX G F_iNoFunction (exAt m 49)
  have X_NoImage : ClsX0 K mg "NoImage" := clsX0b_ok KX G (exAt m 50)
  have X_NoLowered : ClsX (PySem.Challenge.rw_leastmarks_k42_errors_of_one_family).prog w K mg base "NoLowered" ["name", "why"] := xi_NoLowered KX G F_iNoLowered (exAt m 51)
  have X_NoModule : ClsX (PySem.Challenge.rw_leastmarks_k42_errors_of_one_family).prog w K mg base "NoModule" ["name"] := xi_NoModule KX G F_iNoModule (exAt m 52)
  have X_NoPlan : ClsX0 K mg "NoPlan" := clsX0b_ok KX G (exAt m 53)
  have X_NoPoint : ClsX (PySem.Challenge.rw_leastmarks_k42_errors_of_one_family).prog w K mg base "NoPoint" ["at"] := xi_NoPoint KX G F_iNoPoint (exAt m 54)
  have X_NoProgram : ClsX (PySem.Challenge.rw_leastmarks_k42_errors_of_one_family).prog w K mg base "NoProgram" ["where", "at", "why"] := xi_NoProgram KX G F_iNoProgram (exAt m 55)
  have X_NoSpare : ClsX (PySem.Challenge.rw_leastmarks_k42_errors_of_one_family).prog w K mg base "NoSpare" ["spare"] := xi_NoSpare KX G F_iNoSpare (exAt m 56)
  have X_NoStops : ClsX0 K mg "NoStops" := clsX0b_ok KX G (exAt m 57)
  have X_NoText : ClsX (PySem.Challenge.rw_leastmarks_k42_errors_of_one_family).prog w K mg base "NoText" ["at"] := xi_NoText KX G F_iNoText (exAt m 58)
  have X_NoWrites : ClsX (PySem.Challenge.rw_leastmarks_k42_errors_of_one_family).prog w K mg base "NoWrites" ["at"] := xi_NoWrites KX G F_iNoWrites (exAt m 59)
  have O__law_marks_of : FnOk (PySem.Challenge.rw_leastmarks_k42_errors_of_one_family).prog w K mg base (L2.CX (PySem.Challenge.rw_leastmarks_k42_errors_of_one_family).prog w) 1 (He.ga K "_law_marks_of") fd__law_marks_of ["_law_error"] (spP ⟨K, mg⟩ 1 f__law_marks_of) := fn_p F__law_marks_of sc__law_marks_of (b__law_marks_of T  )
  have C__law_marks_of : CalX (PySem.Challenge.rw_leastmarks_k42_errors_of_one_family).prog w K mg base 1 "_law_marks_of" (spP ⟨K, mg⟩ 1 f__law_marks_of) := ⟨_, fd__law_marks_of, _, O__law_marks_of, g__law_marks_of, F__law_marks_of.kp, B__law_marks_of⟩
  have O__law_made : FnOk (PySem.Challenge.rw_leastmarks_k42_errors_of_one_family).prog w K mg base (L2.CX (PySem.Challenge.rw_leastmarks_k42_errors_of_one_family).prog w) 3 (He.ga K "_law_made") fd__law_made ["_law_value"] (spP ⟨K, mg⟩ 1 f__law_made) := fn_p F__law_made sc__law_made (b__law_made T  X_HasFaults X_NoChoices X_NoFunction X_NoImage X_NoLowered X_NoModule X_NoPlan X_NoPoint X_NoProgram X_NoSpare X_NoStops X_NoText X_NoWrites)
  have C__law_made : CalX (PySem.Challenge.rw_leastmarks_k42_errors_of_one_family).prog w K mg base 3 "_law_made" (spP ⟨K, mg⟩ 1 f__law_made) := ⟨_, fd__law_made, _, O__law_made, g__law_made, F__law_made.kp, B__law_made⟩
  have O__law_shown : FnOk (PySem.Challenge.rw_leastmarks_k42_errors_of_one_family).prog w K mg base (L2.CX (PySem.Challenge.rw_leastmarks_k42_errors_of_one_family).prog w) 1 (He.ga K "_law_shown") fd__law_shown ["_law_error"] (spP ⟨K, mg⟩ 1 f__law_shown) := fn_p F__law_shown sc__law_shown (b__law_shown T  )
  have C__law_shown : CalX (PySem.Challenge.rw_leastmarks_k42_errors_of_one_family).prog w K mg base 1 "_law_shown" (spP ⟨K, mg⟩ 1 f__law_shown) := ⟨_, fd__law_shown, _, O__law_shown, g__law_shown, F__law_shown.kp, B__law_shown⟩
  have O_law : FnOk (PySem.Challenge.rw_leastmarks_k42_errors_of_one_family).prog w K mg base (L2.CX (PySem.Challenge.rw_leastmarks_k42_errors_of_one_family).prog w) 4 (He.ga K "law") fd_law ["_law_script"] (spP ⟨K, mg⟩ 1 f_law) := fn_p F_law sc_law (b_law T C__law_made C__law_marks_of C__law_shown X_MarkError)
  exact O_law
end K42
open PySem PySem.W PySem.Calls PyProof.Rows
theorem PySem.Challenge.cw_leastmarks_k42_errors_of_one_family_holds : PySem.Challenge.rw_leastmarks_k42_errors_of_one_family.Holds := by
  w_on; o_law
  refine HandSHeadRun.head_any (r := OpenLaw.row PySem.Challenge.rw_leastmarks_k42_errors_of_one_family) (q := view (OpenLaw.row PySem.Challenge.rw_leastmarks_k42_errors_of_one_family).prog [19]) (H := K42.hk) (ob := K42.ob) (M := 6000) (loose := K42.loose) (d := HandSHeadRun.topDef (OpenLaw.row PySem.Challenge.rw_leastmarks_k42_errors_of_one_family).prog 19) (kwd := []) K42.ob_eq
    (by kernel_rfl) (fun s => by kernel_rfl) K42.run (by kernel_rfl) (by kernel_rfl) (by kernel_rfl) (by rfl) (by first | assumption | decide +kernel) (by decide +kernel) ⟨rfl, rfl, rfl, rfl, rfl, by decide +kernel⟩ ?hw ?hc
  case hw => w_witness2
  case hc =>
    refine Gh.walk_ofW (l := PySem.Challenge.rw_leastmarks_k42_errors_of_one_family) (n := 63) (k := 4) (x := "_law_script") (f := K42.f_law) rfl (by decide) (by kernel_rfl) ⟨rfl, by decide, by decide⟩ ?F K42.law_true
    intro w mg fa h Y G hmg0
    have hmg : mg ("law" : PySem.Str) = some (.ref fa) := by
      have e : (HandSHeadRun.topDef (OpenLaw.row PySem.Challenge.rw_leastmarks_k42_errors_of_one_family).prog 19).name = ("law" : PySem.Str) := by kernel_rfl
      rw [← e]
      exact hmg0
    exact K42.facts Y G hmg
#print axioms PySem.Challenge.cw_leastmarks_k42_errors_of_one_family_holds

