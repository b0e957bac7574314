import PyProof.Rows.All
import Wide.All
import OpenK.AllK
import Wide.FinOn
import HandS.ForMost
import HandS.Exc
import HandS.WordsExc
import HandS.ExcInit
import HandS.ExcIs
import KE.KExcIs
import KE.KeyNested
import HandS.IsInst
import HandS.Deep
import HandS.ExcOwn
import HandS.TupAny
import HandS.Wide
import HandS.Defaults
import HandS.Iter
import HandS.Ends
import HandS.Zip
import HandS.Walk
import HandS.RaiseMore
import HandS.ExcField
import HandS.ExcValue
import HandS.Head2
import HandS.HeadEnd
import HandS.HeadHook2
import HandS.HeadHook4
import HandS.EndBits
import HandS.Dict
import HandS.DictComp
import HandS.Conv
import HandS.ListItems
import HandS.SortInts
import HandS.TupSets
import PyProof.ReprReads
import PyProof.ReprRoads
import PyProof.DictUpdate
import PyProof.Draws
import PyProof.EnumMake
import HandS.SetKeys
import HandS.TupLen
import PyProof.Rows.TupDisplay
import HandS.Style
import PyProof.CollectWalk
import PyProof.ZipIter
import KE.KDictList
import PySem.Challenge.RW_leastmarks_k94_whole_rows_of_writes
set_option Elab.async false
set_option linter.all false
set_option maxRecDepth 100000
set_option maxHeartbeats 4000000
namespace Gh
open PySem PySem.Spec PyProof.Rows L2

/-! ### data (trees that no one changes), values, ghost objects -/
inductive D where
  | non | bl (b : Bool) | int (i : Int) | str (x : Str)
  | tup (ds : List D) | lst (ds : List D) | dic (t : Bool) (kvs : List (D × D)) | ins (c : Str) (fs : List (Str × D))
inductive W where
  | d (x : D) | ref (i : Nat) | tup (ws : List W)
inductive GO where
  | lst (ws : List W) | dic (t : Bool) (kvs : List (D × W)) | lkd (t : Bool) (kvs : List (D × W)) | frd (t : Bool) (kvs : List (D × W)) | ins (c : Str) (fs : List (Str × W)) | dead
structure Exc where
  c : Str
  fs : List (Str × D)
abbrev GEnv := List (Option W)
abbrev Hg := List GO
/-- keys of dicts -/
def keyD : D → Option Key
  | .int i => some (.inl i)
  | .str x => some (.inr x)
  | _ => none
/-! keys that are tuples, at any depth -/
mutual
def nk1 : D → Option NestedKey
  | .non => some .none
  | .bl b => some (.num (if b = true then 1 else 0))
  | .int i => some (.num i)
  | .str x => some (.text x)
  | .tup ds => (nkL ds).map .tup
  | _ => none
def nkL : List D → Option (List NestedKey)
  | [] => some []
  | x :: r => match nk1 x, nkL r with
    | some k, some ks => some (k :: ks)
    | _, _ => none
end
def nkD : D → Option NestedKey
  | .tup ds => match nkL ds with
    | some ks => if Nat.ble (NestedKey.tup ks).depth 8 then some (.tup ks) else none
    | none => none
  | _ => none
/-- an entry of such a dict -/
def entN (w : World) (x : NestedKey × Addr × Value) : DictEntry := ⟨x.1.hash w, .ref x.2.1, x.2.2⟩
def KN : List (NestedKey × Addr × V) → List (NestedKey × Addr × Value) → Prop := Paired fun p q => p.1 = q.1 ∧ p.2.1 = q.2.1 ∧ RelV p.2.2 q.2.2
/-- a dict whose keys are tuples, at d -/
def dN (w : World) (d : Addr) (es : List (NestedKey × Addr × V)) : HO := .ext fun h => es.length ≤ sizeLine ∧ (d == sysModules) = false ∧ ∃ xs, KN es xs ∧
  ∃ (o : Obj) (ents : Array DictEntry) (ep : Nat), h.get? d = some o ∧ o.ExactDict ∧ o.data = .dict ents ep ∧ ents.toList = xs.map (entN w) ∧ (xs.map (·.1)).Nodup

/-- a dict that stands locked -/
def GO.isL : GO → Bool
  | .lkd _ _ => true
  | _ => false
/-- the module's facts -/
structure Md where
  K : PySem.W.Frag
  mg : Str → Option Value
  w : World
/-- what stays through a def's body -/
structure GC where
  m : Md
  B : Hp
  F0 : Hp
  wx : WX

/-- a class of instances -/
structure InC (K : PySem.W.Frag) (Ca : Addr) : Prop where
  cl : Cls K Ca
  ha : PySem.W.findIn K (.ref Ca) "__class__" = some (some (.builtin "object.__class__"))
  hn : PySem.W.specialIn K (.builtin "object.__class__") "__get__" = some (some (.builtin "getset_descriptor.__get__"))
  ht : PySem.W.takesIn K (.builtin "object.__class__") = some true
  hm : PySem.W.mroIn K Ca (.type "object") = some true
/-- an exception that was caught: its class, its dict -/
def exh (e C : Addr) (d : Option Addr) : HO := .ext fun h => ∃ (oe : Obj) (vs : Array Value), h.get? e = some oe ∧ oe.cls = .ref C ∧ oe.dict = d ∧ oe.data = .fields vs
/-- at a: an object of the class at Ca with these fields: an instance, or an exception that was made -/
inductive InsAt (K : PySem.W.Frag) (F : Hp) (a Ca : Addr) (es : List (Str × V)) : Prop where
  | ins (dx : Addr) (c : InC K Ca) (h : F a = some (.ins Ca dx es))
  | exc (dx : Addr) (c : ExcC K Ca) (h : F a = some (exo a Ca (some dx))) (hd : F dx = some (exd dx es))
  | exc0 (c : ExcC K Ca) (h : F a = some (exo a Ca none)) (he : es = [])
  | hot (dx : Addr) (c : ExcC K Ca) (h : F a = some (exh a Ca (some dx))) (hd : F dx = some (.xd es))
  | hot0 (c : ExcC K Ca) (h : F a = some (exh a Ca none)) (he : es = [])
theorem InsAt.mono {K : PySem.W.Frag} {F F' : Hp} {a Ca : Addr} {es : List (Str × V)} (e : Same F F') : InsAt K F a Ca es → InsAt K F' a Ca es
  | .ins dx c h => .ins dx c (e _ _ h)
  | .exc dx c h hd => .exc dx c (e _ _ h) (e _ _ hd)
  | .exc0 c h he => .exc0 c (e _ _ h) he
  | .hot dx c h hd => .hot dx c (e _ _ h) (e _ _ hd)
  | .hot0 c h he => .hot0 c (e _ _ h) he

section
variable (C : Md) (F : Hp)
mutual
def Rp : D → V → Prop
  | .non, v => v = .non
  | .bl b, v => v = .bl b
  | .int i, v => v = .int i
  | .str x, v => v = .str x
  | .tup ds, v => ∃ a xs, v = .ref a ∧ SqT C.K F a xs ∧ RpL ds xs
  | .lst ds, v => ∃ a xs, v = .ref a ∧ SqL C.K F a xs ∧ RpL ds xs
  | .dic false kvs, v => ∃ a od es, v = .ref a ∧ F a = some (.frz od (.dK es)) ∧ RpK kvs es
  | .dic true kvs, v => ∃ a od es, v = .ref a ∧ F a = some (.frz od (dN C.w a es)) ∧ RpT kvs es
  | .ins c fs, v => ∃ a Ca es, v = .ref a ∧ C.mg c = some (.ref Ca) ∧ InsAt C.K F a Ca es ∧ RpF fs es
def RpL : List D → List V → Prop
  | [], xs => xs = []
  | d :: ds, xs => ∃ x r, xs = x :: r ∧ Rp d x ∧ RpL ds r
def RpK : List (D × D) → List (Key × V) → Prop
  | [], es => es = []
  | (k, d) :: r, es => ∃ kk x er, es = (kk, x) :: er ∧ keyD k = some kk ∧ Rp d x ∧ RpK r er
def RpT : List (D × D) → List (NestedKey × Addr × V) → Prop
  | [], es => es = []
  | (k, d) :: r, es => ∃ kk b x er, es = (kk, b, x) :: er ∧ nkD k = some kk ∧ Rp k (.ref b) ∧ Rp d x ∧ RpT r er
def RpF : List (Str × D) → List (Str × V) → Prop
  | [], es => es = []
  | (k, d) :: r, es => ∃ x er, es = (k, x) :: er ∧ Rp d x ∧ RpF r er
end
end

theorem Same.sqL {K : PySem.W.Frag} {H H' : Hp} {a : Addr} {xs : List V} (e : Same H H') (h : SqL K H a xs) : SqL K H' a xs := e.seq h
theorem Same.sqT {K : PySem.W.Frag} {H H' : Hp} {a : Addr} {xs : List V} (e : Same H H') (h : SqT K H a xs) : SqT K H' a xs := by
  rcases h with (h | ⟨o, h⟩) | h
  · exact .inl (.inl (e _ _ h))
  · exact .inl (.inr ⟨o, e _ _ h⟩)
  · exact .inr h
theorem Same.rd {H H' : Hp} {a : Addr} {u : HO} (e : Same H H') (h : Rd H a u) : Rd H' a u := by
  rcases h with h | ⟨o, h⟩
  · exact .inl (e _ _ h)
  · exact .inr ⟨o, e _ _ h⟩

section
variable {C : Md} {F F' : Hp}
mutual
theorem Rp.mono (e : Same F F') : ∀ {d : D} {v : V}, Rp C F d v → Rp C F' d v
  | .non, _, h => by simpa only [Rp] using h
  | .bl _, _, h => by simpa only [Rp] using h
  | .int _, _, h => by simpa only [Rp] using h
  | .str _, _, h => by simpa only [Rp] using h
  | .tup ds, v, h => by
    simp only [Rp] at h ⊢
    obtain ⟨a, xs, h1, h2, h3⟩ := h
    exact ⟨a, xs, h1, Same.sqT e h2, RpL.mono e h3⟩
  | .lst ds, v, h => by
    simp only [Rp] at h ⊢
    obtain ⟨a, xs, h1, h2, h3⟩ := h
    exact ⟨a, xs, h1, Same.sqL e h2, RpL.mono e h3⟩
  | .dic false kvs, v, h => by
    simp only [Rp] at h ⊢
    obtain ⟨a, od, es, h1, h2, h3⟩ := h
    exact ⟨a, od, es, h1, e _ _ h2, RpK.mono e h3⟩
  | .dic true kvs, v, h => by
    simp only [Rp] at h ⊢
    obtain ⟨a, od, es, h1, h2, h3⟩ := h
    exact ⟨a, od, es, h1, e _ _ h2, RpT.mono e h3⟩
  | .ins c fs, v, h => by
    simp only [Rp] at h ⊢
    obtain ⟨a, Ca, es, h1, h2, h3, h4⟩ := h
    exact ⟨a, Ca, es, h1, h2, h3.mono e, RpF.mono e h4⟩
theorem RpL.mono (e : Same F F') : ∀ {ds : List D} {xs : List V}, RpL C F ds xs → RpL C F' ds xs
  | [], _, h => by simpa only [RpL] using h
  | d :: ds, xs, h => by
    simp only [RpL] at h ⊢
    obtain ⟨x, r, h1, h2, h3⟩ := h
    exact ⟨x, r, h1, Rp.mono e h2, RpL.mono e h3⟩
theorem RpK.mono (e : Same F F') : ∀ {ds : List (D × D)} {xs : List (Key × V)}, RpK C F ds xs → RpK C F' ds xs
  | [], _, h => by simpa only [RpK] using h
  | (k, d) :: ds, xs, h => by
    simp only [RpK] at h ⊢
    obtain ⟨kk, x, r, h1, h2, h3, h4⟩ := h
    exact ⟨kk, x, r, h1, h2, Rp.mono e h3, RpK.mono e h4⟩
theorem RpT.mono (e : Same F F') : ∀ {ds : List (D × D)} {xs : List (NestedKey × Addr × V)}, RpT C F ds xs → RpT C F' ds xs
  | [], _, h => by simpa only [RpT] using h
  | (k, d) :: ds, xs, h => by
    simp only [RpT] at h ⊢
    obtain ⟨kk, b, x, r, h1, h2, h0, h3, h4⟩ := h
    exact ⟨kk, b, x, r, h1, h2, Rp.mono e h0, Rp.mono e h3, RpT.mono e h4⟩
theorem RpF.mono (e : Same F F') : ∀ {ds : List (Str × D)} {xs : List (Str × V)}, RpF C F ds xs → RpF C F' ds xs
  | [], _, h => by simpa only [RpF] using h
  | (k, d) :: ds, xs, h => by
    simp only [RpF] at h ⊢
    obtain ⟨x, r, h1, h2, h3⟩ := h
    exact ⟨x, r, h1, Rp.mono e h2, RpF.mono e h3⟩
end
end

/-! ### values with references -/
section
variable (C : Md) (F : Hp) (ι : Nat → Addr) (n : Nat)
mutual
def RpW : W → V → Prop
  | .d x, v => Rp C F x v
  | .ref i, v => i < n ∧ v = .ref (ι i)
  | .tup ws, v => ∃ a xs, v = .ref a ∧ SqT C.K F a xs ∧ RpWL ws xs
def RpWL : List W → List V → Prop
  | [], xs => xs = []
  | w :: ws, xs => ∃ x r, xs = x :: r ∧ RpW w x ∧ RpWL ws r
end
def RpWK : List (D × W) → List (Key × V) → Prop
  | [], es => es = []
  | (k, d) :: r, es => ∃ kk x er, es = (kk, x) :: er ∧ keyD k = some kk ∧ RpW C F ι n d x ∧ RpWK r er
def RpWT : List (D × W) → List (NestedKey × Addr × V) → Prop
  | [], es => es = []
  | (k, d) :: r, es => ∃ kk b x er, es = (kk, b, x) :: er ∧ nkD k = some kk ∧ Rp C F k (.ref b) ∧ RpW C F ι n d x ∧ RpWT r er
def RpWF : List (Str × W) → List (Str × V) → Prop
  | [], es => es = []
  | (k, d) :: r, es => ∃ x er, es = (k, x) :: er ∧ RpW C F ι n d x ∧ RpWF r er
/-- a ghost object as it stands at a -/
def RpO (H : Hp) (a : Addr) : GO → Prop
  | .lst ws => ∃ xs, H a = some (.lst xs) ∧ RpWL C F ι n ws xs
  | .dic false kvs => ∃ es, H a = some (.dK es) ∧ RpWK C F ι n kvs es
  | .dic true kvs => ∃ es, H a = some (dN C.w a es) ∧ RpWT C F ι n kvs es
  | .lkd false kvs => ∃ od es, H a = some (.frz od (.dK es)) ∧ RpWK C F ι n kvs es
  | .lkd true kvs => ∃ od es, H a = some (.frz od (dN C.w a es)) ∧ RpWT C F ι n kvs es
  | .frd false kvs => ∃ od es, H a = some (.frz od (.dK es)) ∧ RpWK C F ι n kvs es
  | .frd true kvs => ∃ od es, H a = some (.frz od (dN C.w a es)) ∧ RpWT C F ι n kvs es
  | .ins c fs => ∃ Ca dx es, C.mg c = some (.ref Ca) ∧ InC C.K Ca ∧ H a = some (.ins Ca dx es) ∧ RpWF C F ι n fs es
  | .dead => True
end
/-- from one point of a run to a later one -/
structure Ext (F : Hp) (ι : Nat → Addr) (n : Nat) (F' : Hp) (ι' : Nat → Addr) (n' : Nat) : Prop where
  fr : Same F F'
  io : ∀ i, i < n → ι' i = ι i
  le : n ≤ n'
theorem Ext.refl {F : Hp} {ι : Nat → Addr} {n : Nat} : Ext F ι n F ι n := ⟨Same.refl _, fun _ _ => rfl, Nat.le_refl _⟩
theorem Ext.trans {F F1 F2 : Hp} {ι ι1 ι2 : Nat → Addr} {n n1 n2 : Nat} (a : Ext F ι n F1 ι1 n1) (b : Ext F1 ι1 n1 F2 ι2 n2) : Ext F ι n F2 ι2 n2 :=
  ⟨a.fr.trans b.fr, fun i h => (b.io i (Nat.lt_of_lt_of_le h a.le)).trans (a.io i h), Nat.le_trans a.le b.le⟩
section
variable {C : Md} {F F' : Hp} {ι ι' : Nat → Addr} {n n' : Nat}
mutual
theorem RpW.mono (e : Ext F ι n F' ι' n') : ∀ {w : W} {v : V}, RpW C F ι n w v → RpW C F' ι' n' w v
  | .d x, v, h => by
    simp only [RpW] at h ⊢
    exact Rp.mono e.fr h
  | .ref i, v, h => by
    simp only [RpW] at h ⊢
    exact ⟨Nat.lt_of_lt_of_le h.1 e.le, by rw [e.io i h.1]; exact h.2⟩
  | .tup ws, v, h => by
    simp only [RpW] at h ⊢
    obtain ⟨a, xs, h1, h2, h3⟩ := h
    exact ⟨a, xs, h1, Same.sqT e.fr h2, RpWL.mono e h3⟩
theorem RpWL.mono (e : Ext F ι n F' ι' n') : ∀ {ws : List W} {xs : List V}, RpWL C F ι n ws xs → RpWL C F' ι' n' ws xs
  | [], _, h => by simpa only [RpWL] using h
  | w :: ws, xs, h => by
    simp only [RpWL] at h ⊢
    obtain ⟨x, r, h1, h2, h3⟩ := h
    exact ⟨x, r, h1, RpW.mono e h2, RpWL.mono e h3⟩
end
theorem RpWK.mono (e : Ext F ι n F' ι' n') : ∀ {ds : List (D × W)} {xs : List (Key × V)}, RpWK C F ι n ds xs → RpWK C F' ι' n' ds xs
  | [], _, h => by simpa only [RpWK] using h
  | (k, d) :: ds, xs, h => by
    simp only [RpWK] at h ⊢
    obtain ⟨kk, x, r, h1, h2, h3, h4⟩ := h
    exact ⟨kk, x, r, h1, h2, h3.mono e, RpWK.mono e h4⟩
theorem RpWT.mono (e : Ext F ι n F' ι' n') : ∀ {ds : List (D × W)} {xs : List (NestedKey × Addr × V)}, RpWT C F ι n ds xs → RpWT C F' ι' n' ds xs
  | [], _, h => by simpa only [RpWT] using h
  | (k, d) :: ds, xs, h => by
    simp only [RpWT] at h ⊢
    obtain ⟨kk, b, x, r, h1, h2, h0, h3, h4⟩ := h
    exact ⟨kk, b, x, r, h1, h2, h0.mono e.fr, h3.mono e, RpWT.mono e h4⟩
theorem RpWF.mono (e : Ext F ι n F' ι' n') : ∀ {ds : List (Str × W)} {xs : List (Str × V)}, RpWF C F ι n ds xs → RpWF C F' ι' n' ds xs
  | [], _, h => by simpa only [RpWF] using h
  | (k, d) :: ds, xs, h => by
    simp only [RpWF] at h ⊢
    obtain ⟨x, r, h1, h2, h3⟩ := h
    exact ⟨x, r, h1, h2.mono e, RpWF.mono e h3⟩
theorem RpO.mono {H H' : Hp} {a : Addr} (e : Ext F ι n F' ι' n') (hh : ∀ o, H a = some o → H' a = some o) : ∀ {o : GO}, RpO C F ι n H a o → RpO C F' ι' n' H' a o
  | .lst ws, h => by
    obtain ⟨xs, h1, h2⟩ := h
    exact ⟨xs, hh _ h1, h2.mono e⟩
  | .dic false kvs, h => by
    obtain ⟨xs, h1, h2⟩ := h
    exact ⟨xs, hh _ h1, h2.mono e⟩
  | .dic true kvs, h => by
    obtain ⟨xs, h1, h2⟩ := h
    exact ⟨xs, hh _ h1, h2.mono e⟩
  | .lkd false kvs, h => by
    obtain ⟨od, xs, h1, h2⟩ := h
    exact ⟨od, xs, hh _ h1, h2.mono e⟩
  | .lkd true kvs, h => by
    obtain ⟨od, xs, h1, h2⟩ := h
    exact ⟨od, xs, hh _ h1, h2.mono e⟩
  | .frd false kvs, h => by
    obtain ⟨od, xs, h1, h2⟩ := h
    exact ⟨od, xs, hh _ h1, h2.mono e⟩
  | .frd true kvs, h => by
    obtain ⟨od, xs, h1, h2⟩ := h
    exact ⟨od, xs, hh _ h1, h2.mono e⟩
  | .ins c fs, h => by
    obtain ⟨Ca, dx, es, h1, hc, h2, h3⟩ := h
    exact ⟨Ca, dx, es, h1, hc, hh _ h2, h3.mono e⟩
  | .dead, _ => trivial
/-- a live object stands -/
theorem RpO.some {H : Hp} {a : Addr} : ∀ {o : GO}, o ≠ .dead → RpO C F ι n H a o → ∃ u, H a = Option.some u
  | .lst _, _, ⟨_, h, _⟩ => ⟨_, h⟩
  | .dic false _, _, ⟨_, h, _⟩ => ⟨_, h⟩
  | .dic true _, _, ⟨_, h, _⟩ => ⟨_, h⟩
  | .lkd false _, _, ⟨_, _, h, _⟩ => ⟨_, h⟩
  | .lkd true _, _, ⟨_, _, h, _⟩ => ⟨_, h⟩
  | .frd false _, _, ⟨_, _, h, _⟩ => ⟨_, h⟩
  | .frd true _, _, ⟨_, _, h, _⟩ => ⟨_, h⟩
  | .ins _ _, _, ⟨_, _, _, _, _, h, _⟩ => ⟨_, h⟩
  | .dead, h, _ => absurd rfl h
end

/-! ### the state of a run -/
structure Sim (C : GC) (F H : Hp) (ι : Nat → Addr) (G : Hg) : Prop where
  fh : Same F H
  bh : Same C.B H
  ff : Same C.F0 F
  new : ∀ b o, F b = some o → C.F0 b = some o ∨ C.B b = none
  live : ∀ i o, G[i]? = some o → o ≠ .dead → F (ι i) = none ∧ ((o.isL = false → C.B (ι i) = none) ∧ (o.isL = true → C.B (ι i) ≠ none)) ∧ RpO C.m F ι G.length H (ι i) o
  inj : ∀ i j o u, G[i]? = some o → o ≠ .dead → G[j]? = some u → u ≠ .dead → ι i = ι j → i = j
def REnv (C : Md) (F : Hp) (ι : Nat → Addr) (n : Nat) (ρ : GEnv) (σ : L2.St) : Prop :=
  ρ.length = σ.length ∧ ∀ (i : Nat) (w : W), ρ[i]? = some (some w) → ∃ v, σ[i]? = some (some v) ∧ RpW C F ι n w v
theorem REnv.mono {C : Md} {F F' : Hp} {ι ι' : Nat → Addr} {n n' : Nat} {ρ : GEnv} {σ : L2.St} (e : Ext F ι n F' ι' n') (h : REnv C F ι n ρ σ) : REnv C F' ι' n' ρ σ :=
  ⟨h.1, fun i w hi => let ⟨v, h1, h2⟩ := h.2 i w hi; ⟨v, h1, h2.mono e⟩⟩
theorem REnv.set {C : Md} {F : Hp} {ι : Nat → Addr} {n : Nat} {ρ : GEnv} {σ : L2.St} {w : W} {v : V} (h : REnv C F ι n ρ σ) (i : Nat) (r : RpW C F ι n w v) : REnv C F ι n (ρ.set i (some w)) (σ.set i (some v)) := by
  refine ⟨by simp [h.1], fun j u hj => ?_⟩
  by_cases e : i = j
  · subst e
    have hl : i < ρ.length := by
      rcases Nat.lt_or_ge i ρ.length with q | q
      · exact q
      · rw [List.getElem?_eq_none (by simpa using q)] at hj; cases hj
    rw [List.getElem?_set_self hl] at hj
    cases hj
    exact ⟨v, List.getElem?_set_self (by rw [← h.1]; exact hl), r⟩
  · rw [List.getElem?_set_ne e] at hj
    obtain ⟨x, h1, h2⟩ := h.2 j u hj
    exact ⟨x, by rw [List.getElem?_set_ne e]; exact h1, h2⟩

inductive Res (α : Type) where
  | stuck | exc (e : Exc) (G : Hg) | ok (a : α) (G : Hg)
/-- what is known of an exception -/
def XR (C : GC) (F' H' : Hp) (e : Exc) (cls : Value) (d : Option Addr) : Prop :=
  ∃ Ca, C.m.mg e.c = some (.ref Ca) ∧ ExcC C.m.K Ca ∧ cls = .ref Ca ∧ match d with
    | none => e.fs = []
    | some dx => ∃ es, F' dx = some (.xd es) ∧ RpF C.m F' e.fs es
/-- a value's end -/
def Out (C : GC) (F : Hp) (ι : Nat → Addr) (n : Nat) (w : W) (G' : Hg) : VK := fun v H' => ∃ F' ι', Ext F ι n F' ι' G'.length ∧ Sim C F' H' ι' G' ∧ RpW C.m F' ι' G'.length w v
def XOut (C : GC) (F : Hp) (ι : Nat → Addr) (n : Nat) (e : Exc) (G' : Hg) : XK := fun cls d H' => ∃ F' ι', Ext F ι n F' ι' G'.length ∧ Sim C F' H' ι' G' ∧ XR C F' H' e cls d
/-- an expression's ghost: from slots and ghost objects -/
abbrev GE := GEnv → Hg → Res W
def Post (C : GC) (F : Hp) (ι : Nat → Addr) (n : Nat) (σ : L2.St) (r : Res W) (Q : VK) : Prop :=
  match r with
  | .stuck => False
  | .exc e G' => ∀ cls d H', XOut C F ι n e G' cls d H' → C.wx cls d σ H'
  | .ok w G' => ∀ v H', Out C F ι n w G' v H' → Q v H'
def gTE (C : GC) (g : GE) : TE := fun σ H Q => ∃ F ι ρ G, Sim C F H ι G ∧ REnv C.m F ι G.length ρ σ ∧ Post C F ι G.length σ (g ρ G) Q
abbrev GEs := GEnv → Hg → Res (List W)
def OutL (C : GC) (F : Hp) (ι : Nat → Addr) (n : Nat) (ws : List W) (G' : Hg) : List V → Hp → Prop := fun vs H' => ∃ F' ι', Ext F ι n F' ι' G'.length ∧ Sim C F' H' ι' G' ∧ RpWL C.m F' ι' G'.length ws vs
def PostL (C : GC) (F : Hp) (ι : Nat → Addr) (n : Nat) (σ : L2.St) (r : Res (List W)) (Q : List V → Hp → Prop) : Prop :=
  match r with
  | .stuck => False
  | .exc e G' => ∀ cls d H', XOut C F ι n e G' cls d H' → C.wx cls d σ H'
  | .ok w G' => ∀ v H', OutL C F ι n w G' v H' → Q v H'
def gTA (C : GC) (g : GEs) : TA := fun σ H Q => ∃ F ι ρ G, Sim C F H ι G ∧ REnv C.m F ι G.length ρ σ ∧ PostL C F ι G.length σ (g ρ G) Q
/-- a test -/
abbrev GT := GEnv → Hg → Res Bool
def OutB (C : GC) (F : Hp) (ι : Nat → Addr) (n : Nat) (w : Bool) (G' : Hg) : Bool → Hp → Prop := fun v H' => v = w ∧ ∃ F' ι', Ext F ι n F' ι' G'.length ∧ Sim C F' H' ι' G'
def PostB (C : GC) (F : Hp) (ι : Nat → Addr) (n : Nat) (σ : L2.St) (r : Res Bool) (Q : Bool → Hp → Prop) : Prop :=
  match r with
  | .stuck => False
  | .exc e G' => ∀ cls d H', XOut C F ι n e G' cls d H' → C.wx cls d σ H'
  | .ok w G' => ∀ v H', OutB C F ι n w G' v H' → Q v H'
def gTT (C : GC) (g : GT) : TT := fun σ H Q => ∃ F ι ρ G, Sim C F H ι G ∧ REnv C.m F ι G.length ρ σ ∧ PostB C F ι G.length σ (g ρ G) Q

theorem PE.imp {X : Cx} {e : Expr} {t t' : TE} (h : PE X e t) (k : ∀ σ H Q, t' σ H Q → t σ H Q) : PE X e t' := ⟨fun pins s σ H Q I q => h.run pins s σ H Q I (k _ _ _ q)⟩
theorem PT.imp {X : Cx} {e : Expr} {t t' : TT} (h : PT X e t) (k : ∀ σ H Q, t' σ H Q → t σ H Q) : PT X e t' := ⟨fun pins s σ H Q I q => h.run pins s σ H Q I (k _ _ _ q)⟩
theorem PW.imp {X : Cx} {e : Expr} {t t' : TT} (h : PW X e t) (k : ∀ σ H Q, t' σ H Q → t σ H Q) : PW X e t' := ⟨fun wh pins s σ H Q I q => h.run wh pins s σ H Q I (k _ _ _ q)⟩
theorem PA.imp {X : Cx} {e : List Expr} {t t' : TA} (h : PA X e t) (k : ∀ σ H Q, t' σ H Q → t σ H Q) : PA X e t' := ⟨fun p pins s σ H Q I q => h.run p pins s σ H Q I (k _ _ _ q)⟩
theorem PS.imp {X : Cx} {e : Stmt} {t t' : TS} (h : PS X e t) (k : ∀ D σ H, t' D σ H → t D σ H) : PS X e t' := ⟨fun pins s σ H D I q => h.run pins s σ H D I (k _ _ _ q)⟩
theorem PSs.imp {X : Cx} {e : List Stmt} {t t' : TS} (h : PSs X e t) (k : ∀ D σ H, t' D σ H → t D σ H) : PSs X e t' := ⟨fun pins s σ H D I q => h.run pins s σ H D I (k _ _ _ q)⟩

section
variable {C : GC} {F F1 H : Hp} {ι ι1 : Nat → Addr} {n n1 : Nat} {σ : L2.St} {Q : VK}
theorem Out.base {w : W} {G' : Hg} {v : V} {H' : Hp} (e : Ext F ι n F1 ι1 n1) (h : Out C F1 ι1 n1 w G' v H') : Out C F ι n w G' v H' :=
  let ⟨F', ι', a, b, c⟩ := h; ⟨F', ι', e.trans a, b, c⟩
theorem XOut.base {w : Exc} {G' : Hg} {cls : Value} {d : Option Addr} {H' : Hp} (e : Ext F ι n F1 ι1 n1) (h : XOut C F1 ι1 n1 w G' cls d H') : XOut C F ι n w G' cls d H' :=
  let ⟨F', ι', a, b, c⟩ := h; ⟨F', ι', e.trans a, b, c⟩
theorem Post.base {r : Res W} (e : Ext F ι n F1 ι1 n1) (h : Post C F ι n σ r Q) : Post C F1 ι1 n1 σ r Q := by
  cases r with
  | stuck => exact h
  | exc x G' => exact fun cls d H' q => h cls d H' (q.base e)
  | ok w G' => exact fun v H' q => h v H' (q.base e)
end
end Gh

set_option Elab.async false
set_option linter.all false
set_option maxRecDepth 100000
set_option maxHeartbeats 4000000
namespace Gh
open PySem PySem.Spec PyProof.Rows L2

/-! ### steps of the state -/
section
variable {C : GC} {F H : Hp} {ι : Nat → Addr} {G : Hg}
theorem Sim.free {p : Addr} (s : Sim C F H ι G) (h : H p = none) : F p = none := s.fh.free h
theorem Sim.freeB {p : Addr} (s : Sim C F H ι G) (h : H p = none) : C.B p = none := s.bh.free h
/-- something new that no one will change is laid -/
theorem Sim.lay {p : Addr} {o : HO} (s : Sim C F H ι G) (h : H p = none) : Sim C (upd F p o) (upd H p o) ι G ∧ Ext F ι G.length (upd F p o) ι G.length := by
  have hF := s.free h
  have hB := s.freeB h
  have ext : Ext F ι G.length (upd F p o) ι G.length := ⟨fun b u q => by rw [upd_ne (ne_of_none q hF)]; exact q, fun _ _ => rfl, Nat.le_refl _⟩
  have np : ∀ i g, G[i]? = some g → g ≠ .dead → ι i ≠ p := fun i g hi hg => by
    obtain ⟨_, _, r⟩ := s.live i g hi hg
    obtain ⟨u, hu⟩ := r.some hg
    exact ne_of_none hu h
  refine ⟨⟨fun b u q => ?_, fun b u q => ?_, s.ff.trans ext.fr, fun b u q => ?_, fun i g hi hg => ?_, s.inj⟩, ext⟩
  · by_cases e : b = p
    · subst e; rw [upd_same] at q; cases q; exact upd_same
    · rw [upd_ne e] at q ⊢; exact s.fh _ _ q
  · rw [upd_ne (ne_of_none q hB)]; exact s.bh _ _ q
  · by_cases e : b = p
    · subst e; exact .inr hB
    · rw [upd_ne e] at q; exact s.new _ _ q
  · obtain ⟨a, b, r⟩ := s.live i g hi hg
    have n := np i g hi hg
    exact ⟨by rw [upd_ne n]; exact a, b, r.mono ext fun u q => by rw [upd_ne n]; exact q⟩
/-- something that the run does not follow is laid -/
theorem Sim.drop {p : Addr} {o : HO} (s : Sim C F H ι G) (h : H p = none) : Sim C F (upd H p o) ι G := by
  have hF := s.free h
  have hB := s.freeB h
  refine ⟨fun b u q => by rw [upd_ne (ne_of_none q hF)]; exact s.fh _ _ q, fun b u q => by rw [upd_ne (ne_of_none q hB)]; exact s.bh _ _ q, s.ff, s.new, fun i g hi hg => ?_, s.inj⟩
  obtain ⟨a, b, r⟩ := s.live i g hi hg
  obtain ⟨u, hu⟩ := r.some hg
  exact ⟨a, b, r.mono .refl fun u q => by rw [upd_ne (ne_of_none hu h)]; exact q⟩
/-- a new ghost object -/
def putI (ι : Nat → Addr) (n : Nat) (p : Addr) : Nat → Addr := fun i => if i = n then p else ι i
theorem putI_same {n : Nat} {p : Addr} : putI ι n p n = p := if_pos rfl
theorem putI_lt {n i : Nat} {p : Addr} (h : i < n) : putI ι n p i = ι i := if_neg (Nat.ne_of_lt h)
theorem Sim.make {p : Addr} {o : HO} {g : GO} (s : Sim C F H ι G) (h : H p = none) (r : ∀ ι' n', Ext F ι G.length F ι' n' → RpO C.m F ι' n' (upd H p o) p g) (h1 : g.isL = false := by rfl) :
    Sim C F (upd H p o) (putI ι G.length p) (G ++ [g]) ∧ Ext F ι G.length F (putI ι G.length p) (G ++ [g]).length := by
  have hF := s.free h
  have hB := s.freeB h
  have ext : Ext F ι G.length F (putI ι G.length p) (G ++ [g]).length := ⟨Same.refl _, fun i hi => putI_lt hi, by simp⟩
  have at_ : ∀ i u, (G ++ [g])[i]? = some u → (i < G.length ∧ G[i]? = some u) ∨ (i = G.length ∧ u = g) := fun i u q => by
    rcases Nat.lt_or_ge i G.length with z | z
    · rw [List.getElem?_append_left z] at q
      exact .inl ⟨z, q⟩
    · rw [List.getElem?_append_right z] at q
      rcases Nat.eq_or_lt_of_le z with e | e
      · rw [← e, Nat.sub_self] at q
        exact .inr ⟨e.symm, (Option.some.inj q).symm⟩
      · rw [List.getElem?_eq_none (by simp; omega)] at q; cases q
  refine ⟨⟨fun b u q => by rw [upd_ne (ne_of_none q hF)]; exact s.fh _ _ q, fun b u q => by rw [upd_ne (ne_of_none q hB)]; exact s.bh _ _ q, s.ff, s.new, fun i u hi hu => ?_, fun i j u v hi hu hj hv e => ?_⟩, ext⟩
  · rcases at_ i u hi with ⟨z, q⟩ | ⟨z, q⟩
    · rw [putI_lt z]
      obtain ⟨a, b, t⟩ := s.live i u q hu
      obtain ⟨v, hv⟩ := t.some hu
      exact ⟨a, b, t.mono ext fun w q => by rw [upd_ne (ne_of_none hv h)]; exact q⟩
    · subst z q
      rw [putI_same]
      exact ⟨hF, ⟨fun _ => hB, fun z => by rw [h1] at z; cases z⟩, r _ _ ext⟩
  · rcases at_ i u hi with ⟨zi, qi⟩ | ⟨zi, qi⟩ <;> rcases at_ j v hj with ⟨zj, qj⟩ | ⟨zj, qj⟩
    · rw [putI_lt zi, putI_lt zj] at e
      exact s.inj i j u v qi hu qj hv e
    · rw [putI_lt zi, zj, putI_same] at e
      obtain ⟨_, _, t⟩ := s.live i u qi hu
      obtain ⟨v, hv⟩ := t.some hu
      exact absurd e (ne_of_none hv h)
    · rw [putI_lt zj, zi, putI_same] at e
      obtain ⟨_, _, t⟩ := s.live j v qj hv
      obtain ⟨v, hv⟩ := t.some hv
      exact absurd e.symm (ne_of_none hv h)
    · rw [zi, zj]
/-- a ghost object is changed -/
theorem Sim.write {i : Nat} {o : HO} {g g0 : GO} (s : Sim C F H ι G) (hi : G[i]? = some g0) (h0 : g0 ≠ .dead) (r : RpO C.m F ι G.length (upd H (ι i) o) (ι i) g) (h1 : g0.isL = false := by rfl) (h2 : g.isL = false := by rfl) :
    Sim C F (upd H (ι i) o) ι (G.set i g) := by
  obtain ⟨hF, hB', _⟩ := s.live i g0 hi h0
  have hB := hB'.1 h1
  have hl : i < G.length := by
    rcases Nat.lt_or_ge i G.length with z | z
    · exact z
    · rw [List.getElem?_eq_none z] at hi; cases hi
  have at_ : ∀ j u, (G.set i g)[j]? = some u → (j = i ∧ u = g) ∨ (j ≠ i ∧ G[j]? = some u) := fun j u q => by
    by_cases e : i = j
    · subst e
      rw [List.getElem?_set_self hl] at q
      exact .inl ⟨rfl, (Option.some.inj q).symm⟩
    · rw [List.getElem?_set_ne e] at q
      exact .inr ⟨fun z => e z.symm, q⟩
  refine ⟨fun b u q => by rw [upd_ne (ne_of_none q hF)]; exact s.fh _ _ q, fun b u q => by rw [upd_ne (ne_of_none q hB)]; exact s.bh _ _ q, s.ff, s.new, fun j u hj hu => ?_, fun j k u v hj hu hk hv e => ?_⟩
  · rw [List.length_set]
    rcases at_ j u hj with ⟨z, q⟩ | ⟨z, q⟩
    · subst z q
      exact ⟨hF, ⟨fun _ => hB, fun z => by rw [h2] at z; cases z⟩, r⟩
    · obtain ⟨a, b, t⟩ := s.live j u q hu
      have ne : ι j ≠ ι i := fun e => z (s.inj j i u g0 q hu hi h0 e)
      exact ⟨a, b, t.mono .refl fun w q => by rw [upd_ne ne]; exact q⟩
  · rcases at_ j u hj with ⟨z, q⟩ | ⟨z, q⟩ <;> rcases at_ k v hk with ⟨z2, q2⟩ | ⟨z2, q2⟩
    · rw [z, z2]
    · exact (s.inj k j v g0 q2 hv (by rw [z]; exact hi) h0 e.symm).symm
    · exact s.inj j k u g0 q hu (by rw [z2]; exact hi) h0 e
    · exact s.inj j k u v q hu q2 hv e
/-- a ghost object is frozen: no one changes it any more -/
theorem Sim.freeze {i : Nat} {o : HO} {g0 : GO} (s : Sim C F H ι G) (hi : G[i]? = some g0) (h0 : g0 ≠ .dead) (ho : H (ι i) = some o) (h1 : g0.isL = false := by rfl) :
    Sim C (upd F (ι i) o) H ι (G.set i .dead) ∧ Ext F ι G.length (upd F (ι i) o) ι (G.set i .dead).length := by
  obtain ⟨hF, hB', _⟩ := s.live i g0 hi h0
  have hB := hB'.1 h1
  have ext : Ext F ι G.length (upd F (ι i) o) ι (G.set i .dead).length := ⟨fun b u q => by rw [upd_ne (ne_of_none q hF)]; exact q, fun _ _ => rfl, by simp⟩
  have at_ : ∀ j u, (G.set i .dead)[j]? = some u → u ≠ .dead → j ≠ i ∧ G[j]? = some u := fun j u q hu => by
    by_cases e : i = j
    · subst e
      rw [List.getElem?_set] at q
      split at q
      · split at q
        · exact absurd (Option.some.inj q).symm hu
        · cases q
      · exact absurd rfl ‹_›
    · rw [List.getElem?_set_ne e] at q
      exact ⟨fun z => e z.symm, q⟩
  refine ⟨⟨fun b u q => ?_, s.bh, s.ff.trans ext.fr, fun b u q => ?_, fun j u hj hu => ?_, fun j k u v hj hu hk hv e => ?_⟩, ext⟩
  · by_cases e : b = ι i
    · subst e; rw [upd_same] at q; cases q; exact ho
    · rw [upd_ne e] at q; exact s.fh _ _ q
  · by_cases e : b = ι i
    · subst e; exact .inr hB
    · rw [upd_ne e] at q; exact s.new _ _ q
  · obtain ⟨z, q⟩ := at_ j u hj hu
    obtain ⟨a, b, t⟩ := s.live j u q hu
    have ne : ι j ≠ ι i := fun e => z (s.inj j i u g0 q hu hi h0 e)
    exact ⟨by rw [upd_ne ne]; exact a, b, t.mono ext fun w q => q⟩
  · obtain ⟨z, q⟩ := at_ j u hj hu
    obtain ⟨z2, q2⟩ := at_ k v hk hv
    exact s.inj j k u v q hu q2 hv e
end

/-! ### the monad -/
def Res.bind {α β : Type} : Res α → (α → Hg → Res β) → Res β
  | .stuck, _ => .stuck
  | .exc e G, _ => .exc e G
  | .ok a G, k => k a G
def lift {α : Type} : Option (α × Hg) → Res α
  | none => .stuck
  | some (a, G) => .ok a G
def liftP {α : Type} (o : Option α) (G : Hg) : Res α := match o with
  | none => .stuck
  | some a => .ok a G
section
variable {C : GC} {F : Hp} {ι : Nat → Addr} {n : Nat} {σ : L2.St} {Q Q' : VK}
theorem Post.imp {r : Res W} (h : Post C F ι n σ r Q) (k : ∀ v H', Q v H' → Q' v H') : Post C F ι n σ r Q' := by
  cases r with
  | stuck => exact h
  | exc x G' => exact h
  | ok w G' => exact fun v H' q => k _ _ (h v H' q)
/-- the first part of a run in two parts -/
theorem Post.fst {r : Res W} {k : W → Hg → Res W} (h : Post C F ι n σ (r.bind k) Q) :
    Post C F ι n σ r fun v H1 => ∃ F1 ι1 w G1, Ext F ι n F1 ι1 G1.length ∧ Sim C F1 H1 ι1 G1 ∧ RpW C.m F1 ι1 G1.length w v ∧ Post C F1 ι1 G1.length σ (k w G1) Q := by
  cases r with
  | stuck => exact h
  | exc x G' => exact h
  | ok w G' => exact fun v H' ⟨F1, ι1, e, s, rr⟩ => ⟨F1, ι1, w, G', e, s, rr, Post.base e h⟩
theorem Post.fstL {r : Res W} {k : W → Hg → Res (List W)} {Q : List V → Hp → Prop} (h : PostL C F ι n σ (r.bind k) Q) :
    Post C F ι n σ r fun v H1 => ∃ F1 ι1 w G1, Ext F ι n F1 ι1 G1.length ∧ Sim C F1 H1 ι1 G1 ∧ RpW C.m F1 ι1 G1.length w v ∧ PostL C F1 ι1 G1.length σ (k w G1) Q := by
  cases r with
  | stuck => exact h
  | exc x G' => exact h
  | ok w G' =>
    refine fun v H' ⟨F1, ι1, e, s, rr⟩ => ⟨F1, ι1, w, G', e, s, rr, ?_⟩
    have h : PostL C F ι n σ (k w G') Q := h
    cases hk : k w G' with
    | stuck => rw [hk] at h; exact h
    | exc x G2 => rw [hk] at h; exact fun cls d H2 q => h cls d H2 (q.base e)
    | ok ws G2 => rw [hk] at h; exact fun vs H2 ⟨F2, ι2, a, b, c⟩ => h vs H2 ⟨F2, ι2, e.trans a, b, c⟩
theorem PostL.fst {r : Res (List W)} {k : List W → Hg → Res W} (h : Post C F ι n σ (r.bind k) Q) :
    PostL C F ι n σ r fun v H1 => ∃ F1 ι1 w G1, Ext F ι n F1 ι1 G1.length ∧ Sim C F1 H1 ι1 G1 ∧ RpWL C.m F1 ι1 G1.length w v ∧ Post C F1 ι1 G1.length σ (k w G1) Q := by
  cases r with
  | stuck => exact h
  | exc x G' => exact h
  | ok w G' => exact fun v H' ⟨F1, ι1, e, s, rr⟩ => ⟨F1, ι1, w, G', e, s, rr, Post.base e h⟩
theorem PostL.imp {r : Res (List W)} {Q Q' : List V → Hp → Prop} (h : PostL C F ι n σ r Q) (k : ∀ v H', Q v H' → Q' v H') : PostL C F ι n σ r Q' := by
  cases r with
  | stuck => exact h
  | exc x G' => exact h
  | ok w G' => exact fun v H' q => k _ _ (h v H' q)
theorem PostL.base {F1 : Hp} {ι1 : Nat → Addr} {n1 : Nat} {r : Res (List W)} {Q : List V → Hp → Prop} (e : Ext F ι n F1 ι1 n1) (h : PostL C F ι n σ r Q) : PostL C F1 ι1 n1 σ r Q := by
  cases r with
  | stuck => exact h
  | exc x G' => exact fun cls d H' q => h cls d H' (q.base e)
  | ok w G' => exact fun v H' ⟨F2, ι2, a, b, c⟩ => h v H' ⟨F2, ι2, e.trans a, b, c⟩
theorem PostL.fstL {r : Res (List W)} {k : List W → Hg → Res (List W)} {Q : List V → Hp → Prop} (h : PostL C F ι n σ (r.bind k) Q) :
    PostL C F ι n σ r fun v H1 => ∃ F1 ι1 w G1, Ext F ι n F1 ι1 G1.length ∧ Sim C F1 H1 ι1 G1 ∧ RpWL C.m F1 ι1 G1.length w v ∧ PostL C F1 ι1 G1.length σ (k w G1) Q := by
  cases r with
  | stuck => exact h
  | exc x G' => exact h
  | ok w G' => exact fun v H' ⟨F1, ι1, e, s, rr⟩ => ⟨F1, ι1, w, G', e, s, rr, PostL.base e h⟩
end
section
variable {C : GC} {F : Hp} {ι : Nat → Addr} {n : Nat} {σ : L2.St} {Q : Bool → Hp → Prop}
theorem PostB.imp {r : Res Bool} {Q Q' : Bool → Hp → Prop} (h : PostB C F ι n σ r Q) (k : ∀ v H', Q v H' → Q' v H') : PostB C F ι n σ r Q' := by
  cases r with
  | stuck => exact h
  | exc x G' => exact h
  | ok w G' => exact fun v H' q => k _ _ (h v H' q)
theorem PostB.base {F1 : Hp} {ι1 : Nat → Addr} {n1 : Nat} {r : Res Bool} (e : Ext F ι n F1 ι1 n1) (h : PostB C F ι n σ r Q) : PostB C F1 ι1 n1 σ r Q := by
  cases r with
  | stuck => exact h
  | exc x G' => exact fun cls d H' q => h cls d H' (q.base e)
  | ok w G' => exact fun v H' ⟨z, F2, ι2, a, b⟩ => h v H' ⟨z, F2, ι2, e.trans a, b⟩
theorem PostB.fst {r : Res W} {k : W → Hg → Res Bool} (h : PostB C F ι n σ (r.bind k) Q) :
    Post C F ι n σ r fun v H1 => ∃ F1 ι1 w G1, Ext F ι n F1 ι1 G1.length ∧ Sim C F1 H1 ι1 G1 ∧ RpW C.m F1 ι1 G1.length w v ∧ PostB C F1 ι1 G1.length σ (k w G1) Q := by
  cases r with
  | stuck => exact h
  | exc x G' => exact h
  | ok w G' => exact fun v H' ⟨F1, ι1, e, s, rr⟩ => ⟨F1, ι1, w, G', e, s, rr, PostB.base e h⟩
theorem PostB.fstB {r : Res Bool} {k : Bool → Hg → Res Bool} (h : PostB C F ι n σ (r.bind k) Q) :
    PostB C F ι n σ r fun v H1 => ∃ F1 ι1 G1, Ext F ι n F1 ι1 G1.length ∧ Sim C F1 H1 ι1 G1 ∧ PostB C F1 ι1 G1.length σ (k v G1) Q := by
  cases r with
  | stuck => exact h
  | exc x G' => exact h
  | ok w G' =>
    rintro v H' ⟨rfl, F1, ι1, e, s⟩
    exact ⟨F1, ι1, G', e, s, PostB.base e h⟩
theorem PostB.fstE {Q : VK} {r : Res Bool} {k : Bool → Hg → Res W} (h : Post C F ι n σ (r.bind k) Q) :
    PostB C F ι n σ r fun v H1 => ∃ F1 ι1 G1, Ext F ι n F1 ι1 G1.length ∧ Sim C F1 H1 ι1 G1 ∧ Post C F1 ι1 G1.length σ (k v G1) Q := by
  cases r with
  | stuck => exact h
  | exc x G' => exact h
  | ok w G' =>
    rintro v H' ⟨rfl, F1, ι1, e, s⟩
    exact ⟨F1, ι1, G', e, s, Post.base e h⟩
end

/-! ### judgements -/
abbrev md (X : Cx) : Md := ⟨X.K, X.mg, X.w⟩
abbrev gc (X : Cx) (B F0 : Hp) (wx : WX) : GC := ⟨md X, B, F0, wx⟩
structure GJE (X : Cx) (e : Expr) (g : GE) : Prop where
  run : ∀ B F0 wx, Takes X wx → PE X e (gTE (gc X B F0 wx) g)
structure GJA (X : Cx) (e : List Expr) (g : GEs) : Prop where
  run : ∀ B F0 wx, Takes X wx → PA X e (gTA (gc X B F0 wx) g)
structure GJT (X : Cx) (e : Expr) (g : GT) : Prop where
  run : ∀ B F0 wx, Takes X wx → PT X e (gTT (gc X B F0 wx) g)
structure GJW (X : Cx) (e : Expr) (g : GT) : Prop where
  run : ∀ B F0 wx, Takes X wx → PW X e (gTT (gc X B F0 wx) g)
theorem GJW.pt {X : Cx} {e : Expr} {g : GT} (h : GJW X e g) : GJT X e g := ⟨fun B F0 wx tk => (h.run B F0 wx tk).pt⟩

/-! ### names and constants -/
def gVar (i : Nat) : GE := fun ρ G => match ρ[i]? with
  | some (some w) => .ok w G
  | _ => .stuck
def gC (x : D) : GE := fun _ G => .ok (.d x) G
section
variable {X : Cx}
theorem ge_var (i : Nat) {x : Str} {pos : Pos} (hN : X.N[i]? = some x := by rfl) (hv : Vis X.env.scope x := by first | exact Or.inl rfl | exact Or.inr (Or.inl rfl) | exact Or.inr (Or.inr rfl)) (hd : (x == ("__debug__" : Str)) = false := by decide)
    (hcd : (x == ("__classdict__" : Str)) = false := by decide) : GJE X (.Name x pos) (gVar i) := ⟨fun B F0 wx _ => by
  refine PE.imp (pe_var hN hv hd hcd) fun σ H Q ⟨F, ι, ρ, G, hs, he, hp⟩ => ?_
  unfold gVar at hp
  cases hr : ρ[i]? with
  | none => rw [hr] at hp; exact hp.elim
  | some o =>
    cases o with
    | none => rw [hr] at hp; exact hp.elim
    | some w =>
      rw [hr] at hp
      obtain ⟨v, h1, h2⟩ := he.2 i w hr
      exact ⟨v, h1, hp v H ⟨F, ι, .refl, hs, h2⟩⟩⟩
/-- a constant: its reading leaves the heap as it is -/
theorem ge_const {e : Expr} {v : V} {d : D} (h : PE X e (tC v)) (r : ∀ F, Rp (md X) F d v) : GJE X e (gC d) := ⟨fun B F0 wx _ => by
  refine PE.imp h fun σ H Q ⟨F, ι, ρ, G, hs, he, hp⟩ => ?_
  exact hp v H ⟨F, ι, .refl, hs, by simp only [RpW]; exact r F⟩⟩
theorem ge_int {i : Int} {j pos} : GJE X (.Constant (.int i) j pos) (gC (.int i)) := ge_const pe_int fun _ => by simp only [Rp]
theorem ge_str {i : Str} {j pos} : GJE X (.Constant (.str i) j pos) (gC (.str i)) := ge_const pe_str fun _ => by simp only [Rp]
theorem ge_bl {i : Bool} {j pos} : GJE X (.Constant (.bool i) j pos) (gC (.bl i)) := ge_const pe_bl fun _ => by simp only [Rp]
theorem ge_non {j pos} : GJE X (.Constant .none j pos) (gC .non) := ge_const pe_non fun _ => by simp only [Rp]
/-- a module's constant -/
structure GlobD (K : PySem.W.Frag) (mg : Str → Option Value) (x : Str) (d : D) : Prop where
  ex : ∃ u v, mg x = some u ∧ RelV v u ∧ ∀ w F, Rp ⟨K, mg, w⟩ F d v
theorem ge_glob {x : Str} {d : D} {pos : Pos} (h : GlobD X.K X.mg x d) (hg : Gl X x := by rfl) (hd : (x == ("__debug__" : Str)) = false := by decide) : GJE X (.Name x pos) (gC d) := by
  obtain ⟨u, v, h1, h2, h3⟩ := h.ex
  exact ge_const (pe_glob hg h1 h2 hd) (h3 _)
end

/-! ### two-place operations by values -/
def gBin (f : W → W → Hg → Option (W × Hg)) (a b : GE) : GE := fun ρ G => (a ρ G).bind fun x G1 => (b ρ G1).bind fun y G2 => lift (f x y G2)
/-- f is what the reading r does -/
def OpG (X : Cx) (r : R2) (f : W → W → Hg → Option (W × Hg)) : Prop := ∀ (C : GC) (F H : Hp) (ι : Nat → Addr) (G : Hg) (w u : W) (x y : V) (z : W) (G' : Hg) (Q : VK), C.m = md X → Sim C F H ι G → RpW C.m F ι G.length w x → RpW C.m F ι G.length u y →
  f w u G = some (z, G') → (∀ v H', Out C F ι G.length z G' v H' → Q v H') → r x y H Q
theorem gTE_bin {X : Cx} {B F0 : Hp} {wx : WX} {r : R2} {f : W → W → Hg → Option (W × Hg)} {ga gb : GE} (hf : OpG X r f) {σ : L2.St} {H : Hp} {Q : VK} (h : gTE (gc X B F0 wx) (gBin f ga gb) σ H Q) :
    tOp r (gTE (gc X B F0 wx) ga) (gTE (gc X B F0 wx) gb) σ H Q := by
  obtain ⟨F, ι, ρ, G, hs, he, hp⟩ := h
  refine ⟨F, ι, ρ, G, hs, he, (Post.fst hp).imp fun x H1 ⟨F1, ι1, w, G1, e1, s1, r1, p1⟩ => ⟨F1, ι1, ρ, G1, s1, he.mono e1, (Post.fst p1).imp fun y H2 ⟨F2, ι2, u, G2, e2, s2, r2, p2⟩ => ?_⟩⟩
  cases q : f w u G2 with
  | none => rw [q] at p2; exact p2.elim
  | some o =>
    obtain ⟨z, G3⟩ := o
    rw [q] at p2
    exact hf _ F2 H2 ι2 G2 w u x y z G3 Q rfl s2 (r1.mono e2) r2 q p2
section
variable {X : Cx} {a b : Expr} {ga gb : GE} {pos : Pos} {r : R2} {f : W → W → Hg → Option (W × Hg)}
theorem ge_op {op : Operator} (ho : OpR X (binaryOp op) r) (hf : OpG X r f) (ha : GJE X a ga) (hb : GJE X b gb) : GJE X (.BinOp a op b pos) (gBin f ga gb) :=
  ⟨fun B F0 wx tk => PE.imp (pe_op ho (ha.run B F0 wx tk) (hb.run B F0 wx tk)) fun _ _ _ h => gTE_bin hf h⟩
theorem ge_cmp {op : CmpOp} (ho : OpR X (compareOp op) r) (hf : OpG X r f) (ha : GJE X a ga) (hb : GJE X b gb) (hm : behindInMarks op b = false := by first | exact nomark _ | rfl) : GJE X (.Compare a [op] [b] pos) (gBin f ga gb) :=
  ⟨fun B F0 wx tk => PE.imp (pe_cmpR ho (ha.run B F0 wx tk) (hb.run B F0 wx tk) hm) fun _ _ _ h => gTE_bin hf h⟩
theorem ge_ix {r : R2} (ho : IxR X r) (hf : OpG X r f) (ha : GJE X a ga) (hb : GJE X b gb) (hs : PlainIx b := by exact fun _ _ => rfl) : GJE X (.Subscript a b pos) (gBin f ga gb) :=
  ⟨fun B F0 wx tk => PE.imp (pe_ix ho (ha.run B F0 wx tk) (hb.run B F0 wx tk) hs) fun _ _ _ h => gTE_bin hf h⟩
end

/-! ### argument lists, displays, calls of built-ins by values -/
def gNilA : GEs := fun _ G => .ok [] G
def gConsA (a : GE) (r : GEs) : GEs := fun ρ G => (a ρ G).bind fun x G1 => (r ρ G1).bind fun xs G2 => .ok (x :: xs) G2
section
variable {X : Cx} {e : Expr} {es : List Expr} {g : GE} {gs : GEs} {pos : Pos}
theorem ga_nil : GJA X [] gNilA := ⟨fun B F0 wx _ => PA.imp pa_nil fun σ H Q ⟨F, ι, ρ, G, hs, he, hp⟩ => hp [] H ⟨F, ι, .refl, hs, by simp only [RpWL]⟩⟩
theorem ga_cons (ha : GJE X e g) (hr : GJA X es gs) (hs : starEach (e :: es) X.env = (false, eval e X.env) :: starEach es X.env := by rfl) : GJA X (e :: es) (gConsA g gs) := ⟨fun B F0 wx tk => by
  refine PA.imp (pa_cons (ha.run B F0 wx tk) (hr.run B F0 wx tk) hs) fun σ H Q ⟨F, ι, ρ, G, s, he, hp⟩ => ?_
  refine ⟨F, ι, ρ, G, s, he, (Post.fstL hp).imp fun x H1 ⟨F1, ι1, w, G1, e1, s1, r1, p1⟩ => ⟨F1, ι1, ρ, G1, s1, he.mono e1, (PostL.fstL p1).imp fun xs H2 ⟨F2, ι2, ws, G2, e2, s2, r2, p2⟩ => ?_⟩⟩
  exact p2 (x :: xs) H2 ⟨F2, ι2, .refl, s2, by simp only [RpWL]; exact ⟨x, xs, rfl, r1.mono e2, r2⟩⟩⟩
end
/-- a call of a known thing with values -/
def CallG (X : Cx) (r : List V → Hp → VK → Prop) (f : List W → Hg → Option (W × Hg)) : Prop := ∀ (C : GC) (F H : Hp) (ι : Nat → Addr) (G : Hg) (ws : List W) (xs : List V) (z : W) (G' : Hg) (Q : VK), C.m = md X → Sim C F H ι G → RpWL C.m F ι G.length ws xs →
  f ws G = some (z, G') → (∀ v H', Out C F ι G.length z G' v H' → Q v H') → r xs H Q
def gCall (f : List W → Hg → Option (W × Hg)) (a : GEs) : GE := fun ρ G => (a ρ G).bind fun xs G1 => lift (f xs G1)
section
variable {X : Cx} {e : Expr} {es : List Expr} {gs : GEs} {p pos : Pos} {x : Str} {r : List V → Hp → VK → Prop} {f : List W → Hg → Option (W × Hg)}
theorem gTE_call {B F0 : Hp} {wx : WX} (hf : CallG X r f) {σ : L2.St} {H : Hp} {Q : VK} (h : gTE (gc X B F0 wx) (gCall f gs) σ H Q) : gTA (gc X B F0 wx) gs σ H fun vs H1 => r vs H1 Q := by
  obtain ⟨F, ι, ρ, G, hs, he, hp⟩ := h
  refine ⟨F, ι, ρ, G, hs, he, (PostL.fst hp).imp fun xs H1 ⟨F1, ι1, ws, G1, e1, s1, r1, p1⟩ => ?_⟩
  cases q : f ws G1 with
  | none => rw [q] at p1; exact p1.elim
  | some o =>
    obtain ⟨z, G3⟩ := o
    rw [q] at p1
    exact hf _ F1 H1 ι1 G1 ws xs z G3 Q rfl s1 r1 q p1
theorem ge_callB {id : String} (hc : CallR X (.builtin id) r) (hf : CallG X r f) (hm : X.mg x = none) (ha : GJA X (e :: es) gs) (hv : bootBuiltins x = some (.builtin id) := by decide +kernel) (hg : Gl X x := by rfl) (hn : x ≠ "__name__" := by decide) (hdb : (x == ("__debug__" : Str)) = false := by decide)
    (he : starEach (e :: es) X.env = (false, eval e X.env) :: starEach es X.env := by rfl) (hpl : (backTo pos (starEach es X.env)).any (·.1) = false := by rfl) : GJE X (.Call (.Name x p) (e :: es) [] pos) (gCall f gs) :=
  ⟨fun B F0 wx tk => PE.imp (pe_callB hc hg hm hv (ha.run B F0 wx tk) hn hdb he hpl) fun _ _ _ h => gTE_call hf h⟩
theorem ge_callTy {T : String} (hc : CallR X (.type T) r) (hf : CallG X r f) (hm : X.mg x = none) (ha : GJA X (e :: es) gs) (hv : bootBuiltins x = some (.type T) := by decide +kernel) (hg : Gl X x := by rfl) (hn : x ≠ "__name__" := by decide) (hdb : (x == ("__debug__" : Str)) = false := by decide)
    (he : starEach (e :: es) X.env = (false, eval e X.env) :: starEach es X.env := by rfl) (hpl : (backTo pos (starEach es X.env)).any (·.1) = false := by rfl) : GJE X (.Call (.Name x p) (e :: es) [] pos) (gCall f gs) :=
  ⟨fun B F0 wx tk => PE.imp (pe_callTy hc hg hm hv (ha.run B F0 wx tk) hn hdb he hpl) fun _ _ _ h => gTE_call hf h⟩
end

/-! ### tests -/
/-- a value that is a bool, as a test -/
def asB : W → Option Bool
  | .d (.bl b) => some b
  | _ => none
def gTst (a : GE) : GT := fun ρ G => (a ρ G).bind fun x G1 => liftP (asB x) G1
section
variable {X : Cx} {a b : Expr} {ga gb : GE} {ta tb : GT} {pos : Pos}
theorem gTT_tst {B F0 : Hp} {wx : WX} {σ : L2.St} {H : Hp} {Q : Bool → Hp → Prop} (h : gTT (gc X B F0 wx) (gTst ga) σ H Q) : gTE (gc X B F0 wx) ga σ H fun x H1 => ∃ k, x = .bl k ∧ Q k H1 := by
  obtain ⟨F, ι, ρ, G, hs, he, hp⟩ := h
  refine ⟨F, ι, ρ, G, hs, he, (PostB.fst hp).imp fun x H1 ⟨F1, ι1, w, G1, e1, s1, r1, p1⟩ => ?_⟩
  cases w with
  | ref i => exact p1.elim
  | tup ws => exact p1.elim
  | d x' =>
    cases x' with
    | bl k =>
      simp only [RpW, Rp] at r1
      exact ⟨k, r1, p1 k H1 ⟨rfl, F1, ι1, .refl, s1⟩⟩
    | _ => exact p1.elim
theorem gt_val (ha : GJE X a ga) (he : ∀ whole, isTrue a X.env whole = (do let v ← whole; standAt a.pos; holding [v] (truthy v)) := by intro _; rfl) : GJT X a (gTst ga) :=
  ⟨fun B F0 wx tk => PT.imp (pt_val (ha.run B F0 wx tk) he) fun _ _ _ h => gTT_tst h⟩
theorem gt_cmp {op : CmpOp} {r : R2} {f : W → W → Hg → Option (W × Hg)} (ho : OpR X (compareOp op) r) (hf : OpG X r f) (ha : GJE X a ga) (hb : GJE X b gb) (hm : behindInMarks op b = false := by first | exact nomark _ | rfl) : GJT X (.Compare a [op] [b] pos) (gTst (gBin f ga gb)) :=
  ⟨fun B F0 wx tk => PT.imp (pt_cmpR ho (ha.run B F0 wx tk) (hb.run B F0 wx tk) hm) fun σ H Q h => gTE_bin hf (gTT_tst h)⟩
def gAnd (a b : GT) : GT := fun ρ G => (a ρ G).bind fun x G1 => if x then b ρ G1 else .ok false G1
def gOr (a b : GT) : GT := fun ρ G => (a ρ G).bind fun x G1 => if x then .ok true G1 else b ρ G1
def gNot (a : GT) : GT := fun ρ G => (a ρ G).bind fun x G1 => .ok (!x) G1
theorem gw_and1 (ha : GJT X a ta) : GJW X (.BoolOp .And [a] pos) ta := ⟨fun B F0 wx tk => pw_and1 (ha.run B F0 wx tk)⟩
theorem gw_or1 (ha : GJT X a ta) : GJW X (.BoolOp .Or [a] pos) ta := ⟨fun B F0 wx tk => pw_or1 (ha.run B F0 wx tk)⟩
theorem gw_and {rest : List Expr} (ha : GJT X a ta) (hb : GJW X (.BoolOp .And (b :: rest) pos) tb) : GJW X (.BoolOp .And (a :: b :: rest) pos) (gAnd ta tb) := ⟨fun B F0 wx tk => by
  refine PW.imp (pw_and (ha.run B F0 wx tk) (hb.run B F0 wx tk)) fun σ H Q ⟨F, ι, ρ, G, hs, he, hp⟩ => ?_
  refine ⟨F, ι, ρ, G, hs, he, (PostB.fstB hp).imp fun x H1 ⟨F1, ι1, G1, e1, s1, p1⟩ => ?_⟩
  cases x with
  | true => exact ⟨F1, ι1, ρ, G1, s1, he.mono e1, p1⟩
  | false => exact p1 false H1 ⟨rfl, F1, ι1, .refl, s1⟩⟩
theorem gw_or {rest : List Expr} (ha : GJT X a ta) (hb : GJW X (.BoolOp .Or (b :: rest) pos) tb) : GJW X (.BoolOp .Or (a :: b :: rest) pos) (gOr ta tb) := ⟨fun B F0 wx tk => by
  refine PW.imp (pw_or (ha.run B F0 wx tk) (hb.run B F0 wx tk)) fun σ H Q ⟨F, ι, ρ, G, hs, he, hp⟩ => ?_
  refine ⟨F, ι, ρ, G, hs, he, (PostB.fstB hp).imp fun x H1 ⟨F1, ι1, G1, e1, s1, p1⟩ => ?_⟩
  cases x with
  | false => exact ⟨F1, ι1, ρ, G1, s1, he.mono e1, p1⟩
  | true => exact p1 true H1 ⟨rfl, F1, ι1, .refl, s1⟩⟩
theorem gt_not (ha : GJT X a ta) : GJT X (.UnaryOp .Not a pos) (gNot ta) := ⟨fun B F0 wx tk => by
  refine PT.imp (pt_not (ha.run B F0 wx tk)) fun σ H Q ⟨F, ι, ρ, G, hs, he, hp⟩ => ?_
  refine ⟨F, ι, ρ, G, hs, he, (PostB.fstB hp).imp fun x H1 ⟨F1, ι1, G1, e1, s1, p1⟩ => ?_⟩
  exact p1 _ H1 ⟨rfl, F1, ι1, .refl, s1⟩⟩
/-! .. as values -/
def gAndV (a b : GE) : GE := fun ρ G => (a ρ G).bind fun x G1 => match asB x with
  | none => .stuck
  | some true => b ρ G1
  | some false => .ok (.d (.bl false)) G1
def gOrV (a b : GE) : GE := fun ρ G => (a ρ G).bind fun x G1 => match asB x with
  | none => .stuck
  | some true => .ok (.d (.bl true)) G1
  | some false => b ρ G1
def gNotV (a : GE) : GE := fun ρ G => (a ρ G).bind fun x G1 => match asB x with
  | none => .stuck
  | some k => .ok (.d (.bl (!k))) G1
theorem asB_is {C : Md} {F : Hp} {ι : Nat → Addr} {n : Nat} {w : W} {v : V} {k : Bool} (h : asB w = some k) (r : RpW C F ι n w v) : v = .bl k := by
  cases w with
  | ref i => cases h
  | tup ws => cases h
  | d x' =>
    cases x' with
    | bl b =>
      simp only [RpW, Rp] at r
      cases h
      exact r
    | _ => cases h
theorem ge_one {op} (ha : GJE X a ga) : GJE X (.BoolOp op [a] pos) ga := ⟨fun B F0 wx tk => pe_one (ha.run B F0 wx tk)⟩
theorem ge_and {rest : List Expr} (ha : GJE X a ga) (hb : GJE X (.BoolOp .And (b :: rest) pos) gb) : GJE X (.BoolOp .And (a :: b :: rest) pos) (gAndV ga gb) := ⟨fun B F0 wx tk => by
  refine PE.imp (pe_and (ha.run B F0 wx tk) (hb.run B F0 wx tk)) fun σ H Q ⟨F, ι, ρ, G, hs, he, hp⟩ => ?_
  refine ⟨F, ι, ρ, G, hs, he, (Post.fst hp).imp fun x H1 ⟨F1, ι1, w, G1, e1, s1, r1, p1⟩ => ?_⟩
  cases k : asB w with
  | none => rw [k] at p1; exact p1.elim
  | some c =>
    rw [k] at p1
    refine ⟨c, asB_is k r1, ?_⟩
    cases c with
    | true => exact ⟨F1, ι1, ρ, G1, s1, he.mono e1, p1⟩
    | false => exact p1 _ H1 ⟨F1, ι1, .refl, s1, by simp only [RpW, Rp]⟩⟩
theorem ge_or {rest : List Expr} (ha : GJE X a ga) (hb : GJE X (.BoolOp .Or (b :: rest) pos) gb) : GJE X (.BoolOp .Or (a :: b :: rest) pos) (gOrV ga gb) := ⟨fun B F0 wx tk => by
  refine PE.imp (pe_or (ha.run B F0 wx tk) (hb.run B F0 wx tk)) fun σ H Q ⟨F, ι, ρ, G, hs, he, hp⟩ => ?_
  refine ⟨F, ι, ρ, G, hs, he, (Post.fst hp).imp fun x H1 ⟨F1, ι1, w, G1, e1, s1, r1, p1⟩ => ?_⟩
  cases k : asB w with
  | none => rw [k] at p1; exact p1.elim
  | some c =>
    rw [k] at p1
    refine ⟨c, asB_is k r1, ?_⟩
    cases c with
    | false => exact ⟨F1, ι1, ρ, G1, s1, he.mono e1, p1⟩
    | true => exact p1 _ H1 ⟨F1, ι1, .refl, s1, by simp only [RpW, Rp]⟩⟩
theorem ge_not (ha : GJE X a ga) : GJE X (.UnaryOp .Not a pos) (gNotV ga) := ⟨fun B F0 wx tk => by
  refine PE.imp (pe_not (ha.run B F0 wx tk)) fun σ H Q ⟨F, ι, ρ, G, hs, he, hp⟩ => ?_
  refine ⟨F, ι, ρ, G, hs, he, (Post.fst hp).imp fun x H1 ⟨F1, ι1, w, G1, e1, s1, r1, p1⟩ => ?_⟩
  cases k : asB w with
  | none => rw [k] at p1; exact p1.elim
  | some c =>
    rw [k] at p1
    exact ⟨c, asB_is k r1, p1 _ H1 ⟨F1, ι1, .refl, s1, by simp only [RpW, Rp]⟩⟩⟩
def gIfE (c : GT) (a b : GE) : GE := fun ρ G => (c ρ G).bind fun x G1 => if x then a ρ G1 else b ρ G1
theorem ge_if {c : Expr} {tc : GT} (hc : GJT X c tc) (ha : GJE X a ga) (hb : GJE X b gb) : GJE X (.IfExp c a b pos) (gIfE tc ga gb) := ⟨fun B F0 wx tk => by
  refine PE.imp (pe_ifExp (hc.run B F0 wx tk) (ha.run B F0 wx tk) (hb.run B F0 wx tk)) fun σ H Q ⟨F, ι, ρ, G, hs, he, hp⟩ => ?_
  refine ⟨F, ι, ρ, G, hs, he, (PostB.fstE hp).imp fun x H1 ⟨F1, ι1, G1, e1, s1, p1⟩ => ?_⟩
  cases x with
  | true => exact ⟨F1, ι1, ρ, G1, s1, he.mono e1, p1⟩
  | false => exact ⟨F1, ι1, ρ, G1, s1, he.mono e1, p1⟩⟩
end
end Gh

set_option Elab.async false
set_option linter.all false
set_option maxRecDepth 100000
set_option maxHeartbeats 4000000
namespace Gh
open PySem PySem.Spec PyProof.Rows L2

/-! ### trees as the library's data -/
mutual
def toPy : D → PyData
  | .non => .none
  | .bl b => .bool b
  | .int i => .int i
  | .str x => .str x
  | .tup ds => .tuple (toPyL ds)
  | .lst ds => .list (toPyL ds)
  | .dic _ _ => .dict []
  | .ins _ _ => .dict []
def toPyL : List D → List PyData
  | [] => []
  | d :: ds => toPy d :: toPyL ds
end
section
variable {C : Md} {F : Hp}
mutual
theorem Rp.dp : ∀ {d : D} {v : V}, (toPy d).canLay0 = true → Rp C F d v → Dp C.K F v (toPy d)
  | .non, v, _, h => by simp only [Rp] at h; subst h; simp only [toPy]; exact .non
  | .bl b, v, _, h => by simp only [Rp] at h; subst h; simp only [toPy]; exact .bl b
  | .int i, v, _, h => by simp only [Rp] at h; subst h; simp only [toPy]; exact .int i
  | .str x, v, _, h => by simp only [Rp] at h; subst h; simp only [toPy]; exact .str x
  | .tup ds, v, c, h => by
    simp only [Rp] at h
    obtain ⟨a, xs, rfl, h2, h3⟩ := h
    simp only [toPy, PyData.canLay0] at c ⊢
    exact .tup h2 (RpL.dp c h3)
  | .lst ds, v, c, h => by
    simp only [Rp] at h
    obtain ⟨a, xs, rfl, h2, h3⟩ := h
    simp only [toPy, PyData.canLay0] at c ⊢
    exact .lst h2 (RpL.dp c h3)
  | .dic _ _, v, c, _ => by simp [toPy, PyData.canLay0] at c
  | .ins _ _, v, c, _ => by simp [toPy, PyData.canLay0] at c
theorem RpL.dp : ∀ {ds : List D} {xs : List V}, PyData.canLayAll0 (toPyL ds) = true → RpL C F ds xs → DpAll C.K F xs (toPyL ds)
  | [], xs, _, h => by simp only [RpL] at h; subst h; simp only [toPyL]; exact .nil
  | d :: ds, xs, c, h => by
    simp only [RpL] at h
    obtain ⟨x, r, rfl, h2, h3⟩ := h
    simp only [toPyL, PyData.canLayAll0, Bool.and_eq_true] at c ⊢
    exact .cons (Rp.dp c.1 h2) (RpL.dp c.2 h3)
end
end

/-! ### what a value reads as here -/
def allD : List W → Option (List D)
  | [] => some []
  | .d x :: r => (allD r).map (x :: ·)
  | _ :: _ => none
theorem allD_rp {C : Md} {F : Hp} {ι : Nat → Addr} {n : Nat} : ∀ {ws : List W} {ds : List D} {xs : List V}, allD ws = some ds → RpWL C F ι n ws xs → RpL C F ds xs
  | [], ds, xs, h, r => by
    cases h
    simp only [RpWL] at r
    simpa only [RpL] using r
  | .d x :: ws, ds, xs, h, r => by
    simp only [allD] at h
    cases q : allD ws with
    | none => rw [q] at h; cases h
    | some es =>
      rw [q] at h
      cases h
      simp only [RpWL, RpW] at r
      obtain ⟨y, r', rfl, h1, h2⟩ := r
      simp only [RpL]
      exact ⟨y, r', rfl, h1, allD_rp q h2⟩
  | .ref _ :: _, _, _, h, _ => by cases h
  | .tup _ :: _, _, _, h, _ => by cases h
theorem RpL.wl {C : Md} {F : Hp} {ι : Nat → Addr} {n : Nat} : ∀ {ds : List D} {xs : List V}, RpL C F ds xs → RpWL C F ι n (ds.map .d) xs
  | [], xs, h => by simpa only [RpL, List.map_nil, RpWL] using h
  | d :: ds, xs, h => by
    simp only [RpL] at h
    obtain ⟨x, r, rfl, h1, h2⟩ := h
    simp only [List.map_cons, RpWL, RpW]
    exact ⟨x, r, rfl, h1, RpL.wl h2⟩
theorem RpWL.length {C : Md} {F : Hp} {ι : Nat → Addr} {n : Nat} : ∀ {ws : List W} {xs : List V}, RpWL C F ι n ws xs → ws.length = xs.length
  | [], xs, h => by simp only [RpWL] at h; subst h; rfl
  | w :: ws, xs, h => by
    simp only [RpWL] at h
    obtain ⟨x, r, rfl, _, h2⟩ := h
    simp [RpWL.length h2]
theorem RpWL.get {C : Md} {F : Hp} {ι : Nat → Addr} {n : Nat} : ∀ {ws : List W} {xs : List V} {i : Nat} {w : W}, RpWL C F ι n ws xs → ws[i]? = some w → ∃ x, xs[i]? = some x ∧ RpW C F ι n w x
  | [], xs, i, w, h, e => by simp at e
  | w' :: ws, xs, i, w, h, e => by
    simp only [RpWL] at h
    obtain ⟨x, r, rfl, h1, h2⟩ := h
    cases i with
    | zero => simp at e; subst e; exact ⟨x, rfl, h1⟩
    | succ i => simpa using RpWL.get (i := i) h2 (by simpa using e)
theorem RpWL.getV {C : Md} {F : Hp} {ι : Nat → Addr} {n : Nat} {ws : List W} {xs : List V} {i : Nat} {x : V} (h : RpWL C F ι n ws xs) (e : xs[i]? = some x) : ∃ w, ws[i]? = some w ∧ RpW C F ι n w x := by
  have hi : i < ws.length := by rw [h.length]; exact (List.getElem?_eq_some_iff.mp e).1
  obtain ⟨y, h1, h2⟩ := h.get (List.getElem?_eq_getElem hi)
  rw [e] at h1
  cases h1
  exact ⟨_, List.getElem?_eq_getElem hi, h2⟩
theorem RpWL.append {C : Md} {F : Hp} {ι : Nat → Addr} {n : Nat} : ∀ {ws us : List W} {xs ys : List V}, RpWL C F ι n ws xs → RpWL C F ι n us ys → RpWL C F ι n (ws ++ us) (xs ++ ys)
  | [], us, xs, ys, h, k => by simp only [RpWL] at h; subst h; simpa using k
  | w :: ws, us, xs, ys, h, k => by
    simp only [RpWL] at h
    obtain ⟨x, r, rfl, h1, h2⟩ := h
    simp only [List.cons_append, RpWL]
    exact ⟨x, r ++ ys, rfl, h1, h2.append k⟩
theorem RpWL.one {C : Md} {F : Hp} {ι : Nat → Addr} {n : Nat} {w : W} {x : V} (h : RpW C F ι n w x) : RpWL C F ι n [w] [x] := by
  simp only [RpWL]
  exact ⟨x, [], rfl, h, rfl⟩
theorem RpWL.take {C : Md} {F : Hp} {ι : Nat → Addr} {n : Nat} : ∀ {ws : List W} {xs : List V} (k : Nat), RpWL C F ι n ws xs → RpWL C F ι n (ws.take k) (xs.take k)
  | [], xs, k, h => by simp only [RpWL] at h; subst h; simp [RpWL]
  | w :: ws, xs, 0, h => by simp [RpWL]
  | w :: ws, xs, k + 1, h => by
    simp only [RpWL] at h
    obtain ⟨x, r, rfl, h1, h2⟩ := h
    simp only [List.take_succ_cons, RpWL]
    exact ⟨x, _, rfl, h1, h2.take k⟩
theorem RpWL.drop {C : Md} {F : Hp} {ι : Nat → Addr} {n : Nat} : ∀ {ws : List W} {xs : List V} (k : Nat), RpWL C F ι n ws xs → RpWL C F ι n (ws.drop k) (xs.drop k)
  | [], xs, k, h => by simp only [RpWL] at h; subst h; simp [RpWL]
  | w :: ws, xs, 0, h => by simpa using h
  | w :: ws, xs, k + 1, h => by
    simp only [RpWL] at h
    obtain ⟨x, r, rfl, h1, h2⟩ := h
    simp only [List.drop_succ_cons]
    exact h2.drop k
/-- a list or tuple: which, its items -/
def seqW : W → Hg → Option (Bool × List W)
  | .d (.lst ds), _ => some (true, ds.map .d)
  | .d (.tup ds), _ => some (false, ds.map .d)
  | .tup ws, _ => some (false, ws)
  | .ref i, G => match G[i]? with
    | some (.lst ws) => some (true, ws)
    | _ => none
  | _, _ => none
section
variable {C : GC} {F H : Hp} {ι : Nat → Addr} {G : Hg}
theorem Sim.seq {w : W} {b : Bool} {ws : List W} {v : V} (s : Sim C F H ι G) (e : seqW w G = some (b, ws)) (r : RpW C.m F ι G.length w v) :
    ∃ a xs, v = .ref a ∧ (if b = true then SqL C.m.K H a xs else SqT C.m.K H a xs) ∧ RpWL C.m F ι G.length ws xs := by
  cases w with
  | d x =>
    simp only [RpW] at r
    cases x with
    | lst ds =>
      cases e
      simp only [Rp] at r
      obtain ⟨a, xs, h1, h2, h3⟩ := r
      exact ⟨a, xs, h1, by rw [if_pos rfl]; exact Same.sqL s.fh h2, h3.wl⟩
    | tup ds =>
      cases e
      simp only [Rp] at r
      obtain ⟨a, xs, h1, h2, h3⟩ := r
      exact ⟨a, xs, h1, by rw [if_neg Bool.false_ne_true]; exact Same.sqT s.fh h2, h3.wl⟩
    | _ => cases e
  | tup us =>
    cases e
    simp only [RpW] at r
    obtain ⟨a, xs, h1, h2, h3⟩ := r
    exact ⟨a, xs, h1, by rw [if_neg Bool.false_ne_true]; exact Same.sqT s.fh h2, h3⟩
  | ref i =>
    simp only [seqW] at e
    simp only [RpW] at r
    obtain ⟨hi, rfl⟩ := r
    cases q : G[i]? with
    | none => rw [q] at e; cases e
    | some o =>
      rw [q] at e
      cases o with
      | lst us =>
        cases e
        obtain ⟨_, _, xs, h1, h2⟩ := s.live i _ q (by intro z; cases z)
        exact ⟨_, xs, rfl, by rw [if_pos rfl]; exact .inl (.inl h1), h2⟩
      | _ => cases e
/-- a tree that is read here (a list's contents as they are now) -/
def snap : W → Hg → Option D
  | .d x, _ => some x
  | .ref i, G => match G[i]? with
    | some (.lst ws) => (allD ws).map .lst
    | _ => none
  | .tup _, _ => none
theorem Sim.snap {w : W} {d : D} {v : V} (s : Sim C F H ι G) (e : snap w G = some d) (r : RpW C.m F ι G.length w v) : Rp C.m H d v := by
  cases w with
  | d x => cases e; simp only [RpW] at r; exact r.mono s.fh
  | tup us => cases e
  | ref i =>
    simp only [Gh.snap] at e
    simp only [RpW] at r
    obtain ⟨hi, rfl⟩ := r
    cases q : G[i]? with
    | none => rw [q] at e; cases e
    | some o =>
      rw [q] at e
      cases o with
      | lst us =>
        simp only at e
        cases z : allD us with
        | none => rw [z] at e; cases e
        | some ds =>
          rw [z] at e
          cases e
          obtain ⟨_, _, xs, h1, h2⟩ := s.live i _ q (by intro z; cases z)
          simp only [Rp]
          exact ⟨_, xs, rfl, .inl (.inl h1), (allD_rp z h2).mono s.fh⟩
      | _ => cases e
end

/-! ### ends of operations -/
section
variable {C : GC} {F H : Hp} {ι : Nat → Addr} {G : Hg}
/-- a plain value, the heap as it is -/
theorem out_flat {d : D} {v : V} (s : Sim C F H ι G) (r : Rp C.m F d v) : Out C F ι G.length (.d d) G v H := ⟨F, ι, .refl, s, by simpa only [RpW] using r⟩
theorem out_w {w : W} {v : V} (s : Sim C F H ι G) (r : RpW C.m F ι G.length w v) : Out C F ι G.length w G v H := ⟨F, ι, .refl, s, r⟩
/-- a new tuple -/
def mkTup (ws : List W) : W := match allD ws with
  | some ds => .d (.tup ds)
  | none => .tup ws
theorem out_tup {ws : List W} {xs : List V} {p : Addr} (s : Sim C F H ι G) (r : RpWL C.m F ι G.length ws xs) (h : H p = none) : Out C F ι G.length (mkTup ws) G (.ref p) (upd H p (.tup xs)) := by
  obtain ⟨s', e⟩ := s.lay (o := .tup xs) h
  refine ⟨_, _, e, s', ?_⟩
  unfold mkTup
  cases q : allD ws with
  | none =>
    simp only [RpW]
    exact ⟨p, xs, rfl, .inl (.inl upd_same), r.mono e⟩
  | some ds =>
    simp only [RpW, Rp]
    exact ⟨p, xs, rfl, .inl (.inl upd_same), (allD_rp q r).mono e.fr⟩
/-- a new list of trees, that no one will change -/
theorem out_lst {ds : List D} {xs : List V} {p : Addr} (s : Sim C F H ι G) (r : RpL C.m F ds xs) (h : H p = none) : Out C F ι G.length (.d (.lst ds)) G (.ref p) (upd H p (.lst xs)) := by
  obtain ⟨s', e⟩ := s.lay (o := .lst xs) h
  refine ⟨_, _, e, s', ?_⟩
  simp only [RpW, Rp]
  exact ⟨p, xs, rfl, .inl (.inl upd_same), r.mono e.fr⟩
/-- a new list that may be changed -/
theorem out_new {ws : List W} {xs : List V} {p : Addr} (s : Sim C F H ι G) (r : RpWL C.m F ι G.length ws xs) (h : H p = none) : Out C F ι G.length (.ref G.length) (G ++ [.lst ws]) (.ref p) (upd H p (.lst xs)) := by
  obtain ⟨s', e⟩ := s.make (o := .lst xs) (g := .lst ws) h fun ι' n' e => ⟨xs, upd_same, r.mono e⟩
  refine ⟨_, _, e, s', ?_⟩
  simp only [RpW]
  exact ⟨by simp, by rw [putI_same]⟩
end

/-! ### displays -/
def small (n : Nat) : Bool := Nat.ble n 16777216
theorem small_le {n : Nat} (h : small n = true) : n ≤ sizeLine := by rw [sizeLine_eq]; exact Nat.le_of_ble_eq_true h
def gTup (a : GEs) : GE := fun ρ G => (a ρ G).bind fun ws G1 => if small ws.length then .ok (mkTup ws) G1 else .stuck
def gLst (a : GEs) : GE := fun ρ G => (a ρ G).bind fun ws G1 => match small ws.length, allD ws with
  | true, some ds => .ok (.d (.lst ds)) G1
  | _, _ => .stuck
def gNew (a : GEs) : GE := fun ρ G => (a ρ G).bind fun ws G1 => if small ws.length then .ok (.ref G1.length) (G1 ++ [.lst ws]) else .stuck
section
variable {X : Cx} {es : List Expr} {gs : GEs} {pos : Pos}
theorem ge_tup {x1} (h : GJA X es gs) : GJE X (.Tuple es x1 pos) (gTup gs) := ⟨fun B F0 wx tk => by
  refine PE.imp (pe_tup (h.run B F0 wx tk)) fun σ H Q ⟨F, ι, ρ, G, hs, he, hp⟩ => ?_
  refine ⟨F, ι, ρ, G, hs, he, (PostL.fst hp).imp fun xs H1 ⟨F1, ι1, ws, G1, e1, s1, r1, p1⟩ => ?_⟩
  cases q : small ws.length with
  | false => rw [q] at p1; exact p1.elim
  | true =>
    rw [q] at p1
    exact ⟨by rw [← r1.length]; exact small_le q, fun p hp => p1 _ _ (out_tup s1 r1 hp)⟩⟩
theorem ge_lst (h : GJA X es gs) : GJE X (.List es pos) (gLst gs) := ⟨fun B F0 wx tk => by
  refine PE.imp (pe_lst (h.run B F0 wx tk)) fun σ H Q ⟨F, ι, ρ, G, hs, he, hp⟩ => ?_
  refine ⟨F, ι, ρ, G, hs, he, (PostL.fst hp).imp fun xs H1 ⟨F1, ι1, ws, G1, e1, s1, r1, p1⟩ => ?_⟩
  cases q : small ws.length with
  | false => rw [q] at p1; exact p1.elim
  | true =>
    cases z : allD ws with
    | none => rw [q, z] at p1; exact p1.elim
    | some ds =>
      rw [q, z] at p1
      exact ⟨by rw [← r1.length]; exact small_le q, fun p hp => p1 _ _ (out_lst s1 (allD_rp z r1) hp)⟩⟩
theorem ge_new (h : GJA X es gs) : GJE X (.List es pos) (gNew gs) := ⟨fun B F0 wx tk => by
  refine PE.imp (pe_lst (h.run B F0 wx tk)) fun σ H Q ⟨F, ι, ρ, G, hs, he, hp⟩ => ?_
  refine ⟨F, ι, ρ, G, hs, he, (PostL.fst hp).imp fun xs H1 ⟨F1, ι1, ws, G1, e1, s1, r1, p1⟩ => ?_⟩
  cases q : small ws.length with
  | false => rw [q] at p1; exact p1.elim
  | true =>
    rw [q] at p1
    exact ⟨by rw [← r1.length]; exact small_le q, fun p hp => p1 _ _ (out_new s1 r1 hp)⟩⟩
end

/-! ### operations on ints -/
def fI (f : Int → Int → Option D) : W → W → Hg → Option (W × Hg)
  | .d (.int i), .d (.int j), G => (f i j).map fun d => (.d d, G)
  | _, _, _ => none
theorem fI_inv {f : Int → Int → Option D} {w u : W} {G G' : Hg} {z : W} (h : fI f w u G = some (z, G')) : ∃ i j d, w = .d (.int i) ∧ u = .d (.int j) ∧ f i j = some d ∧ z = .d d ∧ G' = G := by
  cases w with
  | d x =>
    cases x with
    | int i =>
      cases u with
      | d y =>
        cases y with
        | int j =>
          simp only [fI] at h
          cases q : f i j with
          | none => rw [q] at h; cases h
          | some d => rw [q] at h; cases h; exact ⟨i, j, d, rfl, rfl, q, rfl, rfl⟩
        | _ => cases h
      | _ => cases h
    | _ => cases h
  | _ => cases h
theorem og_int {X : Cx} {r : R2} {f : Int → Int → Option D} (h : ∀ (C : GC) (F H : Hp) (i j : Int) (d : D) (Q : VK), f i j = some d → (∀ v, Rp C.m F d v → Q v H) → r (.int i) (.int j) H Q) : OpG X r (fI f) := by
  intro C F H ι G w u x y z G' Q hK s rw_ ru e hQ
  obtain ⟨i, j, d, rfl, rfl, q, rfl, rfl⟩ := fI_inv e
  simp only [RpW, Rp] at rw_ ru
  subst rw_ ru
  exact h C F H i j d Q q fun v hv => hQ v H (out_flat s hv)
def iAdd (i j : Int) : Option D := some (.int (i + j))
def iSub (i j : Int) : Option D := some (.int (i - j))
def iDiv (i j : Int) : Option D := if 0 < j ∧ j < 1073741824 then some (.int (i / j)) else none
def iMod (i j : Int) : Option D := if 0 < j then some (.int (i % j)) else none
def iMul (i j : Int) : Option D := if -(2 ^ 64) < i ∧ i < 2 ^ 64 ∨ -(2 ^ 64) < j ∧ j < 2 ^ 64 then some (.int (i * j)) else none
def iPow (i j : Int) : Option D := if 0 ≤ j ∧ j ≤ 1000000 ∧ i.natAbs < 2 ^ 64 then some (.int (i ^ j.toNat)) else none
section
variable {X : Cx}
theorem of_some {P : Prop} [Decidable P] {d e : D} (h : (if P then some d else none) = some e) : P ∧ d = e := by
  by_cases p : P
  · rw [if_pos p] at h; exact ⟨p, Option.some.inj h⟩
  · rw [if_neg p] at h; cases h
theorem rpI {C : Md} {F : Hp} {i : Int} : Rp C F (.int i) (.int i) := by simp only [Rp]
theorem rpB {C : Md} {F : Hp} {i : Bool} : Rp C F (.bl i) (.bl i) := by simp only [Rp]
theorem rpS {C : Md} {F : Hp} {i : Str} : Rp C F (.str i) (.str i) := by simp only [Rp]
theorem rpN {C : Md} {F : Hp} : Rp C F .non .non := by simp only [Rp]
theorem og_sub : OpG X (rI0 fun i j => .int (i - j)) (fI iSub) := og_int fun C F H i j d Q q hQ => by
  cases q; exact ⟨i, j, rfl, rfl, hQ _ rpI⟩
theorem og_div : OpG X (rI CDiv fun i j => .int (i / j)) (fI iDiv) := og_int fun C F H i j d Q q hQ => by
  obtain ⟨p, rfl⟩ := of_some q; exact ⟨i, j, rfl, rfl, p, hQ _ rpI⟩
theorem og_mod : OpG X (rI (fun _ j => 0 < j) fun i j => .int (i % j)) (fI iMod) := og_int fun C F H i j d Q q hQ => by
  obtain ⟨p, rfl⟩ := of_some q; exact ⟨i, j, rfl, rfl, p, hQ _ rpI⟩
theorem og_pow : OpG X (rI CPow fun i j => .int (i ^ j.toNat)) (fI iPow) := og_int fun C F H i j d Q q hQ => by
  obtain ⟨p, rfl⟩ := of_some q; exact ⟨i, j, rfl, rfl, p, hQ _ rpI⟩
def iCmp (p : Int → Int → Bool) (i j : Int) : Option D := some (.bl (p i j))
theorem og_lt : OpG X (rI0 fun i j => .bl (decide (i < j))) (fI (iCmp fun i j => decide (i < j))) := og_int fun C F H i j d Q q hQ => by cases q; exact ⟨i, j, rfl, rfl, hQ _ rpB⟩
theorem og_le : OpG X (rI0 fun i j => .bl (decide (i ≤ j))) (fI (iCmp fun i j => decide (i ≤ j))) := og_int fun C F H i j d Q q hQ => by cases q; exact ⟨i, j, rfl, rfl, hQ _ rpB⟩
theorem og_gt : OpG X (rI0 fun i j => .bl (decide (j < i))) (fI (iCmp fun i j => decide (j < i))) := og_int fun C F H i j d Q q hQ => by cases q; exact ⟨i, j, rfl, rfl, hQ _ rpB⟩
theorem og_ge : OpG X (rI0 fun i j => .bl (decide (j ≤ i))) (fI (iCmp fun i j => decide (j ≤ i))) := og_int fun C F H i j d Q q hQ => by cases q; exact ⟨i, j, rfl, rfl, hQ _ rpB⟩
end

/-! ### == and != , in and not in, of trees -/
def okD (d : D) : Bool := SeqAt.shaped (toPy d)
def eqD (x y : D) : Bool := PyData.eqv (toPy x) (toPy y)
def fEq (neg : Bool) : W → W → Hg → Option (W × Hg) := fun w u G => match snap w G, snap u G with
  | some x, some y => if okD x && okD y then some (.d (.bl (neg ^^ eqD x y)), G) else none
  | _, _ => none
theorem fEq_inv {neg : Bool} {w u : W} {G G' : Hg} {z : W} (h : fEq neg w u G = some (z, G')) : ∃ x y, snap w G = some x ∧ snap u G = some y ∧ okD x = true ∧ okD y = true ∧ z = .d (.bl (neg ^^ eqD x y)) ∧ G' = G := by
  unfold fEq at h
  cases q : snap w G with
  | none => rw [q] at h; cases h
  | some x =>
    cases q2 : snap u G with
    | none => rw [q, q2] at h; cases h
    | some y =>
      rw [q, q2] at h
      simp only at h
      by_cases c : (okD x && okD y) = true
      · rw [if_pos c] at h
        cases h
        rw [Bool.and_eq_true] at c
        exact ⟨x, y, rfl, rfl, c.1, c.2, rfl, rfl⟩
      · rw [if_neg c] at h; cases h
theorem og_eq {X : Cx} : OpG X (rEqD X.K) (fEq false) := by
  intro C F H ι G w u x y z G' Q hK s rw_ ru e hQ
  obtain ⟨d, f, h1, h2, o1, o2, rfl, rfl⟩ := fEq_inv e
  have e1 := Rp.dp (SeqAt.canLay_of_shaped o1) (s.snap h1 rw_)
  have e2 := Rp.dp (SeqAt.canLay_of_shaped o2) (s.snap h2 ru)
  rw [hK] at e1 e2
  exact ⟨_, _, e1, e2, o1, o2, hQ _ _ (out_flat s (by rw [Bool.false_xor]; exact rpB))⟩
theorem og_ne {X : Cx} : OpG X (rNeD X.K) (fEq true) := by
  intro C F H ι G w u x y z G' Q hK s rw_ ru e hQ
  obtain ⟨d, f, h1, h2, o1, o2, rfl, rfl⟩ := fEq_inv e
  have e1 := Rp.dp (SeqAt.canLay_of_shaped o1) (s.snap h1 rw_)
  have e2 := Rp.dp (SeqAt.canLay_of_shaped o2) (s.snap h2 ru)
  rw [hK] at e1 e2
  exact ⟨_, _, e1, e2, o1, o2, hQ _ _ (out_flat s (by rw [Bool.true_xor]; exact rpB))⟩
/-- in, not in, over lists and tuples of trees -/
def rInA (K : PySem.W.Frag) (neg : Bool) : R2 := fun x y H Q => ∃ d ds, Dp K H x d ∧ (Dp K H y (.list ds) ∨ Dp K H y (.tuple ds)) ∧ SeqAt.shaped d = true ∧ PyData.canLayAll0 ds = true ∧ Q (.bl (neg ^^ (ds.any fun z => PyData.eqv z d))) H
theorem op_inA {X : Cx} (hu : X.A.units + 65 < cLine) : OpR X (compareOp .In) (rInA X.K false) := by
  intro pins s σ H x y v u Q I rx ry h
  obtain ⟨d, ds, hd, he, sd, se, q⟩ := h
  obtain ⟨as, r1⟩ := Dp.reads I d x v hd rx
  rw [Bool.false_xor] at q
  rcases he with he | he
  · obtain ⟨bs, r2⟩ := Dp.reads I (.list ds) y u he ry
    exact SeqAt.in_list_reads r2 r1 se (SeqAt.canLay_of_shaped sd) (room_in_shaped sd hu) ⟨.bl _, H, I, rfl, q⟩
  · obtain ⟨bs, r2⟩ := Dp.reads I (.tuple ds) y u he ry
    exact SeqAt.in_tuple_reads r2 r1 se (SeqAt.canLay_of_shaped sd) (room_in_shaped sd hu) ⟨.bl _, H, I, rfl, q⟩
theorem op_notInA {X : Cx} (hu : X.A.units + 65 < cLine) : OpR X (compareOp .NotIn) (rInA X.K true) := by
  intro pins s σ H x y v u Q I rx ry h
  obtain ⟨d, ds, hd, he, sd, se, q⟩ := h
  obtain ⟨as, r1⟩ := Dp.reads I d x v hd rx
  rw [Bool.true_xor] at q
  rcases he with he | he
  · obtain ⟨bs, r2⟩ := Dp.reads I (.list ds) y u he ry
    exact SeqAt.notIn_list_reads r2 r1 se (SeqAt.canLay_of_shaped sd) (room_in_shaped sd hu) ⟨.bl _, H, I, rfl, q⟩
  · obtain ⟨bs, r2⟩ := Dp.reads I (.tuple ds) y u he ry
    exact SeqAt.notIn_tuple_reads r2 r1 se (SeqAt.canLay_of_shaped sd) (room_in_shaped sd hu) ⟨.bl _, H, I, rfl, q⟩
def seqD : D → Option (List D)
  | .lst ds => some ds
  | .tup ds => some ds
  | _ => none
def okL (ds : List D) : Bool := PyData.canLayAll0 (toPyL ds)
def inD (x : D) (ds : List D) : Bool := ds.any fun z => eqD z x
def fIn (neg : Bool) : W → W → Hg → Option (W × Hg) := fun w u G => match snap w G, (snap u G).bind seqD with
  | some x, some ds => if okD x && okL ds then some (.d (.bl (neg ^^ inD x ds)), G) else none
  | _, _ => none
theorem any_py (x : PyData) : ∀ ds : List D, (toPyL ds).any (fun z => PyData.eqv z x) = ds.any fun z => PyData.eqv (toPy z) x
  | [] => rfl
  | d :: ds => by simp only [toPyL, List.any_cons, any_py x ds]
theorem og_in {X : Cx} {neg : Bool} : OpG X (rInA X.K neg) (fIn neg) := by
  intro C F H ι G w u x y z G' Q hK s rw_ ru e hQ
  unfold fIn at e
  cases q : snap w G with
  | none => rw [q] at e; cases e
  | some d =>
    cases q2 : snap u G with
    | none => rw [q, q2] at e; cases e
    | some t =>
      cases q3 : seqD t with
      | none => rw [q, q2] at e; simp only [Option.bind_some, q3] at e; cases e
      | some ds =>
        rw [q, q2] at e
        simp only [Option.bind_some, q3] at e
        by_cases c : (okD d && okL ds) = true
        · rw [if_pos c] at e
          cases e
          rw [Bool.and_eq_true] at c
          have e1 := Rp.dp (SeqAt.canLay_of_shaped c.1) (s.snap q rw_)
          have r2 := s.snap q2 ru
          rw [hK] at e1
          refine ⟨_, toPyL ds, e1, ?_, c.1, c.2, hQ _ _ (out_flat s (by rw [any_py]; exact rpB))⟩
          cases t with
          | lst es =>
            cases q3
            have z := Rp.dp (d := .lst ds) (by simp only [toPy, PyData.canLay0]; exact c.2) r2
            rw [hK] at z
            simp only [toPy] at z
            exact .inl z
          | tup es =>
            cases q3
            have z := Rp.dp (d := .tup ds) (by simp only [toPy, PyData.canLay0]; exact c.2) r2
            rw [hK] at z
            simp only [toPy] at z
            exact .inr z
          | _ => cases q3
        · rw [if_neg c] at e; cases e

/-! ### is None -/
def isN : W → Bool
  | .d .non => true
  | _ => false
theorem isN_v {C : Md} {F : Hp} {ι : Nat → Addr} {n : Nat} {w : W} {v : V} (r : RpW C F ι n w v) : decide (v = .non) = isN w := by
  cases w with
  | ref i => simp only [RpW] at r; obtain ⟨_, rfl⟩ := r; rfl
  | tup ws => simp only [RpW] at r; obtain ⟨a, xs, rfl, _⟩ := r; rfl
  | d x =>
    simp only [RpW] at r
    cases x with
    | non => simp only [Rp] at r; subst r; rfl
    | bl b => simp only [Rp] at r; subst r; rfl
    | int b => simp only [Rp] at r; subst r; rfl
    | str b => simp only [Rp] at r; subst r; rfl
    | tup b => simp only [Rp] at r; obtain ⟨a, xs, rfl, _⟩ := r; rfl
    | lst b => simp only [Rp] at r; obtain ⟨a, xs, rfl, _⟩ := r; rfl
    | dic t b => cases t <;> simp only [Rp] at r <;> obtain ⟨a, _, _, rfl, _⟩ := r <;> rfl
    | ins c b => simp only [Rp] at r; obtain ⟨a, _, _, rfl, _⟩ := r; rfl
def gIsN (neg : Bool) (a : GE) : GE := fun ρ G => (a ρ G).bind fun w G1 => .ok (.d (.bl (neg ^^ isN w))) G1
section
variable {X : Cx} {a : Expr} {ga : GE} {pos : Pos}
theorem ge_isN {j pos'} (ha : GJE X a ga) : GJE X (.Compare a [.Is] [.Constant .none j pos'] pos) (gIsN false ga) := ⟨fun B F0 wx tk => by
  refine PE.imp (pe_cmp (pc_isN (ha.run B F0 wx tk)) rfl) fun σ H Q ⟨F, ι, ρ, G, hs, he, hp⟩ => ?_
  refine ⟨F, ι, ρ, G, hs, he, (Post.fst hp).imp fun x H1 ⟨F1, ι1, w, G1, e1, s1, r1, p1⟩ => ?_⟩
  refine p1 _ _ (out_flat s1 ?_)
  rw [isN_v r1, Bool.false_xor]
  exact rpB⟩
theorem ge_notN {j pos'} (ha : GJE X a ga) : GJE X (.Compare a [.IsNot] [.Constant .none j pos'] pos) (gIsN true ga) := ⟨fun B F0 wx tk => by
  refine PE.imp (pe_cmp (pc_notN (ha.run B F0 wx tk)) rfl) fun σ H Q ⟨F, ι, ρ, G, hs, he, hp⟩ => ?_
  refine ⟨F, ι, ρ, G, hs, he, (Post.fst hp).imp fun x H1 ⟨F1, ι1, w, G1, e1, s1, r1, p1⟩ => ?_⟩
  refine p1 _ _ (out_flat s1 ?_)
  rw [isN_v r1, Bool.true_xor]
  exact rpB⟩
end
end Gh

set_option Elab.async false
set_option linter.all false
set_option maxRecDepth 100000
set_option maxHeartbeats 4000000
namespace Gh
open PySem PySem.Spec PyProof.Rows L2

/-! ### statements -/
inductive SRes where
  | stuck | exc (e : Exc) (ρ : GEnv) (G : Hg) | nx (ρ : GEnv) (G : Hg) | bk (ρ : GEnv) (G : Hg) | ct (ρ : GEnv) (G : Hg) | ret (w : W) (G : Hg)
abbrev GS := GEnv → Hg → SRes
def SOut (C : GC) (F : Hp) (ι : Nat → Addr) (n : Nat) (ρ' : GEnv) (G' : Hg) : L2.St → Hp → Prop := fun σ' H' => ∃ F' ι', Ext F ι n F' ι' G'.length ∧ Sim C F' H' ι' G' ∧ REnv C.m F' ι' G'.length ρ' σ'
def PostS (C : GC) (F : Hp) (ι : Nat → Addr) (n : Nat) (r : SRes) (D : Ends) : Prop :=
  match r with
  | .stuck => False
  | .exc e ρ' G' => ∀ cls d σ' H' F' ι', Ext F ι n F' ι' G'.length → Sim C F' H' ι' G' → REnv C.m F' ι' G'.length ρ' σ' → XR C F' H' e cls d → C.wx cls d σ' H'
  | .nx ρ' G' => ∀ σ' H', SOut C F ι n ρ' G' σ' H' → D.nx σ' H'
  | .bk ρ' G' => ∀ σ' H', SOut C F ι n ρ' G' σ' H' → D.bk σ' H'
  | .ct ρ' G' => ∀ σ' H', SOut C F ι n ρ' G' σ' H' → D.ct σ' H'
  | .ret w G' => ∀ v H', Out C F ι n w G' v H' → D.rt v H'
def gTS (C : GC) (g : GS) : TS := fun D σ H => ∃ F ι ρ G, Sim C F H ι G ∧ REnv C.m F ι G.length ρ σ ∧ PostS C F ι G.length (g ρ G) D
structure GJS (X : Cx) (st : Stmt) (g : GS) : Prop where
  run : ∀ B F0 wx, Takes X wx → PS X st (gTS (gc X B F0 wx) g)
structure GJSs (X : Cx) (st : List Stmt) (g : GS) : Prop where
  run : ∀ B F0 wx, Takes X wx → PSs X st (gTS (gc X B F0 wx) g)
section
variable {C : GC} {F F1 : Hp} {ι ι1 : Nat → Addr} {n n1 : Nat} {D D' : Ends}
theorem SOut.base {ρ' : GEnv} {G' : Hg} {σ' : L2.St} {H' : Hp} (e : Ext F ι n F1 ι1 n1) (h : SOut C F1 ι1 n1 ρ' G' σ' H') : SOut C F ι n ρ' G' σ' H' :=
  let ⟨F', ι', a, b, c⟩ := h; ⟨F', ι', e.trans a, b, c⟩
theorem PostS.base {r : SRes} (e : Ext F ι n F1 ι1 n1) (h : PostS C F ι n r D) : PostS C F1 ι1 n1 r D := by
  cases r with
  | stuck => exact h
  | exc x ρ' G' => exact fun cls d σ' H' F' ι' a b c q => h cls d σ' H' F' ι' (e.trans a) b c q
  | nx ρ' G' => exact fun σ' H' q => h σ' H' (q.base e)
  | bk ρ' G' => exact fun σ' H' q => h σ' H' (q.base e)
  | ct ρ' G' => exact fun σ' H' q => h σ' H' (q.base e)
  | ret w G' => exact fun v H' q => h v H' (q.base e)
end
/-- an expression's result goes into a statement -/
def Res.toS {α : Type} (ρ : GEnv) : Res α → (α → Hg → SRes) → SRes
  | .stuck, _ => .stuck
  | .exc e G, _ => .exc e ρ G
  | .ok a G, k => k a G
section
variable {C : GC} {F H : Hp} {ι : Nat → Addr} {n : Nat} {σ : L2.St} {ρ : GEnv} {D : Ends}
theorem PostS.fst {r : Res W} {k : W → Hg → SRes} (he : REnv C.m F ι n ρ σ) (h : PostS C F ι n (r.toS ρ k) D) :
    Post C F ι n σ r fun v H1 => ∃ F1 ι1 w G1, Ext F ι n F1 ι1 G1.length ∧ Sim C F1 H1 ι1 G1 ∧ RpW C.m F1 ι1 G1.length w v ∧ REnv C.m F1 ι1 G1.length ρ σ ∧ PostS C F1 ι1 G1.length (k w G1) D := by
  cases r with
  | stuck => exact h
  | exc x G' => exact fun cls d H' ⟨F', ι', a, b, c⟩ => h cls d σ H' F' ι' a b (he.mono a) c
  | ok w G' => exact fun v H' ⟨F1, ι1, e, s, rr⟩ => ⟨F1, ι1, w, G', e, s, rr, he.mono e, PostS.base e h⟩
theorem PostS.fstB {r : Res Bool} {k : Bool → Hg → SRes} (he : REnv C.m F ι n ρ σ) (h : PostS C F ι n (r.toS ρ k) D) :
    PostB C F ι n σ r fun v H1 => ∃ F1 ι1 G1, Ext F ι n F1 ι1 G1.length ∧ Sim C F1 H1 ι1 G1 ∧ REnv C.m F1 ι1 G1.length ρ σ ∧ PostS C F1 ι1 G1.length (k v G1) D := by
  cases r with
  | stuck => exact h
  | exc x G' => exact fun cls d H' ⟨F', ι', a, b, c⟩ => h cls d σ H' F' ι' a b (he.mono a) c
  | ok w G' =>
    rintro v H' ⟨rfl, F1, ι1, e, s⟩
    exact ⟨F1, ι1, G', e, s, he.mono e, PostS.base e h⟩
end

def gNil : GS := fun ρ G => .nx ρ G
def gSeq (a b : GS) : GS := fun ρ G => match a ρ G with
  | .nx ρ' G' => b ρ' G'
  | r => r
section
variable {X : Cx} {st : Stmt} {rest : List Stmt} {g u : GS} {e : Expr} {ge : GE} {pos : Pos}
theorem gss_nil : GJSs X [] gNil := ⟨fun B F0 wx _ => PSs.imp pss_nil fun D σ H ⟨F, ι, ρ, G, s, he, hp⟩ => hp σ H ⟨F, ι, .refl, s, he⟩⟩
theorem gss_cons (h1 : GJS X st g) (h2 : GJSs X rest u) : GJSs X (st :: rest) (gSeq g u) := ⟨fun B F0 wx tk => by
  refine PSs.imp (pss_cons (h1.run B F0 wx tk) (h2.run B F0 wx tk)) fun D σ H ⟨F, ι, ρ, G, s, he, hp⟩ => ⟨F, ι, ρ, G, s, he, ?_⟩
  unfold gSeq at hp
  cases q : g ρ G with
  | nx ρ' G' =>
    rw [q] at hp
    exact fun σ' H' ⟨F', ι', a, b, c⟩ => ⟨F', ι', ρ', G', b, c, PostS.base a hp⟩
  | stuck => rw [q] at hp; exact hp
  | exc x ρ' G' => rw [q] at hp; exact hp
  | bk ρ' G' => rw [q] at hp; exact hp
  | ct ρ' G' => rw [q] at hp; exact hp
  | ret w G' => rw [q] at hp; exact hp⟩
theorem gss_one (h1 : GJS X st g) : GJSs X [st] g := ⟨fun B F0 wx tk => pss_one (h1.run B F0 wx tk)⟩
def gBrk : GS := fun ρ G => .bk ρ G
def gCnt : GS := fun ρ G => .ct ρ G
theorem gs_pass : GJS X (.Pass pos) gNil := ⟨fun B F0 wx _ => PS.imp ps_pass fun D σ H ⟨F, ι, ρ, G, s, he, hp⟩ => hp σ H ⟨F, ι, .refl, s, he⟩⟩
theorem gs_break : GJS X (.Break pos) gBrk := ⟨fun B F0 wx _ => PS.imp ps_break fun D σ H ⟨F, ι, ρ, G, s, he, hp⟩ => hp σ H ⟨F, ι, .refl, s, he⟩⟩
theorem gs_cont : GJS X (.Continue pos) gCnt := ⟨fun B F0 wx _ => PS.imp ps_continue fun D σ H ⟨F, ι, ρ, G, s, he, hp⟩ => hp σ H ⟨F, ι, .refl, s, he⟩⟩
def gExpr (e : GE) : GS := fun ρ G => (e ρ G).toS ρ fun _ G' => .nx ρ G'
theorem gs_expr (he : GJE X e ge) (hs : swapsWith e none pos.line X.env = pure false := by rfl) : GJS X (.Expr e pos) (gExpr ge) := ⟨fun B F0 wx tk => by
  refine PS.imp (ps_expr (he.run B F0 wx tk) hs) fun D σ H ⟨F, ι, ρ, G, s, he, hp⟩ => ?_
  exact ⟨F, ι, ρ, G, s, he, (PostS.fst he hp).imp fun v H1 ⟨F1, ι1, w, G1, e1, s1, r1, he1, p1⟩ => p1 σ H1 ⟨F1, ι1, .refl, s1, he1⟩⟩⟩
def gRet (e : GE) : GS := fun ρ G => (e ρ G).toS ρ fun w G' => .ret w G'
theorem gs_ret (he : GJE X e ge) : GJS X (.Return (some e) pos) (gRet ge) := ⟨fun B F0 wx tk => by
  refine PS.imp (ps_ret (he.run B F0 wx tk)) fun D σ H ⟨F, ι, ρ, G, s, he, hp⟩ => ?_
  exact ⟨F, ι, ρ, G, s, he, (PostS.fst he hp).imp fun v H1 ⟨F1, ι1, w, G1, e1, s1, r1, he1, p1⟩ => p1 v H1 ⟨F1, ι1, .refl, s1, r1⟩⟩⟩
def gRetN : GS := fun _ G => .ret (.d .non) G
theorem gs_retN : GJS X (.Return none pos) gRetN := ⟨fun B F0 wx tk => by
  refine PS.imp ps_retN fun D σ H ⟨F, ι, ρ, G, s, he, hp⟩ => ?_
  exact hp _ _ (out_flat s rpN)⟩
def gIf (c : GT) (a b : GS) : GS := fun ρ G => (c ρ G).toS ρ fun k G' => if k then a ρ G' else b ρ G'
theorem gs_if {c : Expr} {a b : List Stmt} {tc : GT} {ga gb : GS} (hc : GJT X c tc) (ha : GJSs X a ga) (hb : GJSs X b gb) : GJS X (.If c a b pos) (gIf tc ga gb) := ⟨fun B F0 wx tk => by
  refine PS.imp (ps_if (hc.run B F0 wx tk) (ha.run B F0 wx tk) (hb.run B F0 wx tk)) fun D σ H ⟨F, ι, ρ, G, s, he, hp⟩ => ?_
  refine ⟨F, ι, ρ, G, s, he, (PostS.fstB he hp).imp fun k H1 ⟨F1, ι1, G1, e1, s1, he1, p1⟩ => ?_⟩
  cases k with
  | true => exact ⟨F1, ι1, ρ, G1, s1, he1, p1⟩
  | false => exact ⟨F1, ι1, ρ, G1, s1, he1, p1⟩⟩
end

/-! ### targets -/
abbrev GTg := W → GEnv → Hg → Option (GEnv × Hg)
/-- own: the only slots that are stored to -/
def gTG (C : GC) (own : List Nat) (t : GTg) : TG := fun v σ H Q => ∃ F ι ρ G w, Sim C F H ι G ∧ REnv C.m F ι G.length ρ σ ∧ RpW C.m F ι G.length w v ∧ match t w ρ G with
  | none => False
  | some (ρ', G') => ∀ σ' H', SOut C F ι G.length ρ' G' σ' H' → wipe σ' own = wipe σ own → Q σ' H'
structure GJG (X : Cx) (tg : Expr) (own : List Nat) (t : GTg) : Prop where
  run : ∀ B F0 wx, Takes X wx → PG X tg (gTG (gc X B F0 wx) own t)
theorem PG.imp {X : Cx} {e : Expr} {t t' : TG} (h : PG X e t) (k : ∀ v σ H Q, t' v σ H Q → t v σ H Q) : PG X e t' := ⟨fun pins s σ H v u Q I r q => h.run pins s σ H v u Q I r (k _ _ _ _ q)⟩
theorem PGs.imp {X : Cx} {e : List Expr} {t t' : TGs} (h : PGs X e t) (k : ∀ v σ H Q, t' v σ H Q → t v σ H Q) : PGs X e t' := ⟨fun pins s σ H v u Q I r q => h.run pins s σ H v u Q I r (k _ _ _ _ q)⟩
def gNm (i : Nat) : GTg := fun w ρ G => some (ρ.set i (some w), G)
theorem wipe_set {own : List Nat} {i : Nat} (h : i ∈ own) (x : Option V) : ∀ σ : L2.St, wipe (σ.set i x) own = wipe σ own := by
  induction own with
  | nil => cases h
  | cons j r ih =>
    intro σ
    unfold wipe
    by_cases hm : i ∈ r
    · rw [ih hm]
    · have e : i = j := by
        rcases List.mem_cons.mp h with z | z
        · exact z
        · exact absurd z hm
      subst e
      have comm : ∀ (r : List Nat), i ∉ r → ∀ (σ : L2.St), wipe (σ.set i x) r = (wipe σ r).set i x := by
        intro r
        induction r with
        | nil => intro _ σ; rfl
        | cons k r' ih' =>
          intro hk σ
          unfold wipe
          rw [ih' (fun z => hk (List.mem_cons_of_mem _ z)) σ, List.set_comm _ _ (fun z => hk (by rw [z]; exact List.mem_cons_self))]
      rw [comm r hm, List.set_set]
section
variable {X : Cx} {pos : Pos}
theorem gg_name (i : Nat) {own : List Nat} {x : Str} (hN : X.N.Nodup) (hi : X.N[i]? = some x := by rfl) (hx : Loc X.env.scope x := by first | exact Or.inl rfl | exact Or.inr rfl) (ho : i ∈ own := by decide) (hf : X.fn x = true ∨ X.env.scope.names.lookup x = some .local := by first | exact .inl rfl | exact .inr rfl) :
    GJG X (.Name x pos) own (gNm i) := ⟨fun B F0 wx _ => PG.imp (pg_name hN hi hx hf) fun v σ H Q ⟨F, ι, ρ, G, w, s, he, r, h⟩ => h _ H ⟨F, ι, .refl, s, he.set i r⟩ (wipe_set ho _ σ)⟩
def gTgs : List GTg → List W → GEnv → Hg → Option (GEnv × Hg)
  | [], [], ρ, G => some (ρ, G)
  | t :: ts, w :: ws, ρ, G => match t w ρ G with
    | some (ρ', G') => gTgs ts ws ρ' G'
    | none => none
  | _, _, _, _ => none
def gTGs (C : GC) (own : List Nat) (ts : List GTg) : TGs := fun vs σ H Q => ∃ F ι ρ G ws, Sim C F H ι G ∧ REnv C.m F ι G.length ρ σ ∧ RpWL C.m F ι G.length ws vs ∧ match gTgs ts ws ρ G with
  | none => False
  | some (ρ', G') => ∀ σ' H', SOut C F ι G.length ρ' G' σ' H' → wipe σ' own = wipe σ own → Q σ' H'
structure GJGs (X : Cx) (tg : List Expr) (own : List Nat) (t : List GTg) : Prop where
  run : ∀ B F0 wx, Takes X wx → PGs X tg (gTGs (gc X B F0 wx) own t)
theorem ggs_nil {own : List Nat} : GJGs X [] own [] := ⟨fun B F0 wx _ => PGs.imp pgs_nil fun vs σ H Q ⟨F, ι, ρ, G, ws, s, he, r, h⟩ => by
  cases ws with
  | nil =>
    simp only [RpWL] at r
    exact ⟨r, h σ H ⟨F, ι, .refl, s, he⟩ rfl⟩
  | cons w ws => exact h.elim⟩
theorem ggs_cons {own : List Nat} {t : Expr} {ts : List Expr} {g : GTg} {gs : List GTg} (h1 : GJG X t own g) (h2 : GJGs X ts own gs) (hs : (assignEach (t :: ts) X.env).map (·.2) = assign t X.env :: (assignEach ts X.env).map (·.2) := by rfl) : GJGs X (t :: ts) own (g :: gs) := ⟨fun B F0 wx tk => by
  refine PGs.imp (pgs_cons (h1.run B F0 wx tk) (h2.run B F0 wx tk) hs) fun vs σ H Q ⟨F, ι, ρ, G, ws, s, he, r, h⟩ => ?_
  cases ws with
  | nil => exact h.elim
  | cons w ws =>
    simp only [RpWL] at r
    obtain ⟨x, xs, rfl, r1, r2⟩ := r
    refine ⟨x, xs, rfl, F, ι, ρ, G, w, s, he, r1, ?_⟩
    simp only [gTgs] at h
    cases q : g w ρ G with
    | none => rw [q] at h; exact h.elim
    | some o =>
      obtain ⟨ρ1, G1⟩ := o
      rw [q] at h
      rintro σ1 H1 ⟨F1, ι1, e1, s1, he1⟩ k1
      refine ⟨F1, ι1, ρ1, G1, ws, s1, he1, r2.mono e1, ?_⟩
      simp only at h
      cases q2 : gTgs gs ws ρ1 G1 with
      | none => rw [q2] at h; exact h.elim
      | some o2 =>
        rw [q2] at h
        rintro σ2 H2 ⟨F2, ι2, e2, s2, he2⟩ k2
        exact h σ2 H2 ⟨F2, ι2, e1.trans e2, s2, he2⟩ (k2.trans k1)⟩
def gTp (ts : List GTg) : GTg := fun w ρ G => match seqW w G with
  | some (false, ws) => gTgs ts ws ρ G
  | _ => none
theorem gTgs_len : ∀ {ts : List GTg} {ws : List W} {ρ ρ' : GEnv} {G G' : Hg}, gTgs ts ws ρ G = some (ρ', G') → ws.length = ts.length
  | [], [], _, _, _, _, _ => rfl
  | [], _ :: _, _, _, _, _, h => by cases h
  | _ :: _, [], _, _, _, _, h => by cases h
  | t :: ts, w :: ws, ρ, ρ', G, G', h => by
    simp only [gTgs] at h
    cases q : t w ρ G with
    | none => rw [q] at h; cases h
    | some o => rw [q] at h; simp [gTgs_len h]
theorem gg_tup {own : List Nat} {es : List Expr} {k : Nat} {gs : List GTg} (hc : X.calm = true) (h : GJGs X es own gs)
    (hn : (assignEach es X.env).length = gs.length := by rfl) (hst : (assignEach es X.env).findIdx? (·.1) = none := by rfl) : GJG X (.Tuple es k pos) own (gTp gs) := ⟨fun B F0 wx tk => by
  refine PG.imp (pg_tup hc (h.run B F0 wx tk) hn hst) fun v σ H Q ⟨F, ι, ρ, G, w, s, he, r, hh⟩ => ?_
  unfold gTp at hh
  cases q : seqW w G with
  | none => rw [q] at hh; exact hh.elim
  | some o =>
    obtain ⟨b, ws⟩ := o
    cases b with
    | true => rw [q] at hh; exact hh.elim
    | false =>
      rw [q] at hh
      simp only at hh
      obtain ⟨a, xs, rfl, h1, h2⟩ := s.seq q r
      rw [if_neg Bool.false_ne_true] at h1
      refine ⟨a, xs, rfl, h1, ?_, F, ι, ρ, G, ws, s, he, h2, hh⟩
      rw [← h2.length]
      cases q2 : gTgs gs ws ρ G with
      | none => rw [q2] at hh; exact hh.elim
      | some o => obtain ⟨_, _⟩ := o; exact gTgs_len q2⟩
def gAsg (e : GE) (t : GTg) : GS := fun ρ G => (e ρ G).toS ρ fun w G' => match t w ρ G' with
  | none => .stuck
  | some (ρ', G2) => .nx ρ' G2
theorem gs_asg {tg e : Expr} {ge : GE} {own : List Nat} {t : GTg} (he : GJE X e ge) (hg : GJG X tg own t) (hs : swapsWithSole [tg] e pos.line X.env = pure false := by rfl) (hw : swappedStores [tg] e X.env = pure none := by rfl)
    (h1 : (assignEach [tg] X.env).map (·.2) = [assign tg X.env] := by rfl) : GJS X (.Assign [tg] e pos) (gAsg ge t) := ⟨fun B F0 wx tk => by
  refine PS.imp (ps_asg (he.run B F0 wx tk) (hg.run B F0 wx tk) hs hw h1) fun D σ H ⟨F, ι, ρ, G, s, he, hp⟩ => ?_
  refine ⟨F, ι, ρ, G, s, he, (PostS.fst he hp).imp fun v H1 ⟨F1, ι1, w, G1, e1, s1, r1, he1, p1⟩ => ⟨F1, ι1, ρ, G1, w, s1, he1, r1, ?_⟩⟩
  cases q : t w ρ G1 with
  | none => rw [q] at p1; exact p1.elim
  | some o =>
    obtain ⟨ρ', G2⟩ := o
    rw [q] at p1
    exact fun σ' H' h _ => p1 σ' H' h⟩
/-- a name's plain store -/
theorem gs_set {i : Nat} {x : Str} {e : Expr} {ge : GE} {pos' : Pos} (hN : X.N.Nodup) (he : GJE X e ge) (hi : X.N[i]? = some x := by rfl) (hx : Loc X.env.scope x := by first | exact Or.inl rfl | exact Or.inr rfl) (hs : swapsWith e (some (.Name x pos')) pos.line X.env = pure false := by rfl)
    (hf : X.fn x = true ∨ X.env.scope.names.lookup x = some .local := by first | exact .inl rfl | exact .inr rfl) : GJS X (.Assign [.Name x pos'] e pos) (gAsg ge (gNm i)) := ⟨fun B F0 wx tk => by
  refine PS.imp (ps_set hN hi hx (he.run B F0 wx tk) hs hf) fun D σ H ⟨F, ι, ρ, G, s, he, hp⟩ => ?_
  refine ⟨F, ι, ρ, G, s, he, (PostS.fst he hp).imp fun v H1 ⟨F1, ι1, w, G1, e1, s1, r1, he1, p1⟩ => ?_⟩
  exact p1 _ H1 ⟨F1, ι1, .refl, s1, he1.set i r1⟩⟩
/-- o[i] = v -/
def gSb (o i : GE) (f : W → W → W → Hg → Option Hg) : GTg := fun v ρ G => match o ρ G with
  | .ok wo G1 => match i ρ G1 with
    | .ok wi G2 => (f wo wi v G2).map fun G3 => (ρ, G3)
    | _ => none
  | _ => none
def SetG (X : Cx) (t : TSet) (f : W → W → W → Hg → Option Hg) : Prop := ∀ (C : GC) (F H : Hp) (ι : Nat → Addr) (G : Hg) (wo wi wv : W) (o i v : V) (G' : Hg) (Q : Hp → Prop), C.m = md X → Sim C F H ι G → RpW C.m F ι G.length wo o → RpW C.m F ι G.length wi i → RpW C.m F ι G.length wv v →
  f wo wi wv G = some G' → (∀ H', (∃ F' ι', Ext F ι G.length F' ι' G'.length ∧ Sim C F' H' ι' G') → Q H') → t o i v H Q
theorem gg_sub {o i : Expr} {own : List Nat} {go gi : GE} {t : TSet} {f : W → W → W → Hg → Option Hg} (hs : PSet X t) (hf : SetG X t f) (ho : GJE X o go) (hi : GJE X i gi)
    (ha : ∀ v, assign (.Subscript o i pos) X.env v = (do
      let ov ← holding [v] (eval o X.env)
      let iv ← holding [v, ov] (eval i X.env)
      standAt pos
      holding [v, ov, iv] (setItem ov iv v)
      release [v, ov, iv] []) := by intro _; rfl) : GJG X (.Subscript o i pos) own (gSb go gi f) := ⟨fun B F0 wx tk => by
  refine PG.imp (pg_sub (ho.run B F0 wx tk) (hi.run B F0 wx tk) hs ha) fun v σ H Q ⟨F, ι, ρ, G, w, s, he, r, hh⟩ => ?_
  unfold gSb at hh
  refine ⟨F, ι, ρ, G, s, he, ?_⟩
  cases q : go ρ G with
  | stuck => rw [q] at hh; exact hh.elim
  | exc e G' => rw [q] at hh; exact hh.elim
  | ok wo G1 =>
    rw [q] at hh
    rintro vo H1 ⟨F1, ι1, e1, s1, r1⟩
    refine ⟨F1, ι1, ρ, G1, s1, he.mono e1, ?_⟩
    simp only at hh
    cases q2 : gi ρ G1 with
    | stuck => rw [q2] at hh; exact hh.elim
    | exc e G' => rw [q2] at hh; exact hh.elim
    | ok wi G2 =>
      rw [q2] at hh
      rintro vi H2 ⟨F2, ι2, e2, s2, r2⟩
      simp only at hh
      cases q3 : f wo wi w G2 with
      | none => rw [q3] at hh; exact hh.elim
      | some G3 =>
        rw [q3] at hh
        refine hf _ F2 H2 ι2 G2 wo wi w vo vi v G3 _ rfl s2 (r1.mono e2) r2 (r.mono (e1.trans e2)) q3 fun H3 ⟨F3, ι3, e3, s3⟩ => ?_
        have ee := (e1.trans e2).trans e3
        exact hh σ H3 ⟨F3, ι3, ee, s3, he.mono ee⟩ rfl⟩
end

/-! ### loops -/
/-- an iterable: its items, and what must stay of the ghost objects while it is walked -/
abbrev GI := GEnv → Hg → Res (List W × (Hg → Bool))
/-- J walks ws while ck holds -/
def ItG (M : Md) (J : It) (F : Hp) (ι : Nat → Addr) (n : Nat) (ws : List W) (ck : Hg → Bool) (BB : Hp) : Prop :=
  ∀ (C : GC) (F2 H2 : Hp) (ι2 : Nat → Addr) (G2 : Hg), C.m = M → Same BB C.B → Ext F ι n F2 ι2 G2.length → Sim C F2 H2 ι2 G2 → ck G2 = true →
    (∀ (i : Nat) (w : W), ws[i]? = some w → J.go i H2 ∧ ∀ x H3, J.yld i H2 x H3 → ∃ F3, Ext F2 ι2 G2.length F3 ι2 G2.length ∧ Sim C F3 H3 ι2 G2 ∧ RpW M F3 ι2 G2.length w x) ∧ J.stop ws.length H2
def PostI (C : GC) (F : Hp) (ι : Nat → Addr) (n : Nat) (σ : L2.St) (r : Res (List W × (Hg → Bool))) (R : It → Hp → Prop) : Prop :=
  match r with
  | .stuck => False
  | .exc e G' => ∀ cls d H', XOut C F ι n e G' cls d H' → C.wx cls d σ H'
  | .ok (ws, ck) G' => ∀ J H' F' ι', Ext F ι n F' ι' G'.length → Sim C F' H' ι' G' → ItG C.m J F' ι' G'.length ws ck C.B → R J H'
def gTI (C : GC) (g : GI) : TI := fun σ H R => ∃ F ι ρ G, Sim C F H ι G ∧ REnv C.m F ι G.length ρ σ ∧ PostI C F ι G.length σ (g ρ G) R
structure GJI (X : Cx) (tg iter : Expr) (g : GI) : Prop where
  run : ∀ B F0 wx, Takes X wx → PI X tg iter (gTI (gc X B F0 wx) g)
def forL (t : GTg) (body : GS) (ck : Hg → Bool) : List W → GS
  | [], ρ, G => if ck G then .nx ρ G else .stuck
  | w :: ws, ρ, G => if ck G then (match t w ρ G with
    | none => .stuck
    | some (ρ', G') => match body ρ' G' with
      | .nx ρ2 G2 => forL t body ck ws ρ2 G2
      | .ct ρ2 G2 => forL t body ck ws ρ2 G2
      | .bk ρ2 G2 => .nx ρ2 G2
      | r => r) else .stuck
def gFor (it : GI) (t : GTg) (body : GS) : GS := fun ρ G => (it ρ G).toS ρ fun p G' => forL t body p.2 p.1 ρ G'
section
variable {X : Cx} {pos : Pos}
theorem gs_for {tg iter : Expr} {body : List Stmt} {own : List Nat} {gi : GI} {t : GTg} {gb : GS} (hp : PassesOwn (model X.prog X.w) X.A X.env X.xe) (hc : X.calm = true) (hi : GJI X tg iter gi) (hg : GJG X tg own t) (hb : GJSs X body gb)
    (hs : ∀ x, foldedSetIterable iter X.env x = pure x := by intro _; rfl) : GJS X (.For tg iter body [] pos) (gFor gi t gb) := ⟨fun B F0 wx tk => by
  refine PS.imp (ps_for hp hc (hi.run B F0 wx tk) (hg.run B F0 wx tk) (hb.run B F0 wx tk) hs) fun D σ H ⟨F, ι, ρ, G, s, he, hh⟩ => ?_
  refine ⟨F, ι, ρ, G, s, he, ?_⟩
  unfold gFor at hh
  cases q : gi ρ G with
  | stuck => rw [q] at hh; exact hh
  | exc e G' => rw [q] at hh; exact fun cls d H' ⟨F', ι', a, b, c⟩ => hh cls d σ H' F' ι' a b (he.mono a) c
  | ok p G1 =>
    obtain ⟨ws, ck⟩ := p
    rw [q] at hh
    intro J H1 F1 ι1 e1 s1 it
    refine ⟨fun i m σ H => m = ws.length - i ∧ i ≤ ws.length ∧ ∃ F2 ι2 ρ2 G2, Ext F1 ι1 G1.length F2 ι2 G2.length ∧ Sim (gc X B F0 wx) F2 H ι2 G2 ∧ REnv (md X) F2 ι2 G2.length ρ2 σ ∧ PostS (gc X B F0 wx) F2 ι2 G2.length (forL t gb ck (ws.drop i) ρ2 G2) D,
      ⟨ws.length, by simp, Nat.zero_le _, F1, ι1, ρ, G1, .refl, s1, he.mono e1, PostS.base e1 hh⟩, ?_⟩
    rintro i m σ2 H2 ⟨rfl, hi, F2, ι2, ρ2, G2, e2, s2, he2, p2⟩
    rcases Nat.lt_or_ge i ws.length with hlt | hge
    · have hd : ws.drop i = ws[i] :: ws.drop (i + 1) := by rw [List.drop_eq_getElem_cons hlt]
      rw [hd] at p2
      simp only [forL] at p2
      cases c : ck G2 with
      | false => rw [c] at p2; exact p2.elim
      | true =>
        rw [c, if_pos rfl] at p2
        obtain ⟨it1, it2⟩ := it _ F2 H2 ι2 G2 rfl (Same.refl _) e2 s2 c
        obtain ⟨go, yl⟩ := it1 i ws[i] (List.getElem?_eq_getElem hlt)
        refine .inr ⟨go, fun σ' H' => ∃ F3 ι3 ρ3 G3, Ext F1 ι1 G1.length F3 ι3 G3.length ∧ Sim (gc X B F0 wx) F3 H' ι3 G3 ∧ REnv (md X) F3 ι3 G3.length ρ3 σ' ∧ PostS (gc X B F0 wx) F3 ι3 G3.length (forL t gb ck (ws.drop (i + 1)) ρ3 G3) D,
          fun σ' H' h => ⟨_, by omega, rfl, hlt, h⟩, fun x H3 y => ?_⟩
        obtain ⟨F3, e3, s3, r3⟩ := yl x H3 y
        have p3 := PostS.base e3 p2
        refine ⟨F3, ι2, ρ2, G2, ws[i], s3, he2.mono e3, r3, ?_⟩
        cases qt : t ws[i] ρ2 G2 with
        | none => rw [qt] at p3; exact p3.elim
        | some o =>
          obtain ⟨ρ4, G4⟩ := o
          rw [qt] at p3
          rintro σ4 H4 ⟨F4, ι4, e4, s4, he4⟩ _
          have p4 := PostS.base e4 p3
          refine ⟨F4, ι4, ρ4, G4, s4, he4, ?_⟩
          simp only at p4
          have e14 : Ext F1 ι1 G1.length F4 ι4 G4.length := (e2.trans e3).trans e4
          cases qb : gb ρ4 G4 with
          | stuck => rw [qb] at p4; exact p4
          | exc x ρ' G' => rw [qb] at p4; exact p4
          | nx ρ' G' =>
            rw [qb] at p4
            exact fun σ5 H5 ⟨F5, ι5, e5, s5, he5⟩ => ⟨F5, ι5, ρ', G', e14.trans e5, s5, he5, PostS.base e5 p4⟩
          | ct ρ' G' =>
            rw [qb] at p4
            exact fun σ5 H5 ⟨F5, ι5, e5, s5, he5⟩ => ⟨F5, ι5, ρ', G', e14.trans e5, s5, he5, PostS.base e5 p4⟩
          | bk ρ' G' =>
            rw [qb] at p4
            exact p4
          | ret w G' => rw [qb] at p4; exact p4
    · have e : i = ws.length := by omega
      subst e
      rw [List.drop_length] at p2
      simp only [forL] at p2
      cases c : ck G2 with
      | false => rw [c] at p2; exact p2.elim
      | true =>
        rw [c, if_pos rfl] at p2
        obtain ⟨_, it2⟩ := it _ F2 H2 ι2 G2 rfl (Same.refl _) e2 s2 c
        exact .inl ⟨it2, p2 σ2 H2 ⟨F2, ι2, .refl, s2, he2⟩⟩⟩
def whileN (c : GT) (body : GS) : Nat → GS
  | 0, _, _ => .stuck
  | k + 1, ρ, G => (c ρ G).toS ρ fun b G' => if b then (match body ρ G' with
    | .nx ρ2 G2 => whileN c body k ρ2 G2
    | .ct ρ2 G2 => whileN c body k ρ2 G2
    | .bk ρ2 G2 => .nx ρ2 G2
    | r => r) else .nx ρ G'
theorem gs_while (k : Nat) {c : Expr} {body : List Stmt} {tc : GT} {gb : GS} (hp : PassesOwn (model X.prog X.w) X.A X.env X.xe) (hc : GJT X c tc) (hb : GJSs X body gb) : GJS X (.While c body [] pos) (whileN tc gb k) := ⟨fun B F0 wx tk => by
  refine PS.imp (ps_while hp (hc.run B F0 wx tk) (hb.run B F0 wx tk)) fun D σ H ⟨F, ι, ρ, G, s, he, hh⟩ => ?_
  refine ⟨fun m σ H => ∃ F ι ρ G, Sim (gc X B F0 wx) F H ι G ∧ REnv (md X) F ι G.length ρ σ ∧ PostS (gc X B F0 wx) F ι G.length (whileN tc gb m ρ G) D, ⟨k, F, ι, ρ, G, s, he, hh⟩, ?_⟩
  rintro m σ H ⟨F, ι, ρ, G, s, he, hh⟩
  cases m with
  | zero => exact hh.elim
  | succ m =>
    simp only [whileN] at hh
    refine ⟨F, ι, ρ, G, s, he, (PostS.fstB he hh).imp fun b H1 ⟨F1, ι1, G1, e1, s1, he1, p1⟩ => ?_⟩
    cases b with
    | false => exact p1 σ H1 ⟨F1, ι1, .refl, s1, he1⟩
    | true =>
      refine ⟨fun σ' H' => ∃ F ι ρ G, Sim (gc X B F0 wx) F H' ι G ∧ REnv (md X) F ι G.length ρ σ' ∧ PostS (gc X B F0 wx) F ι G.length (whileN tc gb m ρ G) D, fun σ' H' h => ⟨m, Nat.lt_succ_self m, h⟩, F1, ι1, ρ, G1, s1, he1, ?_⟩
      rw [if_pos rfl] at p1
      cases qb : gb ρ G1 with
      | stuck => rw [qb] at p1; exact p1
      | exc x ρ' G' => rw [qb] at p1; exact p1
      | nx ρ' G' =>
        rw [qb] at p1
        exact fun σ5 H5 ⟨F5, ι5, e5, s5, he5⟩ => ⟨F5, ι5, ρ', G', s5, he5, PostS.base e5 p1⟩
      | ct ρ' G' =>
        rw [qb] at p1
        exact fun σ5 H5 ⟨F5, ι5, e5, s5, he5⟩ => ⟨F5, ι5, ρ', G', s5, he5, PostS.base e5 p1⟩
      | bk ρ' G' => rw [qb] at p1; exact p1
      | ret w G' => rw [qb] at p1; exact p1⟩
end
end Gh

set_option Elab.async false
set_option linter.all false
set_option maxRecDepth 100000
set_option maxHeartbeats 4000000
namespace Gh
open PySem PySem.Spec PyProof.Rows L2

/-! ### + of ints, texts, lists, tuples -/
section
variable {X : Cx}
/-- list + list, any two that are read -/
def rCatLA (K : PySem.W.Frag) : R2 := fun x y H Q => ∃ l b xs zs, x = .ref l ∧ y = .ref b ∧ SqL K H l xs ∧ SqL K H b zs ∧ xs.length + zs.length ≤ sizeLine ∧ ∀ p, H p = none → Q (.ref p) (upd H p (.lst (xs ++ zs)))
theorem op_catLA : OpR X (binaryOp .Add) (rCatLA X.K) := by
  intro pins s σ H x y v u Q I rx ry h
  obtain ⟨l, b, xs, zs, rfl, rfl, hH, hB, hz, q⟩ := h
  cases rx
  cases ry
  obtain ⟨its, r, ⟨⟨cls, dd, data, sl⟩, n, ho, hc, _, hd⟩, hl⟩ := I.list hH
  obtain ⟨its2, r2, ⟨⟨cls2, dd2, data2, sl2⟩, n2, ho2, hc2, _, hd2⟩, hl2⟩ := I.list hB
  simp only at hc hd hc2 hd2
  subst hc hd hc2 hd2
  have h1 := r.length
  have h2 := r2.length
  refine concat_meets ⟨_, ho, rfl⟩ ⟨_, ho2, rfl⟩ noFill_list_add seq_list_add PySem.F.slot_list_add PySem.F.entry_list_add (PySem.F.args_list_add_2 _ _) (list_addW l b its.toArray its2.toArray n n2 dd dd2 sl sl2 (by rw [List.size_toArray, List.size_toArray]; omega)) ⟨ho, ho2, ?_⟩
  have ea : its.toArray ++ its2.toArray = (its ++ its2).toArray := by simp
  rw [ea]
  exact ⟨.ref _, _, I.lnew (t' := s.toks) (r.append r2) (by rw [List.length_append]; omega), rfl, q _ I.fresh⟩
def rAddA (K : PySem.W.Frag) : R2 := fun x y H Q => (rI0 (fun i j => .int (i + j))) x y H Q ∨ (∃ i j, x = .str i ∧ y = .str j ∧ i.length + j.length ≤ sizeLine ∧ Q (.str (i ++ j)) H) ∨ rCatLA K x y H Q ∨ rCatA K x y H Q
theorem op_addA : OpR X (binaryOp .Add) (rAddA X.K) := by
  intro pins s σ H x y v u Q I rx ry h
  rcases h with h | h | h | h
  · exact op_add pins s σ H x y v u Q I rx ry h
  · exact op_add_str pins s σ H x y v u Q I rx ry h
  · exact op_catLA pins s σ H x y v u Q I rx ry h
  · exact op_catA pins s σ H x y v u Q I rx ry h
/-- a list's result: a tree -/
def mkLst (ws : List W) : Option W := (allD ws).map fun ds => .d (.lst ds)
def fAddS (w u : W) (G : Hg) : Option (W × Hg) := match seqW w G, seqW u G with
  | some (true, ws), some (true, us) => if small (ws.length + us.length) then (mkLst (ws ++ us)).map fun z => (z, G) else none
  | some (false, ws), some (false, us) => if small (ws.length + us.length) then (if ws.isEmpty then some (u, G) else if us.isEmpty then some (w, G) else some (mkTup (ws ++ us), G)) else none
  | _, _ => none
def fAdd : W → W → Hg → Option (W × Hg)
  | .d (.int i), .d (.int j), G => some (.d (.int (i + j)), G)
  | .d (.str i), .d (.str j), G => if small (i.length + j.length) then some (.d (.str (i ++ j)), G) else none
  | w, u, G => fAddS w u G
theorem isEmpty_nil {α : Type} {l : List α} (h : l.isEmpty = true) : l = [] := List.isEmpty_iff.mp h
theorem RpWL.nilV {M : Md} {F : Hp} {ι : Nat → Addr} {n : Nat} {ws : List W} {xs : List V} (r : RpWL M F ι n ws xs) : xs = [] ↔ ws.isEmpty = true := by
  have := r.length
  cases ws with
  | nil => simp only [RpWL] at r; simp [r]
  | cons w ws => cases xs with
    | nil => simp at this
    | cons => simp
theorem og_addS (C : GC) (F H : Hp) (ι : Nat → Addr) (G : Hg) (w u : W) (x y : V) (z : W) (G' : Hg) (Q : VK) (hK : C.m = md X) (s : Sim C F H ι G) (rw_ : RpW C.m F ι G.length w x) (ru : RpW C.m F ι G.length u y)
    (e : fAddS w u G = some (z, G')) (hQ : ∀ v H', Out C F ι G.length z G' v H' → Q v H') : rAddA X.K x y H Q := by
  have hKK : C.m.K = X.K := by rw [hK]
  unfold fAddS at e
  cases q : seqW w G with
  | none => rw [q] at e; cases e
  | some o =>
    obtain ⟨b, ws⟩ := o
    cases q2 : seqW u G with
    | none => rw [q, q2] at e; cases b <;> cases e
    | some o2 =>
      obtain ⟨b2, us⟩ := o2
      rw [q, q2] at e
      obtain ⟨a, xs, rfl, h1, h2⟩ := s.seq q rw_
      obtain ⟨a2, ys, rfl, h3, h4⟩ := s.seq q2 ru
      rw [hKK] at h1 h3
      cases b with
      | true =>
        cases b2 with
        | false => cases e
        | true =>
          simp only at e
          rw [if_pos rfl] at h1 h3
          cases c : small (ws.length + us.length) with
          | false => rw [c] at e; cases e
          | true =>
            rw [c, if_pos rfl] at e
            unfold mkLst at e
            cases k : allD (ws ++ us) with
            | none => rw [k] at e; cases e
            | some ds =>
              rw [k] at e
              cases e
              refine .inr (.inr (.inl ⟨a, a2, xs, ys, rfl, rfl, h1, h3, by rw [← h2.length, ← h4.length]; exact small_le c, fun p hp => hQ _ _ (out_lst s (allD_rp k (h2.append h4)) hp)⟩))
      | false =>
        cases b2 with
        | true => cases e
        | false =>
          simp only at e
          rw [if_neg Bool.false_ne_true] at h1 h3
          cases c : small (ws.length + us.length) with
          | false => rw [c] at e; cases e
          | true =>
            rw [c, if_pos rfl] at e
            refine .inr (.inr (.inr ⟨a, a2, xs, ys, rfl, rfl, h1, h3, by rw [← h2.length, ← h4.length]; exact small_le c, fun hx => ?_, fun hx hy => ?_, fun hx hy p hp => ?_⟩))
            · rw [if_pos (h2.nilV.mp hx)] at e
              cases e
              exact hQ _ _ (out_w s ru)
            · rw [if_neg (fun k => hx (h2.nilV.mpr k)), if_pos (h4.nilV.mp hy)] at e
              cases e
              exact hQ _ _ (out_w s rw_)
            · rw [if_neg (fun k => hx (h2.nilV.mpr k)), if_neg (fun k => hy (h4.nilV.mpr k))] at e
              cases e
              exact hQ _ _ (out_tup s (h2.append h4) hp)
theorem og_add : OpG X (rAddA X.K) fAdd := by
  intro C F H ι G w u x y z G' Q hK s rw_ ru e hQ
  have gen : fAddS w u G = some (z, G') → rAddA X.K x y H Q := fun e => og_addS C F H ι G w u x y z G' Q hK s rw_ ru e hQ
  cases w with
  | d a =>
    cases a with
    | int i =>
      cases u with
      | d b =>
        cases b with
        | int j =>
          simp only [fAdd] at e
          cases e
          simp only [RpW, Rp] at rw_ ru
          subst rw_ ru
          exact .inl ⟨i, j, rfl, rfl, hQ _ _ (out_flat s rpI)⟩
        | _ => exact gen e
      | _ => exact gen e
    | str i =>
      cases u with
      | d b =>
        cases b with
        | str j =>
          simp only [fAdd] at e
          cases c : small (i.length + j.length) with
          | false => rw [c] at e; cases e
          | true =>
            rw [c, if_pos rfl] at e
            cases e
            simp only [RpW, Rp] at rw_ ru
            subst rw_ ru
            exact .inr (.inl ⟨i, j, rfl, rfl, small_le c, hQ _ _ (out_flat s rpS)⟩)
        | _ => exact gen e
      | _ => exact gen e
    | _ => exact gen e
  | _ => exact gen e
/-- list + list, as a new list that may be changed -/
def fAddN (w u : W) (G : Hg) : Option (W × Hg) := match seqW w G, seqW u G with
  | some (true, ws), some (true, us) => if small (ws.length + us.length) then some (.ref G.length, G ++ [.lst (ws ++ us)]) else none
  | _, _ => none
theorem og_addN : OpG X (rAddA X.K) fAddN := by
  intro C F H ι G w u x y z G' Q hK s rw_ ru e hQ
  have hKK : C.m.K = X.K := by rw [hK]
  unfold fAddN at e
  cases q : seqW w G with
  | none => rw [q] at e; cases e
  | some o =>
    obtain ⟨b, ws⟩ := o
    cases q2 : seqW u G with
    | none => rw [q, q2] at e; cases b <;> cases e
    | some o2 =>
      obtain ⟨b2, us⟩ := o2
      rw [q, q2] at e
      obtain ⟨a, xs, rfl, h1, h2⟩ := s.seq q rw_
      obtain ⟨a2, ys, rfl, h3, h4⟩ := s.seq q2 ru
      rw [hKK] at h1 h3
      cases b with
      | false => cases e
      | true =>
        cases b2 with
        | false => cases e
        | true =>
          simp only at e
          rw [if_pos rfl] at h1 h3
          cases c : small (ws.length + us.length) with
          | false => rw [c] at e; cases e
          | true =>
            rw [c, if_pos rfl] at e
            cases e
            exact .inr (.inr (.inl ⟨a, a2, xs, ys, rfl, rfl, h1, h3, by rw [← h2.length, ← h4.length]; exact small_le c, fun p hp => hQ _ _ (out_new s (h2.append h4) hp)⟩))
/-! ### * -/
theorem og_mul : OpG X (rI CMul fun i j => .int (i * j)) (fI iMul) := og_int fun C F H i j d Q q hQ => by
  obtain ⟨p, rfl⟩ := of_some q; exact ⟨i, j, rfl, rfl, p, hQ _ rpI⟩
end
/-- the same with more to be kept -/
theorem Sim.keep {C : GC} {F H : Hp} {ι : Nat → Addr} {G : Hg} {p : Addr} {o : HO} (s : Sim C F H ι G) (h : H p = none) : Sim { C with B := upd C.B p o } F (upd H p o) ι G := by
  have s' := s.drop (o := o) h
  have hB := s.freeB h
  have hF := s.free h
  refine ⟨s'.fh, fun b u q => ?_, s.ff, fun b u q => ?_, fun i g hi hg => ?_, s.inj⟩
  · by_cases e : b = p
    · subst e
      have q1 : upd C.B b o b = some u := q
      rw [upd_same] at q1
      cases q1
      exact upd_same
    · have q' : C.B b = some u := by rw [← upd_ne (H := C.B) (o := o) e]; exact q
      exact s'.bh _ _ q'
  · rcases s.new b u q with z | z
    · exact .inl z
    · refine .inr ?_
      show upd C.B p o b = none
      rw [upd_ne (fun e => by rw [e, hF] at q; cases q)]
      exact z
  · obtain ⟨a, b, r⟩ := s'.live i g hi hg
    obtain ⟨u, hu⟩ := (s.live i g hi hg).2.2.some hg
    have e : upd C.B p o (ι i) = C.B (ι i) := upd_ne (ne_of_none hu h)
    exact ⟨a, ⟨fun hL => e.trans (b.1 hL), fun hL z => b.2 hL (e.symm.trans z)⟩, r⟩
/-- what is kept at p is no locked thing: no ghost object stands there -/
theorem Sim.apart {C : GC} {F H : Hp} {ι : Nat → Addr} {G : Hg} {p : Addr} {o : HO} (s : Sim { C with B := upd C.B p o } F H ι G) (hno : ∀ od u, o ≠ .frz od u) : ∀ i g, G[i]? = some g → g ≠ .dead → ι i ≠ p := fun i g hi hg e => by
  obtain ⟨_, b, r⟩ := s.live i g hi hg
  cases hL : g.isL with
  | false =>
    have z : upd C.B p o (ι i) = none := b.1 hL
    rw [e, upd_same] at z
    cases z
  | true =>
    have hp : H p = some o := s.bh p o upd_same
    cases g with
    | lkd t kvs =>
      cases t with
      | false =>
        obtain ⟨od, es, h1, _⟩ := r
        rw [e, hp] at h1
        exact hno _ _ (Option.some.inj h1)
      | true =>
        obtain ⟨od, es, h1, _⟩ := r
        rw [e, hp] at h1
        exact hno _ _ (Option.some.inj h1)
    | _ => cases hL
theorem Sim.unkeep {C : GC} {F H : Hp} {ι : Nat → Addr} {G : Hg} {p : Addr} {o : HO} (s : Sim { C with B := upd C.B p o } F H ι G) (h : C.B p = none) (hno : ∀ od u, o ≠ .frz od u := by intro _ _ z; cases z) : Sim C F H ι G := by
  refine ⟨s.fh, fun b u q => s.bh b u ?_, s.ff, fun b u q => ?_, fun i g hi hg => ?_, s.inj⟩
  · show upd C.B p o b = some u
    rw [upd_ne (ne_of_none q h)]
    exact q
  · rcases s.new b u q with z | z
    · exact .inl z
    · refine .inr ?_
      by_cases e : b = p
      · rw [e]; exact h
      · have z' : upd C.B p o b = none := z
        rw [upd_ne e] at z'
        exact z'
  · obtain ⟨a, b, r⟩ := s.live i g hi hg
    have e : upd C.B p o (ι i) = C.B (ι i) := upd_ne (s.apart hno i g hi hg)
    exact ⟨a, ⟨fun hL => e.symm.trans (b.1 hL), fun hL z => b.2 hL (e.trans z)⟩, r⟩
/-- a thing that was kept is frozen -/
theorem Sim.adopt {C : GC} {F H : Hp} {ι : Nat → Addr} {G : Hg} {p : Addr} {o : HO} (s : Sim { C with B := upd C.B p o } F H ι G) (h : C.B p = none) (hF : F p = none) (hno : ∀ od u, o ≠ .frz od u := by intro _ _ z; cases z) : Sim C (upd F p o) H ι G ∧ Ext F ι G.length (upd F p o) ι G.length ∧ H p = some o := by
  have hp : H p = some o := s.bh p o upd_same
  have ext : Ext F ι G.length (upd F p o) ι G.length := ⟨fun b u q => by rw [upd_ne (ne_of_none q hF)]; exact q, fun _ _ => rfl, Nat.le_refl _⟩
  have t := s.unkeep h hno
  refine ⟨⟨fun b u q => ?_, t.bh, t.ff.trans ext.fr, fun b u q => ?_, fun i g hi hg => ?_, t.inj⟩, ext, hp⟩
  · by_cases e : b = p
    · subst e; rw [upd_same] at q; cases q; exact hp
    · rw [upd_ne e] at q; exact s.fh _ _ q
  · by_cases e : b = p
    · subst e; exact .inr h
    · rw [upd_ne e] at q; exact t.new _ _ q
  · obtain ⟨a, b, r⟩ := s.live i g hi hg
    have np : ι i ≠ p := s.apart hno i g hi hg
    exact ⟨by rw [upd_ne np]; exact a, (t.live i g hi hg).2.1, r.mono ext fun u q => q⟩
/-- [..] * k -/
def repEnd (ws : List W) : W → Hg → Res W := fun z G2 => match z, allD ws with
  | .d (.int j), some ds => if (decide (-(2 ^ 63) ≤ j) && decide (j < 2 ^ 63)) && small (ws.length * j.toNat) then .ok (.d (.lst (List.replicate j.toNat ds).flatten)) G2 else .stuck
  | _, _ => .stuck
def gRep (a : GEs) (k : GE) : GE := fun ρ G => (a ρ G).bind fun ws G1 => if small ws.length then (k ρ G1).bind (repEnd ws) else .stuck
theorem RpL.append {M : Md} {F : Hp} : ∀ {ds es : List D} {xs ys : List V}, RpL M F ds xs → RpL M F es ys → RpL M F (ds ++ es) (xs ++ ys)
  | [], es, xs, ys, h, k => by simp only [RpL] at h; subst h; simpa using k
  | w :: ws, us, xs, ys, h, k => by
    simp only [RpL] at h
    obtain ⟨x, r, rfl, h1, h2⟩ := h
    simp only [List.cons_append, RpL]
    exact ⟨x, r ++ ys, rfl, h1, h2.append k⟩
theorem RpL.rep {M : Md} {F : Hp} {ds : List D} {xs : List V} (h : RpL M F ds xs) : ∀ k : Nat, RpL M F (List.replicate k ds).flatten (List.replicate k xs).flatten
  | 0 => by simp [RpL]
  | k + 1 => by
    rw [List.replicate_succ, List.replicate_succ, List.flatten_cons, List.flatten_cons]
    exact h.append (h.rep k)
section
variable {X : Cx} {es : List Expr} {gs : GEs} {b : Expr} {gb : GE} {pos pos' : Pos}
theorem ge_rep (h : GJA X es gs) (hb : GJE X b gb) : GJE X (.BinOp (.List es pos') .Mult b pos) (gRep gs gb) := ⟨fun B F0 wx tk => by
  refine ⟨fun pins s0 σ H Q I hh => ?_⟩
  obtain ⟨F, ι, ρ, G, s, he, hp⟩ := hh
  -- what the whole asks
  have key : ∀ (xs : List V) (H1 : Hp) (F1 : Hp) (ι1 : Nat → Addr) (ws : List W) (G1 : Hg), Ext F ι G.length F1 ι1 G1.length → Sim (gc X B F0 wx) F1 H1 ι1 G1 → RpWL (md X) F1 ι1 G1.length ws xs →
      Post (gc X B F0 wx) F1 ι1 G1.length σ ((gb ρ G1).bind (repEnd ws)) Q → ∀ p, H1 p = none → ∃ B' : Hp, gTE (gc X B' F0 wx) gb σ (upd H1 p (.lst xs)) fun y H2 => rRep (.ref p) y H2 Q := by
    intro xs H1 F1 ι1 ws G1 e1 s1 r1 p1 p hp1
    have hB := s1.freeB hp1
    have hF := s1.free hp1
    refine ⟨upd B p (.lst xs), F1, ι1, ρ, G1, s1.keep (o := .lst xs) hp1, he.mono e1, ?_⟩
    cases q : gb ρ G1 with
    | stuck => rw [q] at p1; exact p1
    | exc e G' => rw [q] at p1; exact fun cls d H' ⟨F', ι', a, b', c⟩ => p1 cls d H' ⟨F', ι', a, b'.unkeep (C := gc X B F0 wx) hB, c⟩
    | ok z G2 =>
      rw [q] at p1
      rintro y H2 ⟨F2, ι2, e2, s2, r2⟩
      have p2 := Post.base e2 p1
      simp only [Res.bind, repEnd] at p2
      cases z with
      | d zd =>
        cases zd with
        | int j =>
          cases k : allD ws with
          | none => rw [k] at p2; exact p2.elim
          | some ds =>
            rw [k] at p2
            simp only at p2
            cases c : ((decide (-(2 ^ 63) ≤ j) && decide (j < 2 ^ 63)) && small (ws.length * j.toNat)) with
            | false => rw [c] at p2; exact p2.elim
            | true =>
              rw [c, if_pos rfl] at p2
              simp only [Bool.and_eq_true, decide_eq_true_eq] at c
              simp only [RpW, Rp] at r2
              subst r2
              have hl := r1.length
              refine ⟨p, j, xs, rfl, rfl, s2.bh p _ upd_same, c.1.1, c.1.2, by rw [← hl]; exact small_le c.2, fun p2' hp2 => ?_⟩
              have t := s2.unkeep (C := gc X B F0 wx) hB
              have r1' := allD_rp k (r1.mono e2)
              exact p2 _ _ (out_lst t (r1'.rep _) hp2)
        | _ => exact p2.elim
      | _ => exact p2.elim
  refine wpAny_BinOp ?_
  have hL := (pe_lst (pos := pos') (h.run B F0 wx tk)).run pins s0 σ H (fun x H1 => ∃ p, x = .ref p ∧ ∃ B' : Hp, gTE (gc X B' F0 wx) gb σ H1 fun y H2 => rRep (.ref p) y H2 Q) I ?_
  · refine thn hL fun v s1 ⟨x, H1, I1, r1, p, ex, B', hg⟩ => ?_
    subst ex
    refine thn ((hb.run B' F0 wx tk).run pins s1 σ H1 _ I1 hg) fun u s2 ⟨y, H2, I2, r2, q2⟩ => ?_
    exact op_rep pins s2 σ H2 (.ref p) y v u Q I2 r1 r2 q2
  · refine ⟨F, ι, ρ, G, s, he, (PostL.fst hp).imp fun xs H1 ⟨F1, ι1, ws, G1, e1, s1, r1, p1⟩ => ?_⟩
    cases q : small ws.length with
    | false => rw [q] at p1; exact p1.elim
    | true =>
      rw [q, if_pos rfl] at p1
      exact ⟨by rw [← r1.length]; exact small_le q, fun p hp1 => ⟨p, rfl, key xs H1 F1 ι1 ws G1 e1 s1 r1 p1 p hp1⟩⟩⟩
end
end Gh

set_option Elab.async false
set_option linter.all false
set_option maxRecDepth 100000
set_option maxHeartbeats 4000000
/-! rooms in which no object's text is being made (guards), and what a def promises there -/
namespace Gh
abbrev St := L2.St
open PySem PySem.Spec PyProof.Rows L2
structure RoomG (k : Nat) (A : Around) : Prop where
  r : Room k A
  g : A.guards = some []
theorem RoomG.mono {j k : Nat} {A : Around} (r : RoomG k A) (h : j ≤ k) : RoomG j A := ⟨r.r.mono h, r.g⟩
theorem RoomG.deeper {k : Nat} {A : Around} (r : RoomG (k + 1) A) (env : Env) : RoomG k (A.deeper env) := ⟨r.r.deeper env, r.g⟩
theorem roomG_caller {k : Nat} (h : Room k callerA) : RoomG k callerA := ⟨h, rfl⟩
structure FnG (P : Program) (w : World) (K : PySem.W.Frag) (mg : Str → Option Value) (base : Heap) (CX : CXT) (k : Nat) (f : Addr) (fd : FuncData) (ps : List Str) (sp : Sp) : Prop where
  len : ∀ vs H Q E, sp vs H Q E → vs.length = ps.length
  run : ∀ (A : Around) (outer : List Env) (s : Shared) (H : Hp) (args : Args) (us : List Value) (vs : List V) (Q : VK) (E : XK), RoomG k A → Env0 P w K mg base A outer s H → BindsTo s fd args (ps.zip us) → Vals vs us → sp vs H Q E →
    codeAny (model P w) A (.call (.ref f) args) (CR CX outer P w H s Q E) s
theorem FnG.of {P : Program} {w : World} {K : PySem.W.Frag} {mg : Str → Option Value} {base : Heap} {CX : CXT} {k : Nat} {f : Addr} {fd : FuncData} {ps : List Str} {sp : Sp} (F : FnOk P w K mg base CX k f fd ps sp) : FnG P w K mg base CX k f fd ps sp :=
  ⟨F.len, fun A outer s H args us vs Q E hr => F.run A outer s H args us vs Q E hr.r⟩
theorem fnG_of {CX : CXT} {P : Program} {w : World} {K : PySem.W.Frag} {mg : Str → Option Value} {base : Heap} {k : Nat} {f : Addr} {name qual : Str} {params : Arguments} {body : List Stmt} {scope : Scope} {dV kV doc pm cdv ct oc : Value} {an od : Option Addr}
    {osl : Array (Option Value)} {N ps : List Str} {sp : Sp} (lk : K.lookup f = some ⟨oc, od, .func (PySem.W.fnOf name qual params body scope dV kV doc pm an cdv ct), osl⟩) (hcd : PySem.W.codeIn K cdv qual = true) (S : FnScope N ps scope)
    (len : ∀ vs H Q E, sp vs H Q E → vs.length = ps.length)
    (hbody : ∀ (A : Around) (outer : List Env) (s : Shared) (H : Hp) (vs : List V) (Q : VK) (E : XK), RoomG k (A.deeper (envOfC qual scope s.heap.objs.size f cdv)) → sp vs H Q E →
      ∃ t, PSs (cxOf CX P w K mg base N qual scope f cdv A outer s H E) body t ∧ t { nx := fun _ H' => Q .non H', rt := Q } (L2.start N vs) H) :
    FnG P w K mg base CX (k + 1) f (PySem.W.fnOf name qual params body scope dV kV doc pm an cdv ct) ps sp := by
  refine ⟨len, fun A outer s H args us vs Q E hr e0 hb r hsp => ?_⟩
  have hl := len _ _ _ _ hsp
  have KX : K.In s.heap := e0.mod.kin.keeps fun b o e => (e0.bs b o e).1
  have lim : s.heap.NoLimit := e0.mod.nolimit.keeps fun b o e => (e0.bs b o e).1
  have hkind : ∀ y ∈ ps.zip us, scope.names.lookup y.1 = some .local ∨ (scope.names.lookup y.1 = some .cell ∧ ((cellsFrom (s.heap.objs.size + 1) scope.names []).lookup y.1).isSome = true) := fun ⟨n, v⟩ hy => by
    rcases S.par n (List.of_mem_zip hy).1 with q | q
    · exact .inl q
    · exact .inr ⟨q, PySem.W.cellsFrom_some _ _ _ (.inl q)⟩
  refine codeAny_call_function hr.r.depth (KX _ _ lk) rfl S.co S.gen rfl (PySem.W.codeRec_of KX hcd) (hb _ _ _ _ ?_)
  refine wpAny_newFunctionEnv_cells S.kind hkind fun env he s1 x => ?_
  subst he
  refine ⟨lim.keeps x.toInCall.keep, codeAny_func ?_⟩
  obtain ⟨t, ht, hq⟩ := hbody A outer s H vs Q E (hr.deeper _) hsp
  have I : Inv (cxOf CX P w K mg base N qual scope f cdv A outer s H E) [] (L2.start N vs) H s1 := inv_start S hr.r.hd e0 hl r x
  refine wpAny_mono (ht.run [] s1 (L2.start N vs) H _ I hq) (fun fl s' hs => ?_) fun e s' hs => hs
  have fin : ∀ {σ' : St} {H' : Hp} {v : V} {u : Value}, Inv (cxOf CX P w K mg base N qual scope f cdv A outer s H E) [] σ' H' s' → RelV v u → Q v H' → CE outer P w H s Q u s' :=
    fun {σ' H' v u} J rv q => ⟨v, H', J.os, J.bare, J.base, J.hok, rv, q⟩
  cases fl with
  | ret u =>
    obtain ⟨v, σ', H', J, rv, q⟩ := hs
    exact fin J rv q
  | next =>
    obtain ⟨σ', H', J, q⟩ := hs
    exact fin (v := V.non) (u := Value.none) J rfl q
  | brk =>
    obtain ⟨_, _, _, q⟩ := hs
    exact False.elim q
  | cont =>
    obtain ⟨_, _, _, q⟩ := hs
    exact False.elim q
theorem FunD.okG {x qual : Str} {params : Arguments} {body : List Stmt} {scope : Scope} {dvs : List V} {kws : List (Str × V)} {f : Addr} {fd : FuncData} {P : Program} {w : World} {K : PySem.W.Frag} {mg : Str → Option Value} {base : Heap} {CX : CXT} {N ps : List Str} {k : Nat} {sp : Sp} (F : FunD K x qual params body scope dvs kws f fd) (S : FnScope N ps scope) (len : ∀ vs H Q E, sp vs H Q E → vs.length = ps.length)
    (hbody : ∀ (cdv : Value) (A : Around) (outer : List Env) (s : Shared) (H : Hp) (vs : List V) (Q : VK) (E : XK), RoomG k (A.deeper (envOfC qual scope s.heap.objs.size f cdv)) → sp vs H Q E →
      ∃ t, PSs (cxOf CX P w K mg base N qual scope f cdv A outer s H E) body t ∧ t { nx := fun _ H' => Q .non H', rt := Q } (L2.start N vs) H) : FnG P w K mg base CX (k + 1) f fd ps sp := by
  obtain ⟨oc, od, dV, kV, doc, pm, an, cdv, ct, osl, rfl, lk, hcd, _, _⟩ := F.ex
  exact fnG_of lk hcd S len fun A outer s H vs Q E hr hsp => hbody cdv A outer s H vs Q E hr hsp
section
variable {X : Cx} {CX : CXT} {k : Nat} {f C : Addr} {fd : FuncData} {ps : List Str} {sp : Sp} {E : St → XK} {x m : Str} {p pos apos : Pos} {e o : Expr} {es : List Expr} {ta : TE} {t : TA}
theorem run_fnG {pins : List (Addr × Obj)} {σ : St} {H : Hp} {s : Shared} {Q : VK} {us : List Value} {vs : List V} (F : FnG X.prog X.w X.K X.mg X.base CX k f fd ps sp) (hr : RoomG k X.A) (hb : Binds X.K fd ps []) (hx : PassesAt CX X σ (E σ))
    (I : Inv X pins σ H s) (r : Vals vs us) (h : sp vs H Q (E σ)) : wpAny (model X.prog X.w) X.A (call (.ref f) us) (EP X pins σ Q) X.xe s := by
  have hl : us.length = ps.length := by rw [← r.length]; exact F.len _ _ _ _ h
  have b := hb s us I.kIn (by rw [List.append_nil]; exact hl)
  rw [List.append_nil] at b
  refine wpAny_call (codeAny_mono (F.run X.A X.stack s H ⟨us, []⟩ us vs Q (E σ) hr I.env0 b r h) fun r s' hq => ?_)
  cases r with
  | error e => exact hx pins H s e s' I hq
  | ok fl =>
    cases fl with
    | ret u => exact I.after hq
    | next => exact False.elim hq
    | brk => exact False.elim hq
    | cont => exact False.elim hq

theorem pe_callG (F : FnG X.prog X.w X.K X.mg X.base CX k f fd ps sp) (hr : RoomG k X.A) (hg : Gl X x) (hm : X.mg x = some (.ref f)) (hk : PySem.W.keepIn X.K (.ref f) = true) (hb : Binds X.K fd ps []) (hx : ∀ σ, PassesAt CX X σ (E σ))
    (ha : PA X (e :: es) t) (hdb : (x == ("__debug__" : Str)) = false := by decide) (he : starEach (e :: es) X.env = (false, eval e X.env) :: starEach es X.env := by rfl) (hpl : (backTo pos (starEach es X.env)).any (·.1) = false := by rfl) :
    PE X (.Call (.Name x p) (e :: es) [] pos) (tCallS sp E t) := by
  refine ⟨fun pins s σ H Q I h => ?_⟩
  refine wpAny_Call_Name_kw (ld_glob I hg hm ?_ hdb)
  refine PySem.W.callWith_K (h₀ := X.base) I.ok.mod.kin hk (thn (ha.run pos pins s σ H _ I h) fun us s1 ⟨vs, H1, I1, r, q⟩ => ⟨I1.kIn, ?_⟩) he hpl
  exact run_fnG F hr hb (hx σ) I1 r q
end
theorem law_callG {P : Program} {w : World} {K : PySem.W.Frag} {mg mb : Str → Option Value} {CX : CXT} {k : Nat} {fa a : Addr} {fd : FuncData} {x : Str} {sp : Sp} {s₁ : Shared} {vs : List Value} {ns : List Int}
    (KX : K.In s₁.heap) (hns : s₁.heap.Ns mainGlobals mg) (hb : s₁.heap.Ns builtinsNs mb) (hbb : ∀ x : Str, x ≠ "__name__" → mb x = bootBuiltins x) (hlim : s₁.heap.NoLimit) (hg : s₁.gens = #[])
    (ha : s₁.heap.get? a = some { cls := .type "list", data := .seq vs.toArray }) (hi : IntsAre vs ns) (hl : ns.length ≤ sizeLine) (hr : Room k callerA)
    (F : ∀ base : Heap, K.In base → base.Ns mainGlobals mg → FnG P w K mg base CX k fa fd [x] sp) (hbind : ∀ (s : Shared) (u : Value), BindsTo s fd ⟨[u], []⟩ [(x, u)])
    (hsp : ∀ H : Hp, Only H → SqL K H a (ns.map V.int) → sp [.ref a] H (fun v _ => v = .bl true) fun _ _ _ => False)
    (hCX : ∀ H e s', CX [] H s₁ (fun _ _ _ => False) e s' → False) :
    codeAny (model P w) callerA (.call (.ref fa) ⟨[.ref a], []⟩) (fun r s' => r = .ok (.ret (.bool true)) ∧ OldK s₁.heap s'.heap ∧ s'.os = s₁.os ∧ AllBare s'.gens) s₁ := by
  have rv := vals_ints hi
  have lenV := hi.length
  -- from an abstract heap in which nothing but the script may be tracked
  have core : ∀ H : Hp, Only H → SqL K H a (ns.map V.int) → HOk P w H s₁.heap → (∀ b, H b ≠ none → b = a) → (H a ≠ none → K.lookup a = none) →
      codeAny (model P w) callerA (.call (.ref fa) ⟨[.ref a], []⟩) (fun r s' => r = .ok (.ret (.bool true)) ∧ OldK s₁.heap s'.heap ∧ s'.os = s₁.os ∧ AllBare s'.gens) s₁ := by
    intro H hO hS hok hA hK
    have base_of : ∀ {b : Addr} {o : Obj}, s₁.heap.get? b = some o → H b = none → (hidT s₁.heap H).get? b = some o := fun e n => hidT_get e n
    have noA : ∀ {b : Addr} {o : Obj} {es : Array DictEntry} {ep : Nat}, s₁.heap.get? b = some o → o.data = .dict es ep → H b = none := fun {b o es ep} e d => by
      cases q : H b with
      | none => rfl
      | some u =>
        have e' : b = a := hA b (by rw [q]; simp)
        subst e'
        rw [ha] at e; cases e
        have d' : Data.seq vs.toArray _ = Data.dict es ep := d
        cases d'
    have nsK : ∀ {b : Addr} {m : Str → Option Value}, s₁.heap.Ns b m → (hidT s₁.heap H).Ns b m := fun {b m} ⟨o, es, ep, e, d, r⟩ => ⟨o, es, ep, base_of e (noA e d), d, r⟩
    have hKb : K.In (hidT s₁.heap H) := fun b o e => base_of (KX b o e) (by
      cases q : H b with
      | none => rfl
      | some u =>
        have e' : b = a := hA b (by rw [q]; simp)
        subst e'
        rw [hK (by rw [q]; simp)] at e; cases e)
    have hM : Mod K mg (hidT s₁.heap H) := ⟨hKb, nsK hns, ⟨mb, nsK hb, hbb⟩, let ⟨mc, h1, h2⟩ := hlim; ⟨mc, nsK h1, h2⟩⟩
    have e0 : Env0 P w K mg (hidT s₁.heap H) callerA [] s₁ H := ⟨rfl, hM, fun b o e => of_hidT e, Nat.le_of_eq (hidT_size _ _), trivial, fun b hb => absurd (show b ∈ ([] : List Addr) from hb) (by simp), hok, .of_eq hg⟩
    refine codeAny_mono ((F _ hKb (nsK hns)).run callerA [] s₁ H ⟨[.ref a], []⟩ [.ref a] [.ref a] _ _ (roomG_caller hr) e0 (hbind s₁ (.ref a)) (.cons rfl .nil) (hsp H hO hS)) fun r s' h => ?_
    cases r with
    | error e => exact (hCX H e s' h).elim
    | ok fl =>
      cases fl with
      | next => exact False.elim h
      | brk => exact False.elim h
      | cont => exact False.elim h
      | ret u =>
        obtain ⟨v, H', os, bare, un, hok', r', q⟩ := h
        have q' : v = .bl true := q
        subst q'
        obtain rfl : u = Value.bool true := r'
        refine ⟨rfl, OldK.of_keep fun b o e => ?_, os, bare⟩
        cases q : H b with
        | none => exact un.keep b o e q (by intro z; exact absurd (show b ∈ ([] : List Addr) from z) (by simp)) (by simp)
        | some u =>
          rcases hO b with z | ⟨ob, xs, z⟩
          · rw [q] at z; cases z
          · have z2 := un.frzs b ob _ z
            obtain ⟨e1, _⟩ := hok b _ z
            obtain ⟨e2, _⟩ := hok' b _ z2
            rw [e] at e1; cases e1
            exact e2
  cases hk : K.lookup a with
  | some o =>
    -- the script is one of the module's own objects
    have e := KX a o hk
    rw [ha] at e
    cases e
    refine core (fun _ => none) (fun _ => .inl rfl) (.inr ⟨_, vs.toArray, _, hk, rfl, rfl, rfl, by rw [List.size_toArray, lenV]; exact hl, by simpa using rv⟩) (fun b u z => by have z' : (none : Option HO) = some u := z; cases z') (fun b z => absurd rfl z) fun z => absurd rfl z
  | none =>
    refine core (fun b => if b = a then some (.frz { cls := .type "list", data := .seq vs.toArray } (.lst (ns.map V.int))) else none) (fun b => ?_) (.inl (.inr ⟨{ cls := .type "list", data := .seq vs.toArray }, if_pos rfl⟩)) (fun b u z => ?_) (fun b z => ?_) fun _ => hk
    · by_cases hb : b = a
      · exact .inr ⟨_, _, if_pos hb⟩
      · exact .inl (if_neg hb)
    · by_cases hb : b = a
      · have z' := (if_pos hb).symm.trans z
        cases z'
        subst hb
        exact ⟨ha, by rw [List.length_map]; exact hl, vs, _, rv, ha⟩
      · have z' := (if_neg hb).symm.trans z
        cases z'
    · by_cases hb : b = a
      · exact hb
      · exact absurd (if_neg hb) z
end Gh

set_option Elab.async false
set_option linter.all false
set_option maxRecDepth 100000
set_option maxHeartbeats 4000000
namespace Gh
open PySem PySem.Spec PyProof.Rows L2

/-! ### functions: those that leave all ghost objects alone (pure) -/
inductive PRes where
  | stuck | exc (e : Exc) | ok (d : D)
/-! a tree read off a value, to a depth -/
def mapO {α β : Type} (f : α → Option β) : List α → Option (List β)
  | [] => some []
  | a :: r => match f a with
    | none => none
    | some b => match mapO f r with
      | none => none
      | some bs => some (b :: bs)
theorem mapO_cons {α β : Type} {f : α → Option β} {a : α} {r : List α} {bs : List β} (h : mapO f (a :: r) = some bs) : ∃ b c, f a = some b ∧ mapO f r = some c ∧ bs = b :: c := by
  simp only [mapO] at h
  cases q : f a with
  | none => rw [q] at h; cases h
  | some b =>
    cases q2 : mapO f r with
    | none => rw [q, q2] at h; cases h
    | some c => rw [q, q2] at h; cases h; exact ⟨b, c, rfl, rfl, rfl⟩
def onSnd {α : Type} (f : W → Option D) (p : α × W) : Option (α × D) := (f p.2).map fun d => (p.1, d)
theorem onSnd_some {α : Type} {f : W → Option D} {p : α × W} {q : α × D} (h : onSnd f p = some q) : ∃ d, f p.2 = some d ∧ q = (p.1, d) := by
  unfold onSnd at h
  cases z : f p.2 with
  | none => rw [z] at h; cases h
  | some d => rw [z] at h; cases h; exact ⟨d, rfl, rfl⟩
def rdW : Nat → W → Hg → Option D
  | 0, w, _ => match w with
    | .d x => some x
    | _ => none
  | k + 1, w, G => match w with
    | .d x => some x
    | .tup ws => (mapO (fun w => rdW k w G) ws).map .tup
    | .ref i => match G[i]? with
      | some (.lst ws) => (mapO (fun w => rdW k w G) ws).map .lst
      | some (.frd t kvs) => (mapO (onSnd fun w => rdW k w G) kvs).map (.dic t)
      | some (.ins c fs) => (mapO (onSnd fun w => rdW k w G) fs).map (.ins c)
      | _ => none
open Classical in
/-- the frozen heap with all live ghost objects -/
noncomputable def allF (B F H : Hp) (ι : Nat → Addr) (G : Hg) : Hp := fun a => if (∃ i o, G[i]? = some o ∧ o ≠ .dead ∧ B (ι i) = none ∧ ι i = a) then H a else F a
section
variable {C : GC} {F H : Hp} {ι : Nat → Addr} {G : Hg}
theorem allF_old (s : Sim C F H ι G) : Same F (allF C.B F H ι G) := fun b o q => by
  unfold allF
  split
  · exact s.fh _ _ q
  · exact q
theorem allF_sub (s : Sim C F H ι G) : Same (allF C.B F H ι G) H := fun b o q => by
  unfold allF at q
  split at q
  · exact q
  · exact s.fh _ _ q
theorem allF_live {i : Nat} {o : GO} (hi : G[i]? = some o) (h : o ≠ .dead) (hL : C.B (ι i) = none) : allF C.B F H ι G (ι i) = H (ι i) := by
  unfold allF
  exact if_pos ⟨i, o, hi, h, hL, rfl⟩
theorem allF_new (s : Sim C F H ι G) : ∀ b o, allF C.B F H ι G b = some o → C.F0 b = some o ∨ C.B b = none := fun b o q => by
  unfold allF at q
  split at q
  · rename_i hx
    obtain ⟨i, g, hi, hg, hL, rfl⟩ := hx
    exact .inr hL
  · exact s.new _ _ q
section
variable {M : Md} {F F' : Hp} {ι : Nat → Addr} {n : Nat} {f : W → Option D}
theorem mapO_l (hf : ∀ w d v, f w = some d → RpW M F ι n w v → Rp M F' d v) : ∀ {ws : List W} {ds : List D} {xs : List V}, mapO f ws = some ds → RpWL M F ι n ws xs → RpL M F' ds xs
  | [], _, _, h, r => by
    cases h
    simp only [RpWL] at r
    simpa only [RpL] using r
  | w :: ws, _, _, h, r => by
    obtain ⟨b, c, h1, h2, rfl⟩ := mapO_cons h
    simp only [RpWL] at r
    obtain ⟨y, r', rfl, h3, h4⟩ := r
    simp only [RpL]
    exact ⟨y, r', rfl, hf _ _ _ h1 h3, mapO_l hf h2 h4⟩
theorem mapO_k (hf : ∀ w d v, f w = some d → RpW M F ι n w v → Rp M F' d v) : ∀ {ws : List (D × W)} {ds : List (D × D)} {xs : List (Key × V)}, mapO (onSnd f) ws = some ds → RpWK M F ι n ws xs → RpK M F' ds xs
  | [], _, _, h, r => by
    cases h
    simp only [RpWK] at r
    simpa only [RpK] using r
  | (k, w) :: ws, _, _, h, r => by
    obtain ⟨b, c, h1, h2, rfl⟩ := mapO_cons h
    obtain ⟨d, h0, rfl⟩ := onSnd_some h1
    simp only [RpWK] at r
    obtain ⟨kk, y, r', rfl, h5, h3, h4⟩ := r
    simp only [RpK]
    exact ⟨kk, y, r', rfl, h5, hf _ _ _ h0 h3, mapO_k hf h2 h4⟩
theorem mapO_t (hf : ∀ w d v, f w = some d → RpW M F ι n w v → Rp M F' d v) : ∀ {ws : List (D × W)} {ds : List (D × D)} {xs : List (NestedKey × Addr × V)}, mapO (onSnd f) ws = some ds → (∀ d v, Rp M F d v → Rp M F' d v) → RpWT M F ι n ws xs → RpT M F' ds xs
  | [], _, _, h, hm, r => by
    cases h
    simp only [RpWT] at r
    simpa only [RpT] using r
  | (k, w) :: ws, _, _, h, hm, r => by
    obtain ⟨b, c, h1, h2, rfl⟩ := mapO_cons h
    obtain ⟨d, h0, rfl⟩ := onSnd_some h1
    simp only [RpWT] at r
    obtain ⟨kk, kb, y, r', rfl, h5, h6, h3, h4⟩ := r
    simp only [RpT]
    exact ⟨kk, kb, y, r', rfl, h5, hm _ _ h6, hf _ _ _ h0 h3, mapO_t hf h2 hm h4⟩
theorem mapO_f (hf : ∀ w d v, f w = some d → RpW M F ι n w v → Rp M F' d v) : ∀ {ws : List (Str × W)} {ds : List (Str × D)} {xs : List (Str × V)}, mapO (onSnd f) ws = some ds → RpWF M F ι n ws xs → RpF M F' ds xs
  | [], _, _, h, r => by
    cases h
    simp only [RpWF] at r
    simpa only [RpF] using r
  | (k, w) :: ws, _, _, h, r => by
    obtain ⟨b, c, h1, h2, rfl⟩ := mapO_cons h
    obtain ⟨d, h0, rfl⟩ := onSnd_some h1
    simp only [RpWF] at r
    obtain ⟨y, r', rfl, h3, h4⟩ := r
    simp only [RpF]
    exact ⟨y, r', rfl, hf _ _ _ h0 h3, mapO_f hf h2 h4⟩
end
theorem map_some {α β : Type} {f : α → β} {o : Option α} {b : β} (h : o.map f = some b) : ∃ a, o = some a ∧ b = f a := by
  cases o with
  | none => cases h
  | some a => cases h; exact ⟨a, rfl, rfl⟩
theorem rd_ok (s : Sim C F H ι G) (hB : ∀ i o, G[i]? = some o → o ≠ .dead → C.B (ι i) = none) : ∀ (k : Nat) (w : W) (d : D) (v : V), rdW k w G = some d → RpW C.m F ι G.length w v → Rp C.m (allF C.B F H ι G) d v
  | k, .d x, d, v, h, r => by
    have h' : some x = some d := by cases k <;> exact h
    cases h'
    simp only [RpW] at r
    exact r.mono (allF_old s)
  | 0, .ref i, d, v, h, r => by cases h
  | 0, .tup i, d, v, h, r => by cases h
  | k + 1, .tup ws, d, v, h, r => by
    obtain ⟨ds, q, rfl⟩ := map_some (show (mapO (fun w => rdW k w G) ws).map D.tup = some d from h)
    simp only [RpW] at r
    obtain ⟨a, xs, rfl, h1, h2⟩ := r
    simp only [Rp]
    exact ⟨a, xs, rfl, Same.sqT (allF_old s) h1, mapO_l (rd_ok s hB k) q h2⟩
  | k + 1, .ref i, d, v, h, r => by
    simp only [rdW] at h
    simp only [RpW] at r
    obtain ⟨hi, rfl⟩ := r
    cases q : G[i]? with
    | none => rw [q] at h; cases h
    | some o =>
      rw [q] at h
      cases o with
      | dead => cases h
      | lst ws =>
        obtain ⟨ds, q2, rfl⟩ := map_some h
        have ne : GO.lst ws ≠ .dead := fun z => by cases z
        obtain ⟨_, _, xs, h1, h2⟩ := s.live i _ q ne
        simp only [Rp]
        exact ⟨_, xs, rfl, .inl (.inl ((allF_live q ne (hB _ _ q ne)).trans h1)), mapO_l (rd_ok s hB k) q2 h2⟩
      | dic t kvs => cases h
      | lkd t kvs => cases h
      | frd t kvs =>
        obtain ⟨ds, q2, rfl⟩ := map_some h
        have ne : GO.frd t kvs ≠ .dead := fun z => by cases z
        obtain ⟨_, _, r⟩ := s.live i _ q ne
        cases t with
        | false =>
          obtain ⟨od, es, h1, h2⟩ := r
          simp only [Rp]
          exact ⟨_, od, es, rfl, (allF_live q ne (hB _ _ q ne)).trans h1, mapO_k (rd_ok s hB k) q2 h2⟩
        | true =>
          obtain ⟨od, es, h1, h2⟩ := r
          simp only [Rp]
          exact ⟨_, od, es, rfl, (allF_live q ne (hB _ _ q ne)).trans h1, mapO_t (rd_ok s hB k) q2 (fun d v q => q.mono (allF_old s)) h2⟩
      | ins c fs =>
        obtain ⟨ds, q2, rfl⟩ := map_some h
        have ne : GO.ins c fs ≠ .dead := fun z => by cases z
        obtain ⟨_, _, Ca, dx, es, h0, hc, h1, h2⟩ := s.live i _ q ne
        simp only [Rp]
        exact ⟨_, Ca, es, rfl, h0, .ins dx hc ((allF_live q ne (hB _ _ q ne)).trans h1), mapO_f (rd_ok s hB k) q2 h2⟩
end

/-! ### all dicts are locked for good -/
def lk1 : GO → GO
  | .dic t kvs => .frd t kvs
  | o => o
def lkAt (G : Hg) (i : Nat) : Hg := match G[i]? with
  | some (.dic t kvs) => G.set i (.frd t kvs)
  | _ => G
theorem lkAt_get (G : Hg) (i j : Nat) : (lkAt G i)[j]? = if j = i then (G[j]?).map lk1 else G[j]? := by
  unfold lkAt
  by_cases e : j = i
  · subst e
    rw [if_pos rfl]
    cases q : G[j]? with
    | none => simp only [q, Option.map_none]
    | some o =>
      cases o with
      | dic t kvs =>
        simp only [Option.map_some, lk1]
        rw [List.getElem?_set_self (by
          rcases Nat.lt_or_ge j G.length with z | z
          · exact z
          · rw [List.getElem?_eq_none z] at q; cases q)]
      | _ => simp only [q, Option.map_some, lk1]
  · rw [if_neg e]
    cases q : G[i]? with
    | none => rfl
    | some o =>
      cases o with
      | dic t kvs => simp only; rw [List.getElem?_set_ne (Ne.symm e)]
      | _ => rfl
theorem lkAll_get (G : Hg) : ∀ (n j : Nat), ((List.range n).foldl lkAt G)[j]? = if j < n then (G[j]?).map lk1 else G[j]?
  | 0, j => by simp
  | n + 1, j => by
    rw [List.range_succ, List.foldl_append, List.foldl_cons, List.foldl_nil, lkAt_get, lkAll_get G n j]
    by_cases e : j = n
    · subst e
      simp
    · rw [if_neg e]
      by_cases c : j < n
      · rw [if_pos c, if_pos (by omega)]
      · rw [if_neg c, if_neg (by omega)]
theorem lkAll_eq (G : Hg) : (List.range G.length).foldl lkAt G = G.map lk1 := by
  apply List.ext_getElem?
  intro j
  rw [lkAll_get, List.getElem?_map]
  by_cases c : j < G.length
  · rw [if_pos c]
  · rw [if_neg c, List.getElem?_eq_none (by omega)]
    rfl
def lockThen : List Addr → Hp → (Hp → Prop) → Prop
  | [], H, Q => Q H
  | a :: as, H, Q => ∃ u, H a = some u ∧ Mut (some u) ∧ ∀ od, lockThen as (upd H a (.frz od u)) Q
theorem Inv.lockThen {X : Cx} {pins : List (Addr × Obj)} {σ : L2.St} {s : Shared} {Q : Hp → Prop} : ∀ {as : List Addr} {H : Hp}, L2.Inv X pins σ H s → Gh.lockThen as H Q → ∃ H', L2.Inv X pins σ H' s ∧ Q H'
  | [], H, I, h => ⟨H, I, h⟩
  | a :: as, H, I, ⟨u, h1, h2, h3⟩ => by
    obtain ⟨od, I1⟩ := I.lock h1 h2
    exact Inv.lockThen I1 (h3 od)
theorem pss_lockEnd {X : Cx} {ss : List Stmt} {t : TS} (h : PSs X ss t) : PSs X ss (fun D σ H => t { D with rt := fun v H' => ∃ as, lockThen as H' (D.rt v) } σ H) := ⟨fun pins s σ H D I hw => by
  refine thn (h.run pins s σ H _ I hw) fun f s1 q => ?_
  cases f with
  | next => exact q
  | brk => exact q
  | cont => exact q
  | ret v =>
    obtain ⟨x, σ', H', I2, r, as, q⟩ := q
    obtain ⟨H2, I3, q2⟩ := Inv.lockThen I2 q
    exact ⟨x, σ', H2, I3, r, q2⟩⟩
section
variable {C : GC} {F H : Hp} {ι : Nat → Addr} {G : Hg}
theorem Sim.lk {i : Nat} {t : Bool} {kvs : List (D × W)} (s : Sim C F H ι G) (hi : G[i]? = some (.dic t kvs)) : ∃ u, H (ι i) = some u ∧ Mut (some u) ∧ ∀ od, Sim C F (upd H (ι i) (.frz od u)) ι (G.set i (.frd t kvs)) := by
  obtain ⟨_, _, r⟩ := s.live i _ hi (fun z => by cases z)
  cases t with
  | false =>
    obtain ⟨es, h1, h2⟩ := r
    exact ⟨_, h1, trivial, fun od => s.write (g := .frd false kvs) hi (fun z => by cases z) ⟨od, es, upd_same, h2⟩⟩
  | true =>
    obtain ⟨es, h1, h2⟩ := r
    exact ⟨_, h1, trivial, fun od => s.write (g := .frd true kvs) hi (fun z => by cases z) ⟨od, es, upd_same, h2⟩⟩
theorem filterMap_same {α β : Type} {f g : α → Option β} : ∀ {l : List α}, (∀ a ∈ l, f a = g a) → l.filterMap f = l.filterMap g
  | [], _ => rfl
  | a :: l, h => by
    rw [List.filterMap_cons, List.filterMap_cons, h a List.mem_cons_self, filterMap_same fun b hb => h b (List.mem_cons_of_mem _ hb)]
def lkAdr (ι : Nat → Addr) (G : Hg) (j : Nat) : Option Addr := match G[j]? with
  | some (.dic _ _) => some (ι j)
  | _ => none
theorem Sim.lkAll {Q : Hp → Prop} : ∀ (is : List Nat) {H : Hp} {G : Hg}, is.Nodup → Sim C F H ι G → (∀ H', Sim C F H' ι (is.foldl lkAt G) → Q H') → lockThen (is.filterMap (lkAdr ι G)) H Q
  | [], H, G, _, s, h => h H s
  | i :: is, H, G, hn, s, h => by
    rw [List.foldl_cons] at h
    obtain ⟨hi, hn'⟩ := List.nodup_cons.mp hn
    cases q : G[i]? with
    | none =>
      have e : lkAt G i = G := by unfold lkAt; rw [q]
      rw [e] at h
      rw [List.filterMap_cons, show lkAdr ι G i = none by unfold lkAdr; rw [q]]
      exact Sim.lkAll is hn' s h
    | some o =>
      cases o with
      | dic t kvs =>
        have e : lkAt G i = G.set i (.frd t kvs) := by unfold lkAt; rw [q]
        rw [e] at h
        obtain ⟨u, h1, h2, h3⟩ := s.lk q
        rw [List.filterMap_cons, show lkAdr ι G i = some (ι i) by unfold lkAdr; rw [q]]
        refine ⟨u, h1, h2, fun od => ?_⟩
        have same : is.filterMap (lkAdr ι G) = is.filterMap (lkAdr ι (G.set i (.frd t kvs))) := by
          refine filterMap_same fun j hj => ?_
          unfold lkAdr
          rw [List.getElem?_set_ne (fun z => hi (by rw [z]; exact hj))]
        rw [same]
        exact Sim.lkAll is hn' (h3 od) h
      | _ =>
        have e : lkAt G i = G := by unfold lkAt; rw [q]
        rw [e] at h
        rw [List.filterMap_cons, show lkAdr ι G i = none by unfold lkAdr; rw [q]]
        exact Sim.lkAll is hn' s h
end

/-- what a pure function promises -/
def PPost (M : Md) (F H : Hp) (r : PRes) (Q : VK) (E : XK) : Prop := match r with
  | .stuck => False
  | .exc e => ∀ cls d F' H', Same F F' → Same F' H' → Same H H' → (∀ b o, F' b = some o → F b = some o ∨ H b = none) → XR ⟨M, fun _ => none, fun _ => none, fun _ _ _ _ => False⟩ F' H' e cls d → E cls d H'
  | .ok d => ∀ v F' H', Same F F' → Same F' H' → Same H H' → (∀ b o, F' b = some o → F b = some o ∨ H b = none) → Rp M F' d v → Q v H'
def spP (M : Md) (np : Nat) (f : List D → PRes) : Sp := fun vs H Q E => ∃ F ds, ds.length = np ∧ Same F H ∧ RpL M F ds vs ∧ PPost M F H (f ds) Q E
def envP (N : Nat) (ds : List D) : GEnv := ds.map (fun d => some (.d d)) ++ List.replicate (N - ds.length) none
def runP (N : Nat) (g : GS) : List D → PRes := fun ds => match g (envP N ds) [] with
  | .exc e _ _ => .exc e
  | .nx _ _ => .ok .non
  | .ret w G => if G.any GO.isL then .stuck else (match rdW 6 w (G.map lk1) with
    | some d => .ok d
    | none => .stuck)
  | _ => .stuck
/-! .. and a function that may change ghost objects -/
mutual
def belowW (n : Nat) : W → Bool
  | .d _ => true
  | .ref i => decide (i < n)
  | .tup ws => belowL n ws
def belowL (n : Nat) : List W → Bool
  | [] => true
  | w :: ws => belowW n w && belowL n ws
end
def belowO (n : Nat) : GO → Bool
  | .lst ws => belowL n ws
  | .dic _ kvs => kvs.all fun p => belowW n p.2
  | .lkd _ kvs => kvs.all fun p => belowW n p.2
  | .frd _ kvs => kvs.all fun p => belowW n p.2
  | .ins _ fs => fs.all fun p => belowW n p.2
  | .dead => true
section
variable {M : Md} {F : Hp} {ι : Nat → Addr} {n n' : Nat}
mutual
theorem below_ok : ∀ {w : W} {v : V}, belowW n w = true → RpW M F ι n' w v → RpW M F ι n w v
  | .d _, _, _, r => by simpa only [RpW] using r
  | .ref i, _, h, r => by
    simp only [belowW, decide_eq_true_eq] at h
    simp only [RpW] at r ⊢
    exact ⟨h, r.2⟩
  | .tup ws, _, h, r => by
    simp only [belowW] at h
    simp only [RpW] at r ⊢
    obtain ⟨a, xs, h1, h2, h3⟩ := r
    exact ⟨a, xs, h1, h2, below_okL h h3⟩
theorem below_okL : ∀ {w : List W} {v : List V}, belowL n w = true → RpWL M F ι n' w v → RpWL M F ι n w v
  | [], _, _, r => by simpa only [RpWL] using r
  | w :: ws, _, h, r => by
    simp only [belowL, Bool.and_eq_true] at h
    simp only [RpWL] at r ⊢
    obtain ⟨a, xs, h1, h2, h3⟩ := r
    exact ⟨a, xs, h1, below_ok h.1 h2, below_okL h.2 h3⟩
end
theorem below_okK : ∀ {w : List (D × W)} {v : List (Key × V)}, (w.all fun p => belowW n p.2) = true → RpWK M F ι n' w v → RpWK M F ι n w v
  | [], _, _, r => by simpa only [RpWK] using r
  | (k, w) :: ws, _, h, r => by
    simp only [List.all_cons, Bool.and_eq_true] at h
    simp only [RpWK] at r ⊢
    obtain ⟨kk, a, xs, h1, h0, h2, h3⟩ := r
    exact ⟨kk, a, xs, h1, h0, below_ok h.1 h2, below_okK h.2 h3⟩
theorem below_okT : ∀ {w : List (D × W)} {v : List (NestedKey × Addr × V)}, (w.all fun p => belowW n p.2) = true → RpWT M F ι n' w v → RpWT M F ι n w v
  | [], _, _, r => by simpa only [RpWT] using r
  | (k, w) :: ws, _, h, r => by
    simp only [List.all_cons, Bool.and_eq_true] at h
    simp only [RpWT] at r ⊢
    obtain ⟨kk, kb, a, xs, h1, h0, h5, h2, h3⟩ := r
    exact ⟨kk, kb, a, xs, h1, h0, h5, below_ok h.1 h2, below_okT h.2 h3⟩
theorem below_okF : ∀ {w : List (Str × W)} {v : List (Str × V)}, (w.all fun p => belowW n p.2) = true → RpWF M F ι n' w v → RpWF M F ι n w v
  | [], _, _, r => by simpa only [RpWF] using r
  | (k, w) :: ws, _, h, r => by
    simp only [List.all_cons, Bool.and_eq_true] at h
    simp only [RpWF] at r ⊢
    obtain ⟨a, xs, h1, h2, h3⟩ := r
    exact ⟨a, xs, h1, below_ok h.1 h2, below_okF h.2 h3⟩
theorem below_okO {H : Hp} {a : Addr} : ∀ {o : GO}, belowO n o = true → RpO M F ι n' H a o → RpO M F ι n H a o
  | .lst ws, h, ⟨xs, h1, h2⟩ => ⟨xs, h1, below_okL h h2⟩
  | .dic false kvs, h, ⟨xs, h1, h2⟩ => ⟨xs, h1, below_okK h h2⟩
  | .dic true kvs, h, ⟨xs, h1, h2⟩ => ⟨xs, h1, below_okT h h2⟩
  | .lkd false kvs, h, ⟨od, xs, h1, h2⟩ => ⟨od, xs, h1, below_okK h h2⟩
  | .lkd true kvs, h, ⟨od, xs, h1, h2⟩ => ⟨od, xs, h1, below_okT h h2⟩
  | .frd false kvs, h, ⟨od, xs, h1, h2⟩ => ⟨od, xs, h1, below_okK h h2⟩
  | .frd true kvs, h, ⟨od, xs, h1, h2⟩ => ⟨od, xs, h1, below_okT h h2⟩
  | .ins c fs, h, ⟨Ca, dx, es, h0, hc, h1, h2⟩ => ⟨Ca, dx, es, h0, hc, h1, below_okF h h2⟩
  | .dead, _, _ => trivial
end
/-- the ghost objects of a def that are left behind are forgotten -/
def cutG (n : Nat) (G : Hg) : Option Hg := if (G.take n).all (belowO n) then some (G.take n) else none
theorem Sim.cut {C : GC} {F H : Hp} {ι : Nat → Addr} {G G' : Hg} {n : Nat} (s : Sim C F H ι G) (hn : n ≤ G.length) (h : cutG n G = some G') : Sim C F H ι G' ∧ G'.length = n := by
  unfold cutG at h
  by_cases c : (G.take n).all (belowO n) = true
  · rw [if_pos c] at h
    cases h
    have hl : (G.take n).length = n := by rw [List.length_take]; omega
    have at_ : ∀ i o, (G.take n)[i]? = some o → G[i]? = some o := fun i o q => by
      rw [List.getElem?_take] at q
      split at q
      · exact q
      · cases q
    refine ⟨⟨s.fh, s.bh, s.ff, s.new, fun i o hi ho => ?_, fun i j o u hi ho hj hu e => s.inj i j o u (at_ i o hi) ho (at_ j u hj) hu e⟩, hl⟩
    obtain ⟨a, b, r⟩ := s.live i o (at_ i o hi) ho
    refine ⟨a, b, ?_⟩
    rw [hl]
    exact below_okO (List.all_eq_true.mp c o (List.mem_of_getElem? hi)) r
  · rw [if_neg c] at h; cases h
def endS (n : Nat) (w : W) (G : Hg) : Res W := if belowW n w then (match cutG n G with
  | some G' => .ok w G'
  | none => .ok w G) else .ok w G
def endX (n : Nat) (e : Exc) (G : Hg) : Res W := match cutG n G with
  | some G' => .exc e G'
  | none => .exc e G
def envS (N : Nat) (ws : List W) : GEnv := ws.map some ++ List.replicate (N - ws.length) none
def runS (N : Nat) (g : GS) : List W → Hg → Res W := fun ws G => match g (envS N ws) G with
  | .exc e _ G' => endX G.length e G'
  | .nx _ G' => endS G.length (.d .non) G'
  | .ret w G' => endS G.length w G'
  | _ => .stuck
def SPost (C : GC) (F : Hp) (ι : Nat → Addr) (n : Nat) (r : Res W) (Q : VK) (E : XK) : Prop := match r with
  | .stuck => False
  | .exc e G' => ∀ cls d H', XOut C F ι n e G' cls d H' → E cls d H'
  | .ok w G' => ∀ v H', Out C F ι n w G' v H' → Q v H'
def wx0 : WX := fun _ _ _ _ => False
def spS (M : Md) (np : Nat) (f : List W → Hg → Res W) : Sp := fun vs H Q E => ∃ B F0 F ι G ws, ws.length = np ∧ Sim ⟨M, B, F0, wx0⟩ F H ι G ∧ RpWL M F ι G.length ws vs ∧ SPost ⟨M, B, F0, wx0⟩ F ι G.length (f ws G) Q E
theorem Sim.wx {m : Md} {B F0 : Hp} {wx wx' : WX} {F H : Hp} {ι : Nat → Addr} {G : Hg} (s : Sim ⟨m, B, F0, wx⟩ F H ι G) : Sim ⟨m, B, F0, wx'⟩ F H ι G := ⟨s.fh, s.bh, s.ff, s.new, s.live, s.inj⟩
theorem Out.wx {m : Md} {B F0 : Hp} {wx wx' : WX} {F : Hp} {ι : Nat → Addr} {n : Nat} {w : W} {G' : Hg} {v : V} {H' : Hp} (h : Out ⟨m, B, F0, wx⟩ F ι n w G' v H') : Out ⟨m, B, F0, wx'⟩ F ι n w G' v H' :=
  let ⟨F', ι', a, b, c⟩ := h; ⟨F', ι', a, b.wx, c⟩
theorem XOut.wx {m : Md} {B F0 : Hp} {wx wx' : WX} {F : Hp} {ι : Nat → Addr} {n : Nat} {w : Exc} {G' : Hg} {v : Value} {d : Option Addr} {H' : Hp} (h : XOut ⟨m, B, F0, wx⟩ F ι n w G' v d H') : XOut ⟨m, B, F0, wx'⟩ F ι n w G' v d H' :=
  let ⟨F', ι', a, b, c⟩ := h; ⟨F', ι', a, b.wx, c⟩

/-! ### a def's body gives its promise -/
section
variable {P : Program} {w : World} {K : PySem.W.Frag} {mg : Str → Option Value} {base : Heap}
theorem renv_start {M : Md} {F : Hp} {ι : Nat → Addr} {n : Nat} {N : List Str} {ws : List W} {vs : List V} (r : RpWL M F ι n ws vs) : REnv M F ι n (envS N.length ws) (L2.start N vs) := by
  have hl := r.length
  unfold envS L2.start
  rw [hl]
  refine ⟨by simp [hl], fun i w h => ?_⟩
  rcases Nat.lt_or_ge i ws.length with z | z
  · rw [List.getElem?_append_left (by simpa using z), List.getElem?_map] at h
    cases q : ws[i]? with
    | none => rw [q] at h; cases h
    | some w' =>
      rw [q] at h
      simp only [Option.map_some, Option.some.injEq] at h
      subst h
      obtain ⟨x, h1, h2⟩ := r.get q
      exact ⟨x, by rw [List.getElem?_append_left (by simpa [← hl] using z), List.getElem?_map, h1]; rfl, h2⟩
  · rw [List.getElem?_append_right (by simpa using z), List.getElem?_replicate] at h
    split at h <;> cases h
theorem endS_out {C : GC} {F0 F : Hp} {ι0 : Nat → Addr} {n : Nat} {w : W} {G : Hg} {v : V} {H : Hp} {Q : VK} {E : XK} (h : SPost C F0 ι0 n (endS n w G) Q E) (o : Out C F0 ι0 n w G v H) : Q v H := by
  obtain ⟨F', ι', e, s, r⟩ := o
  unfold endS at h
  by_cases b : belowW n w = true
  · rw [if_pos b] at h
    cases c : cutG n G with
    | none => rw [c] at h; exact h v H ⟨F', ι', e, s, r⟩
    | some G' =>
      rw [c] at h
      obtain ⟨s', hl⟩ := s.cut e.le c
      exact h v H ⟨F', ι', ⟨e.fr, e.io, by rw [hl]; exact Nat.le_refl _⟩, s', by rw [hl]; exact below_ok b r⟩
  · rw [if_neg b] at h
    exact h v H ⟨F', ι', e, s, r⟩
theorem endX_out {C : GC} {F0 F : Hp} {ι0 : Nat → Addr} {n : Nat} {x : Exc} {G : Hg} {cls : Value} {d : Option Addr} {H : Hp} {Q : VK} {E : XK} (h : SPost C F0 ι0 n (endX n x G) Q E) (o : XOut C F0 ι0 n x G cls d H) : E cls d H := by
  obtain ⟨F', ι', e, s, r⟩ := o
  unfold endX at h
  cases c : cutG n G with
  | none => rw [c] at h; exact h cls d H ⟨F', ι', e, s, r⟩
  | some G' =>
    rw [c] at h
    obtain ⟨s', hl⟩ := s.cut e.le c
    exact h cls d H ⟨F', ι', ⟨e.fr, e.io, by rw [hl]; exact Nat.le_refl _⟩, s', r⟩
/-- the context of a def's body -/
abbrev bodyX (P : Program) (w : World) (K : PySem.W.Frag) (mg : Str → Option Value) (base : Heap) (N : List Str) (qual : Str) (sc : Scope) (f : Addr) (cdv : Value) (A : Around) (outer : List Env) (s : Shared) (H : Hp) (E : XK) : Cx := cxOf (L2.CX P w) P w K mg base N qual sc f cdv A outer s H E
abbrev Body (P : Program) (w : World) (K : PySem.W.Frag) (mg : Str → Option Value) (base : Heap) (N : List Str) (qual : Str) (st : Stmt) (k : Nat) (f : Addr) (g : GS) : Prop :=
  ∀ (cdv : Value) (A : Around) (outer : List Env) (s : Shared) (H : Hp) (E : XK), RoomG k (bodyX P w K mg base N qual (defScope st) f cdv A outer s H E).A → GJSs (bodyX P w K mg base N qual (defScope st) f cdv A outer s H E) (defBody st) g
theorem fn_s {x qual : Str} {st : Stmt} {f : Addr} {fd : FuncData} {N ps : List Str} {k : Nat} {g : GS} {dvs : List V} {kws : List (Str × V)} (F : FunD K x qual (defArgs st) (defBody st) (defScope st) dvs kws f fd) (S : FnScope N ps (defScope st)) (hb : Body P w K mg base N qual st k f g) :
    FnG P w K mg base (L2.CX P w) (k + 1) f fd ps (spS ⟨K, mg, w⟩ ps.length (runS N.length g)) := by
  refine FunD.okG (CX := L2.CX P w) F S (fun vs H Q E ⟨B, F0, F, ι, G, ws, hl, s, r, h⟩ => by rw [← r.length, hl]) (fun cdv A outer s H vs Q E hr ⟨B, F0, F, ι, G, ws, hl, s', r, h⟩ => ?_)
  refine ⟨_, (hb cdv A outer s H E hr).run B F0 (fun cls d _ H => E cls d H) (takes_of rfl rfl rfl rfl), ?_⟩
  refine ⟨F, ι, envS N.length ws, G, s'.wx, renv_start r, ?_⟩
  unfold runS at h
  cases q : g (envS N.length ws) G with
  | stuck => rw [q] at h; exact h.elim
  | bk ρ' G' => rw [q] at h; exact h.elim
  | ct ρ' G' => rw [q] at h; exact h.elim
  | nx ρ' G' =>
    rw [q] at h
    rintro σ' H' ⟨F', ι', e, t, he⟩
    exact endS_out (F := F) h ⟨F', ι', e, t.wx, by simp only [RpW, Rp]⟩
  | ret u G' =>
    rw [q] at h
    exact fun v H' o => endS_out (F := F) h o.wx
  | exc x ρ' G' =>
    rw [q] at h
    exact fun cls d σ' H' F' ι' e t _ xr => endX_out (F := F) h ⟨F', ι', e, t.wx, xr⟩
theorem fn_p {x qual : Str} {st : Stmt} {f : Addr} {fd : FuncData} {N ps : List Str} {k : Nat} {g : GS} {dvs : List V} {kws : List (Str × V)} (F : FunD K x qual (defArgs st) (defBody st) (defScope st) dvs kws f fd) (S : FnScope N ps (defScope st)) (hb : Body P w K mg base N qual st k f g) :
    FnG P w K mg base (L2.CX P w) (k + 1) f fd ps (spP ⟨K, mg, w⟩ ps.length (runP N.length g)) := by
  refine FunD.okG (CX := L2.CX P w) F S (fun vs H Q E ⟨F, ds, hl, s, r, h⟩ => by rw [← (r.wl (ι := fun _ => 0) (n := 0)).length, List.length_map, hl]) (fun cdv A outer s H vs Q E hr ⟨F, ds, hl, sm, r, h⟩ => ?_)
  refine ⟨_, pss_lockEnd ((hb cdv A outer s H E hr).run H F (fun cls d _ H => E cls d H) (takes_of rfl rfl rfl rfl)), ?_⟩
  have r' : RpWL (⟨K, mg, w⟩ : Md) F (fun _ => 0) 0 (ds.map .d) vs := r.wl
  have sim : Sim ⟨⟨K, mg, w⟩, H, F, fun cls d _ H => E cls d H⟩ F H (fun _ => 0) [] := ⟨sm, Same.refl _, Same.refl _, fun b o q => .inl q, fun i o hi => by simp at hi, fun i j o u hi => by simp at hi⟩
  have ee : envP N.length ds = envS N.length (ds.map .d) := by unfold envP envS; simp [List.map_map]
  refine ⟨F, fun _ => 0, envP N.length ds, [], sim, by rw [ee]; exact renv_start r', ?_⟩
  unfold runP at h
  cases q : g (envP N.length ds) [] with
  | stuck => rw [q] at h; exact h.elim
  | bk ρ' G' => rw [q] at h; exact h.elim
  | ct ρ' G' => rw [q] at h; exact h.elim
  | nx ρ' G' =>
    rw [q] at h
    rintro σ' H' ⟨F', ι', e, t, he⟩
    exact h .non F' H' e.fr t.fh t.bh (fun b o q => t.new b o q) rpN
  | ret u G' =>
    rw [q] at h
    rintro v H' ⟨F', ι', e, t, rr⟩
    simp only at h
    by_cases hL : G'.any GO.isL = true
    · rw [if_pos hL] at h; exact h.elim
    · rw [if_neg hL] at h
      cases z : rdW 6 u (G'.map lk1) with
      | none => rw [z] at h; exact h.elim
      | some d =>
        rw [z] at h
        refine ⟨_, t.lkAll (List.range G'.length) List.nodup_range fun H2 t2 => ?_⟩
        rw [lkAll_eq] at t2
        have hB : ∀ i o, (G'.map lk1)[i]? = some o → o ≠ .dead → H (ι' i) = none := fun i o hi ho => by
          rw [List.getElem?_map] at hi
          cases q2 : G'[i]? with
          | none => rw [q2] at hi; cases hi
          | some o' =>
            rw [q2] at hi
            cases hi
            refine (t.live i o' q2 (fun z => ho (by rw [z]; rfl))).2.1.1 ?_
            cases hl : o'.isL with
            | false => rfl
            | true => exact absurd (List.any_eq_true.mpr ⟨o', List.mem_of_getElem? q2, hl⟩) hL
        have rr2 : RpW ⟨K, mg, w⟩ F' ι' (G'.map lk1).length u v := by rw [List.length_map]; exact rr
        exact h v _ H2 (e.fr.trans (allF_old t2)) (allF_sub t2) t2.bh (fun b o q => allF_new t2 b o q) (rd_ok t2 hB 6 u d v z rr2)
  | exc x ρ' G' =>
    rw [q] at h
    rintro cls d σ' H' F' ι' e t _ xr
    exact h cls d F' H' e.fr t.fh t.bh (fun b o q => t.new b o q) xr
end

/-! ### calls -/
structure CalX (P : Program) (w : World) (K : PySem.W.Frag) (mg : Str → Option Value) (base : Heap) (k : Nat) (x : Str) (sp : Sp) : Prop where
  ex : ∃ (f : Addr) (fd : FuncData) (ps : List Str), FnG P w K mg base (L2.CX P w) k f fd ps sp ∧ mg x = some (.ref f) ∧ PySem.W.keepIn K (.ref f) = true ∧ Binds K fd ps []
def flat : D → Bool
  | .non => true
  | .bl _ => true
  | .int _ => true
  | .str _ => true
  | _ => false
theorem flat_rp {M : Md} {F F' : Hp} {d : D} {v : V} (h : flat d = true) (r : Rp M F d v) : Rp M F' d v := by
  cases d with
  | non => simpa only [Rp] using r
  | bl b => simpa only [Rp] using r
  | int b => simpa only [Rp] using r
  | str b => simpa only [Rp] using r
  | _ => cases h
def gFnP (np : Nat) (f : List D → PRes) (a : GEs) : GE := fun ρ G => (a ρ G).bind fun ws G1 => if ws.length = np then (match allD ws with
    | some ds => (match f ds with
      | .stuck => .stuck
      | .exc e => .exc e G1
      | .ok d => .ok (.d d) G1)
    | none => match mapO (fun w => snap w G1) ws with
      | some ds => (match f ds with
        | .ok d => if flat d then .ok (.d d) G1 else .stuck
        | _ => .stuck)
      | none => .stuck) else .stuck
def gFnS (np : Nat) (f : List W → Hg → Res W) (a : GEs) : GE := fun ρ G => (a ρ G).bind fun ws G1 => if ws.length = np then f ws G1 else .stuck
section
variable {X : Cx} {k j : Nat} {x : Str} {p pos : Pos} {e : Expr} {es : List Expr} {gs : GEs}
theorem XOut.of_pure {C : GC} {F H : Hp} {ι : Nat → Addr} {G : Hg} {x : Exc} {cls : Value} {d : Option Addr} {F' H' : Hp} (s : Sim C F H ι G) (a : Same F F') (b : Same F' H') (c : Same H H') (n : ∀ b o, F' b = some o → F b = some o ∨ H b = none) : Sim C F' H' ι G := by
  refine ⟨b, s.bh.trans c, s.ff.trans a, fun q o h => ?_, fun i o hi ho => ?_, s.inj⟩
  · rcases n q o h with z | z
    · exact s.new q o z
    · exact .inr (s.freeB z)
  · obtain ⟨h1, h2, h3⟩ := s.live i o hi ho
    obtain ⟨u, hu⟩ := h3.some ho
    refine ⟨?_, h2, h3.mono ⟨a, fun _ _ => rfl, Nat.le_refl _⟩ fun o q => c _ _ q⟩
    cases q : F' (ι i) with
    | none => rfl
    | some o' =>
      rcases n _ _ q with z | z
      · rw [h1] at z; cases z
      · rw [hu] at z; cases z
theorem gTE_fnP {np : Nat} {f : List D → PRes} {B F0 : Hp} {wx : WX} {σ : L2.St} {H : Hp} {Q : VK} (h : gTE (gc X B F0 wx) (gFnP np f gs) σ H Q) :
    gTA (gc X B F0 wx) gs σ H fun vs H1 => spP (md X) np f vs H1 Q fun cls d H' => wx cls d σ H' := by
  obtain ⟨F, ι, ρ, G, s, he, hp⟩ := h
  refine ⟨F, ι, ρ, G, s, he, (PostL.fst hp).imp fun vs H1 ⟨F1, ι1, ws, G1, e1, s1, r1, p1⟩ => ?_⟩
  by_cases hnp : ws.length = np
  · rw [if_pos hnp] at p1
    cases q : allD ws with
    | some ds =>
      rw [q] at p1
      simp only at p1
      have rl := allD_rp q r1
      refine ⟨F1, ds, ?_, s1.fh, rl, ?_⟩
      · rw [← hnp, r1.length, ← (rl.wl (ι := ι1) (n := 0)).length, List.length_map]
      · cases q2 : f ds with
        | stuck => rw [q2] at p1; exact p1
        | exc x =>
          rw [q2] at p1
          exact fun cls d F' H' a b c n xr => p1 cls d H' ⟨F', ι1, ⟨a, fun _ _ => rfl, Nat.le_refl _⟩, XOut.of_pure (x := x) (cls := cls) (d := d) s1 a b c n, xr⟩
        | ok d =>
          rw [q2] at p1
          exact fun v F' H' a b c n rr => p1 v H' ⟨F', ι1, ⟨a, fun _ _ => rfl, Nat.le_refl _⟩, XOut.of_pure (x := ⟨"", []⟩) (cls := .none) (d := none) s1 a b c n, by simpa only [RpW] using rr⟩
    | none =>
      rw [q] at p1
      simp only at p1
      cases q2 : mapO (fun w => snap w G1) ws with
      | none => rw [q2] at p1; exact p1.elim
      | some ds =>
        rw [q2] at p1
        simp only at p1
        have rl : RpL (md X) H1 ds vs := mapO_l (fun w d v h r => s1.snap h r) q2 r1
        refine ⟨H1, ds, ?_, Same.refl _, rl, ?_⟩
        · rw [← hnp, r1.length, ← (rl.wl (ι := ι1) (n := 0)).length, List.length_map]
        · cases q3 : f ds with
          | stuck => rw [q3] at p1; exact p1
          | exc x => rw [q3] at p1; exact p1.elim
          | ok d =>
            rw [q3] at p1
            simp only at p1
            cases q4 : flat d with
            | false => rw [q4] at p1; exact p1.elim
            | true =>
              rw [q4, if_pos rfl] at p1
              refine fun v F' H' a b c n rr => p1 v H' ⟨F1, ι1, .refl, ?_, by simp only [RpW]; exact flat_rp q4 rr⟩
              exact ⟨s1.fh.trans c, s1.bh.trans c, s1.ff, s1.new, fun i o hi ho => let ⟨h1, h2, h3⟩ := s1.live i o hi ho; ⟨h1, h2, h3.mono .refl fun o q => c _ _ q⟩, s1.inj⟩
  · rw [if_neg hnp] at p1; exact p1.elim
theorem gTE_fnS {np : Nat} {f : List W → Hg → Res W} {B F0 : Hp} {wx : WX} {σ : L2.St} {H : Hp} {Q : VK} (h : gTE (gc X B F0 wx) (gFnS np f gs) σ H Q) :
    gTA (gc X B F0 wx) gs σ H fun vs H1 => spS (md X) np f vs H1 Q fun cls d H' => wx cls d σ H' := by
  obtain ⟨F, ι, ρ, G, s, he, hp⟩ := h
  refine ⟨F, ι, ρ, G, s, he, (PostL.fst hp).imp fun vs H1 ⟨F1, ι1, ws, G1, e1, s1, r1, p1⟩ => ?_⟩
  by_cases hnp : ws.length = np
  · rw [if_pos hnp] at p1
    refine ⟨B, F0, F1, ι1, G1, ws, hnp, s1.wx, r1, ?_⟩
    cases q : f ws G1 with
    | stuck => rw [q] at p1; exact p1
    | exc x G' => rw [q] at p1; exact fun cls d H' o => p1 cls d H' o.wx
    | ok w G' => rw [q] at p1; exact fun v H' o => p1 v H' o.wx
  · rw [if_neg hnp] at p1; exact p1.elim
theorem ge_fnP {np : Nat} {f : List D → PRes} (c : CalX X.prog X.w X.K X.mg X.base k x (spP (md X) np f)) (hr : RoomG j X.A) (hk : k ≤ j) (ha : GJA X (e :: es) gs) (hg : Gl X x := by rfl)
    (hdb : (x == ("__debug__" : Str)) = false := by decide) (he : starEach (e :: es) X.env = (false, eval e X.env) :: starEach es X.env := by rfl) (hpl : (backTo pos (starEach es X.env)).any (·.1) = false := by rfl) :
    GJE X (.Call (.Name x p) (e :: es) [] pos) (gFnP np f gs) := ⟨fun B F0 wx tk => by
  obtain ⟨fa, fd, ps, F, hm, kp, b⟩ := c.ex
  exact PE.imp (pe_callG F (hr.mono hk) hg hm kp b (fun σ => passAt tk σ) (ha.run B F0 wx tk) hdb he hpl) fun σ H Q h => gTE_fnP h⟩
theorem ge_fnS {np : Nat} {f : List W → Hg → Res W} (c : CalX X.prog X.w X.K X.mg X.base k x (spS (md X) np f)) (hr : RoomG j X.A) (hk : k ≤ j) (ha : GJA X (e :: es) gs) (hg : Gl X x := by rfl)
    (hdb : (x == ("__debug__" : Str)) = false := by decide) (he : starEach (e :: es) X.env = (false, eval e X.env) :: starEach es X.env := by rfl) (hpl : (backTo pos (starEach es X.env)).any (·.1) = false := by rfl) :
    GJE X (.Call (.Name x p) (e :: es) [] pos) (gFnS np f gs) := ⟨fun B F0 wx tk => by
  obtain ⟨fa, fd, ps, F, hm, kp, b⟩ := c.ex
  exact PE.imp (pe_callG F (hr.mono hk) hg hm kp b (fun σ => passAt tk σ) (ha.run B F0 wx tk) hdb he hpl) fun σ H Q h => gTE_fnS h⟩
end
end Gh

set_option Elab.async false
set_option linter.all false
set_option maxRecDepth 100000
set_option maxHeartbeats 4000000
namespace Gh
open PySem PySem.Spec PyProof.Rows L2

/-! ### equality of values -/
mutual
def sameD : D → D → Bool
  | .non, .non => true
  | .bl a, .bl b => a == b
  | .int a, .int b => decide (a = b)
  | .str a, .str b => decide (a = b)
  | .tup a, .tup b => sameL a b
  | .lst a, .lst b => sameL a b
  | .dic t a, .dic u b => t == u && sameK a b
  | .ins c a, .ins e b => decide (c = e) && sameF a b
  | _, _ => false
def sameL : List D → List D → Bool
  | [], [] => true
  | a :: r, b :: s => sameD a b && sameL r s
  | _, _ => false
def sameK : List (D × D) → List (D × D) → Bool
  | [], [] => true
  | (k, a) :: r, (l, b) :: s => sameD k l && (sameD a b && sameK r s)
  | _, _ => false
def sameF : List (Str × D) → List (Str × D) → Bool
  | [], [] => true
  | (k, a) :: r, (l, b) :: s => decide (k = l) && (sameD a b && sameF r s)
  | _, _ => false
end
mutual
theorem sameD_eq : ∀ {a b : D}, sameD a b = true → a = b
  | .non, b, h => by cases b <;> simp_all [sameD]
  | .bl a, b, h => by cases b <;> simp_all [sameD]
  | .int a, b, h => by cases b <;> simp_all [sameD]
  | .str a, b, h => by cases b <;> simp_all [sameD]
  | .tup a, b, h => by
    cases b with
    | tup c => simp only [sameD] at h; rw [sameL_eq h]
    | _ => simp [sameD] at h
  | .lst a, b, h => by
    cases b with
    | lst c => simp only [sameD] at h; rw [sameL_eq h]
    | _ => simp [sameD] at h
  | .dic t a, b, h => by
    cases b with
    | dic u c => simp only [sameD, Bool.and_eq_true, beq_iff_eq] at h; rw [h.1, sameK_eq h.2]
    | _ => simp [sameD] at h
  | .ins c a, b, h => by
    cases b with
    | ins e f => simp only [sameD, Bool.and_eq_true, decide_eq_true_eq] at h; rw [h.1, sameF_eq h.2]
    | _ => simp [sameD] at h
theorem sameL_eq : ∀ {a b : List D}, sameL a b = true → a = b
  | [], b, h => by cases b <;> simp_all [sameL]
  | x :: r, b, h => by
    cases b with
    | nil => simp [sameL] at h
    | cons y s => simp only [sameL, Bool.and_eq_true] at h; rw [sameD_eq h.1, sameL_eq h.2]
theorem sameK_eq : ∀ {a b : List (D × D)}, sameK a b = true → a = b
  | [], b, h => by cases b <;> simp_all [sameK]
  | (k, x) :: r, b, h => by
    cases b with
    | nil => simp [sameK] at h
    | cons y s => obtain ⟨l, y⟩ := y; simp only [sameK, Bool.and_eq_true] at h; rw [sameD_eq h.1, sameD_eq h.2.1, sameK_eq h.2.2]
theorem sameF_eq : ∀ {a b : List (Str × D)}, sameF a b = true → a = b
  | [], b, h => by cases b <;> simp_all [sameF]
  | (k, x) :: r, b, h => by
    cases b with
    | nil => simp [sameF] at h
    | cons y s => obtain ⟨l, y⟩ := y; simp only [sameF, Bool.and_eq_true, decide_eq_true_eq] at h; rw [h.1, sameD_eq h.2.1, sameF_eq h.2.2]
end
mutual
theorem sameD_refl : ∀ a : D, sameD a a = true
  | .non => by simp [sameD]
  | .bl a => by simp [sameD]
  | .int a => by simp [sameD]
  | .str a => by simp [sameD]
  | .tup a => by simp [sameD, sameL_refl a]
  | .lst a => by simp [sameD, sameL_refl a]
  | .dic t a => by simp [sameD, sameK_refl a]
  | .ins c a => by simp [sameD, sameF_refl a]
theorem sameL_refl : ∀ a : List D, sameL a a = true
  | [] => by simp [sameL]
  | x :: r => by simp [sameL, sameD_refl x, sameL_refl r]
theorem sameK_refl : ∀ a : List (D × D), sameK a a = true
  | [] => by simp [sameK]
  | (k, x) :: r => by simp [sameK, sameD_refl k, sameD_refl x, sameK_refl r]
theorem sameF_refl : ∀ a : List (Str × D), sameF a a = true
  | [] => by simp [sameF]
  | (k, x) :: r => by simp [sameF, sameD_refl x, sameF_refl r]
end
mutual
def sameW : W → W → Bool
  | .d a, .d b => sameD a b
  | .ref i, .ref j => decide (i = j)
  | .tup a, .tup b => sameWL a b
  | _, _ => false
def sameWL : List W → List W → Bool
  | [], [] => true
  | a :: r, b :: s => sameW a b && sameWL r s
  | _, _ => false
end
mutual
theorem sameW_eq : ∀ {a b : W}, sameW a b = true → a = b
  | .d a, b, h => by
    cases b with
    | d c => simp only [sameW] at h; rw [sameD_eq h]
    | _ => simp [sameW] at h
  | .ref a, b, h => by cases b <;> simp_all [sameW]
  | .tup a, b, h => by
    cases b with
    | tup c => simp only [sameW] at h; rw [sameWL_eq h]
    | _ => simp [sameW] at h
theorem sameWL_eq : ∀ {a b : List W}, sameWL a b = true → a = b
  | [], b, h => by cases b <;> simp_all [sameWL]
  | x :: r, b, h => by
    cases b with
    | nil => simp [sameWL] at h
    | cons y s => simp only [sameWL, Bool.and_eq_true] at h; rw [sameW_eq h.1, sameWL_eq h.2]
end

/-! ### types, isinstance -/
inductive Ty where
  | non | bl | int | str | tup | lst | dic
  deriving DecidableEq
def Ty.name : Ty → String
  | .non => "NoneType" | .bl => "bool" | .int => "int" | .str => "str" | .tup => "tuple" | .lst => "list" | .dic => "dict"
def Ty.sub (a b : Ty) : Bool := decide (a = b) || (decide (a = .bl) && decide (b = .int))
theorem Ty.kit (a b : Ty) (h : b ≠ .non) : kitB a.name b.name = some (a.sub b) := by
  cases a <;> cases b <;> first | exact absurd rfl h | decide +kernel
def tyD : D → Option Ty
  | .non => some .non | .bl _ => some .bl | .int _ => some .int | .str _ => some .str | .tup _ => some .tup | .lst _ => some .lst | .dic false _ => some .dic | .dic true _ => none | .ins _ _ => none
def tyW : W → Hg → Option Ty
  | .d x, _ => tyD x
  | .tup _, _ => some .tup
  | .ref i, G => match G[i]? with
    | some (.lst _) => some .lst
    | some (.dic false _) => some .dic
    | some (.lkd false _) => some .dic
    | _ => none
theorem tyX_tup {K : PySem.W.Frag} {H : Hp} {a : Addr} {xs : List V} (h : SqT K H a xs) : TyX K H (.ref a) (.type "tuple") := by
  rcases h with (h | ⟨o, h⟩) | ⟨o, its, n, h1, h2, h3, h4, h5⟩
  · exact .base (.tup h)
  · exact .fTuple h
  · exact .kTuple h1 h2
theorem tyX_lst {K : PySem.W.Frag} {H : Hp} {a : Addr} {xs : List V} (h : SqL K H a xs) : TyX K H (.ref a) (.type "list") := by
  rcases h with (h | ⟨o, h⟩) | ⟨o, its, n, h1, h2, h3, h4, h5⟩
  · exact .base (.lst h)
  · exact .base (.frz h)
  · exact .kList h1 h2
theorem Sim.ty {C : GC} {F H : Hp} {ι : Nat → Addr} {G : Hg} {w : W} {t : Ty} {v : V} (s : Sim C F H ι G) (e : tyW w G = some t) (r : RpW C.m F ι G.length w v) : TyX C.m.K H v (.type t.name) := by
  cases w with
  | d x =>
    simp only [RpW] at r
    cases x with
    | non => cases e; simp only [Rp] at r; subst r; exact .base .non
    | bl b => cases e; simp only [Rp] at r; subst r; exact .base (.bl b)
    | int b => cases e; simp only [Rp] at r; subst r; exact .base (.int b)
    | str b => cases e; simp only [Rp] at r; subst r; exact .base (.str b)
    | tup b => cases e; simp only [Rp] at r; obtain ⟨a, xs, rfl, h, _⟩ := r; exact tyX_tup (Same.sqT s.fh h)
    | lst b => cases e; simp only [Rp] at r; obtain ⟨a, xs, rfl, h, _⟩ := r; exact tyX_lst (Same.sqL s.fh h)
    | dic t b =>
      cases t with
      | true => cases e
      | false =>
        cases e
        simp only [Rp] at r
        obtain ⟨a, od, es, rfl, h, _⟩ := r
        exact .fDict (s.fh _ _ h)
    | ins c b => cases e
  | tup ws => cases e; simp only [RpW] at r; obtain ⟨a, xs, rfl, h, _⟩ := r; exact tyX_tup (Same.sqT s.fh h)
  | ref i =>
    simp only [RpW] at r
    obtain ⟨hi, rfl⟩ := r
    simp only [tyW] at e
    cases q : G[i]? with
    | none => rw [q] at e; cases e
    | some o =>
      rw [q] at e
      cases o with
      | lst ws => cases e; obtain ⟨_, _, xs, h, _⟩ := s.live i _ q (fun z => by cases z); exact .base (.lst h)
      | frd t kvs => cases e
      | lkd t kvs =>
        cases t with
        | true => cases e
        | false => cases e; obtain ⟨_, _, od, es, h, _⟩ := s.live i _ q (fun z => by cases z); exact .fDict h
      | dic t kvs =>
        cases t with
        | false => cases e; obtain ⟨_, _, es, h, _⟩ := s.live i _ q (fun z => by cases z); exact .base (.dK h)
        | true => cases e
      | _ => cases e
def gIsi (ts : List Ty) (a : GE) : GE := fun ρ G => (a ρ G).bind fun w G1 => match tyW w G1 with
  | some t => .ok (.d (.bl (ts.any fun u => t.sub u))) G1
  | none => .stuck
theorem kitAny_ty {K : PySem.W.Frag} {t : Ty} : ∀ {ts : List Ty}, (∀ u ∈ ts, u ≠ .non) → PySem.W.kitAny K (.type t.name) (ts.map fun u => Value.type u.name) = some (ts.any fun u => t.sub u)
  | [], _ => rfl
  | u :: ts, h => by
    have h1 := kit_ty (K := K) (Ty.kit t u (h u List.mem_cons_self))
    have h2 := kitAny_ty (K := K) (t := t) (ts := ts) fun u hu => h u (List.mem_cons_of_mem _ hu)
    rw [List.map_cons, List.any_cons]
    refine kitAny_cons h1 (fun b => ?_) fun b => by rw [b]; rfl
    rw [b, Bool.false_or]
    exact h2
section
variable {X : Cx} {e : Expr} {ge : GE} {p p1 p2 pos : Pos}
theorem ge_isi (t : Ty) {x : Str} (hm : X.mg "isinstance" = none) (hx : X.mg x = none) (he : GJE X e ge) (hv : bootBuiltins x = some (.type t.name) := by decide +kernel) (ht : t ≠ .non := by decide) (hg : Gl X "isinstance" := by rfl) (hgx : Gl X x := by rfl) (hn : x ≠ "__name__" := by decide) (hd : (x == ("__debug__" : Str)) = false := by decide)
    (hs : starEach [e, .Name x p1] X.env = (false, eval e X.env) :: starEach [.Name x p1] X.env := by rfl) (hs2 : starEach [.Name x p1] X.env = (false, eval (.Name x p1) X.env) :: starEach [] X.env := by rfl) (hpl : (backTo pos (starEach [.Name x p1] X.env)).any (·.1) = false := by rfl) :
    GJE X (.Call (.Name "isinstance" p) [e, .Name x p1] [] pos) (gIsi [t] ge) := ⟨fun B F0 wx tk => by
  refine PE.imp (pe_callB call_isi hg hm (by decide +kernel) (pa_cons (he.run B F0 wx tk) (pa_cons (pe_bltn (v := .ty t.name) hgx hx hv rfl hn hd) pa_nil hs2) hs) (by decide) (by decide) hs hpl) fun σ H Q ⟨F, ι, ρ, G, s, hr, hp⟩ => ?_
  refine ⟨F, ι, ρ, G, s, hr, (Post.fst hp).imp fun v H1 ⟨F1, ι1, w, G1, e1, s1, r1, q1⟩ => ?_⟩
  cases q : tyW w G1 with
  | none => rw [q] at q1; exact q1.elim
  | some u =>
    rw [q] at q1
    refine ⟨v, .ty t.name, _, _, _, rfl, .ty _, s1.ty q r1, kit_ty (Ty.kit u t ht), q1 _ _ (out_flat s1 ?_)⟩
    rw [List.any_cons, List.any_nil, Bool.or_false]
    exact rpB⟩
/-- the classes of a display -/
inductive TyNames (X : Cx) : List Expr → List Ty → Prop where
  | nil : TyNames X [] []
  | cons {x : Str} {p : Pos} {es : List Expr} {t : Ty} {ts : List Ty} (hv : bootBuiltins x = some (.type t.name)) (hx : X.mg x = none) (hg : Gl X x) (hn : x ≠ "__name__") (hd : (x == ("__debug__" : Str)) = false) (ht : t ≠ .non)
      (hs : starEach (.Name x p :: es) X.env = (false, eval (.Name x p) X.env) :: starEach es X.env) (r : TyNames X es ts) : TyNames X (.Name x p :: es) (t :: ts)
theorem TyNames.pa : ∀ {es : List Expr} {ts : List Ty}, TyNames X es ts → PA X es (fun σ H Q => Q (ts.map fun t => V.ty t.name) H)
  | _, _, .nil => pa_nil
  | _, _, .cons hv hx hg hn hd ht hs r => PA.imp (pa_cons (pe_bltn (v := .ty _) hg hx hv rfl hn hd) r.pa hs) fun _ _ _ h => h
theorem TyNames.ok {es : List Expr} {ts : List Ty} (h : TyNames X es ts) : ∀ u ∈ ts, u ≠ .non := by
  induction h with
  | nil => intro u hu; cases hu
  | cons _ _ _ _ _ ht _ _ ih =>
    intro u hu
    rcases List.mem_cons.mp hu with z | z
    · rw [z]; exact ht
    · exact ih u z
theorem cls_pair : ∀ ts : List Ty, Paired ClsV (ts.map fun t => V.ty t.name) (ts.map fun t => Value.type t.name)
  | [] => .nil
  | t :: ts => .cons (.ty _) (cls_pair ts)
theorem ge_isiT (ts : List Ty) {es : List Expr} {k : Nat} (hm : X.mg "isinstance" = none) (he : GJE X e ge) (ht : TyNames X es ts) (hl : ts.length ≤ sizeLine := by decide) (hg : Gl X "isinstance" := by rfl)
    (hs : starEach [e, .Tuple es k p1] X.env = (false, eval e X.env) :: starEach [.Tuple es k p1] X.env := by rfl) (hs2 : starEach [.Tuple es k p1] X.env = (false, eval (.Tuple es k p1) X.env) :: starEach [] X.env := by rfl) (hpl : (backTo pos (starEach [.Tuple es k p1] X.env)).any (·.1) = false := by rfl) :
    GJE X (.Call (.Name "isinstance" p) [e, .Tuple es k p1] [] pos) (gIsi ts ge) := ⟨fun B F0 wx tk => by
  refine PE.imp (pe_callB call_isiT hg hm (by decide +kernel) (pa_cons (he.run B F0 wx tk) (pa_cons (pe_tup ht.pa) pa_nil hs2) hs) (by decide) (by decide) hs hpl) fun σ H Q ⟨F, ι, ρ, G, s, hr, hp⟩ => ?_
  refine ⟨F, ι, ρ, G, s, hr, (Post.fst hp).imp fun v H1 ⟨F1, ι1, w, G1, e1, s1, r1, q1⟩ => ?_⟩
  cases q : tyW w G1 with
  | none => rw [q] at q1; exact q1.elim
  | some u =>
    rw [q] at q1
    refine ⟨by rw [List.length_map]; exact hl, fun tp htp => ?_⟩
    have s2 := s1.drop (o := .tup (ts.map fun t => V.ty t.name)) htp
    exact ⟨v, tp, _, _, _, _, rfl, upd_same, cls_pair ts, s2.ty q r1, kitAny_ty ht.ok, q1 _ _ (out_flat s2 rpB)⟩⟩
end

/-! ### len, int, list, tuple -/
def strOf : W → Option Str
  | .d (.str x) => some x
  | _ => none
theorem strOf_eq {w : W} {x : Str} (h : strOf w = some x) : w = .d (.str x) := by
  cases w with
  | d y =>
    cases y with
    | str z => cases h; rfl
    | _ => cases h
  | _ => cases h
def fLen1 (w : W) (G : Hg) : Option (W × Hg) := match strOf w with
  | some x => if small x.length then some (.d (.int x.length), G) else none
  | none => (seqW w G).map fun p => (.d (.int p.2.length), G)
def fLen : List W → Hg → Option (W × Hg)
  | [w], G => fLen1 w G
  | _, _ => none
def rLenA (K : PySem.W.Frag) : List V → Hp → VK → Prop := fun xs H Q => (∃ p ys, xs = [.ref p] ∧ (SqL K H p ys ∨ SqT K H p ys) ∧ Q (.int ys.length) H) ∨ (∃ z, xs = [.str z] ∧ z.length ≤ sizeLine ∧ Q (.int z.length) H)
theorem RpWL.inv1 {M : Md} {F : Hp} {ι : Nat → Addr} {n : Nat} {w : W} {xs : List V} (r : RpWL M F ι n [w] xs) : ∃ x, xs = [x] ∧ RpW M F ι n w x := by
  simp only [RpWL] at r
  obtain ⟨x, _, rfl, h, rfl⟩ := r
  exact ⟨x, rfl, h⟩
theorem RpWL.inv2 {M : Md} {F : Hp} {ι : Nat → Addr} {n : Nat} {w u : W} {xs : List V} (r : RpWL M F ι n [w, u] xs) : ∃ x y, xs = [x, y] ∧ RpW M F ι n w x ∧ RpW M F ι n u y := by
  simp only [RpWL] at r
  obtain ⟨x, _, rfl, h, y, _, rfl, h2, rfl⟩ := r
  exact ⟨x, y, rfl, h, h2⟩
theorem sq_or {K : PySem.W.Frag} {H : Hp} {a : Addr} {xs : List V} {b : Bool} (h : if b = true then SqL K H a xs else SqT K H a xs) : SqL K H a xs ∨ SqT K H a xs := by
  cases b with
  | true => exact .inl (by simpa using h)
  | false => exact .inr (by simpa using h)
section
variable {X : Cx}
theorem call_lenA : CallR X (.builtin "len") (rLenA X.K) := call_len_seq.or call_len_str
theorem cg_len : CallG X (rLenA X.K) fLen := by
  intro C F H ι G ws xs z G' Q hK s r e hQ
  cases ws with
  | nil => cases e
  | cons w t =>
    cases t with
    | cons _ _ => cases e
    | nil =>
      obtain ⟨x, rfl, r1⟩ := r.inv1
      have e' : fLen1 w G = some (z, G') := e
      unfold fLen1 at e'
      cases q : strOf w with
      | some y =>
        rw [q] at e'
        have hw := strOf_eq q
        subst hw
        simp only [RpW, Rp] at r1
        subst r1
        cases c : small y.length with
        | false => simp only [c] at e'; cases e'
        | true => simp only [c, if_true] at e'; cases e'; exact .inr ⟨y, rfl, small_le c, hQ _ _ (out_flat s rpI)⟩
      | none =>
        rw [q] at e'
        obtain ⟨p, q2, e2⟩ := map_some (show (seqW w G).map (fun p => (W.d (.int p.2.length), G)) = some (z, G') from e')
        cases e2
        obtain ⟨b, us⟩ := p
        obtain ⟨a, ys, rfl, h1, h2⟩ := s.seq q2 r1
        rw [hK] at h1
        exact .inl ⟨a, ys, rfl, sq_or h1, hQ _ _ (out_flat s (by rw [h2.length]; exact rpI))⟩
def fInt : List W → Hg → Option (W × Hg)
  | [.d (.int i)], G => some (.d (.int i), G)
  | [.d (.bl b)], G => some (.d (.int (if b then 1 else 0)), G)
  | _, _ => none
theorem cg_int : CallG X (fun xs H Q => (∃ i, xs = [.int i] ∧ Q (.int i) H) ∨ ∃ k, xs = [.bl k] ∧ Q (.int (if k then 1 else 0)) H) fInt := by
  intro C F H ι G ws xs z G' Q hK s r e hQ
  unfold fInt at e
  split at e
  · cases e
    obtain ⟨x, rfl, r1⟩ := r.inv1
    simp only [RpW, Rp] at r1
    subst r1
    exact .inl ⟨_, rfl, hQ _ _ (out_flat s rpI)⟩
  · cases e
    obtain ⟨x, rfl, r1⟩ := r.inv1
    simp only [RpW, Rp] at r1
    subst r1
    exact .inr ⟨_, rfl, hQ _ _ (out_flat s rpI)⟩
  · cases e
/-- list(x): a new list that may be changed; a tree -/
def fListN : List W → Hg → Option (W × Hg)
  | [w], G => (seqW w G).map fun p => (.ref G.length, G ++ [.lst p.2])
  | _, _ => none
def fListT : List W → Hg → Option (W × Hg)
  | [w], G => (seqW w G).bind fun p => (mkLst p.2).map fun z => (z, G)
  | _, _ => none
theorem cg_listN : CallG X (fun xs H Q => ∃ p ys, xs = [.ref p] ∧ (SqL X.K H p ys ∨ SqT X.K H p ys) ∧ ∀ l, H l = none → Q (.ref l) (upd H l (.lst ys))) fListN := by
  intro C F H ι G ws xs z G' Q hK s r e hQ
  unfold fListN at e
  split at e
  · obtain ⟨p, q, e⟩ := map_some e
    cases e
    obtain ⟨x, rfl, r1⟩ := r.inv1
    obtain ⟨b, us⟩ := p
    obtain ⟨a, ys, rfl, h1, h2⟩ := s.seq q r1
    rw [hK] at h1
    exact ⟨a, ys, rfl, sq_or h1, fun l hl => hQ _ _ (out_new s h2 hl)⟩
  · cases e
theorem cg_listT : CallG X (fun xs H Q => ∃ p ys, xs = [.ref p] ∧ (SqL X.K H p ys ∨ SqT X.K H p ys) ∧ ∀ l, H l = none → Q (.ref l) (upd H l (.lst ys))) fListT := by
  intro C F H ι G ws xs z G' Q hK s r e hQ
  unfold fListT at e
  split at e
  · rename_i w
    cases q : seqW w G with
    | none => rw [q] at e; cases e
    | some p =>
      rw [q] at e
      obtain ⟨z', q2, e⟩ := map_some (show (mkLst p.2).map (fun z => (z, G)) = some (z, G') from e)
      cases e
      obtain ⟨ds, q3, rfl⟩ := map_some q2
      obtain ⟨x, rfl, r1⟩ := r.inv1
      obtain ⟨b, us⟩ := p
      obtain ⟨a, ys, rfl, h1, h2⟩ := s.seq q r1
      rw [hK] at h1
      exact ⟨a, ys, rfl, sq_or h1, fun l hl => hQ _ _ (out_lst s (allD_rp q3 h2) hl)⟩
  · cases e
def fTuple : List W → Hg → Option (W × Hg)
  | [w], G => match seqW w G with
    | some (true, ws) => some (mkTup ws, G)
    | some (false, _) => some (w, G)
    | none => none
  | _, _ => none
theorem cg_tuple : CallG X (fun xs H Q => ∃ p ys, xs = [.ref p] ∧ ((SqL X.K H p ys ∧ ∀ l, H l = none → Q (.ref l) (upd H l (.tup ys))) ∨ (SqT X.K H p ys ∧ Q (.ref p) H))) fTuple := by
  intro C F H ι G ws xs z G' Q hK s r e hQ
  unfold fTuple at e
  split at e
  · rename_i w
    cases q : seqW w G with
    | none => rw [q] at e; cases e
    | some p =>
      rw [q] at e
      obtain ⟨x, rfl, r1⟩ := r.inv1
      obtain ⟨b, us⟩ := p
      obtain ⟨a, ys, rfl, h1, h2⟩ := s.seq q r1
      rw [hK] at h1
      cases b with
      | true =>
        cases e
        exact ⟨a, ys, rfl, .inl ⟨h1, fun l hl => hQ _ _ (out_tup s h2 hl)⟩⟩
      | false =>
        cases e
        exact ⟨a, ys, rfl, .inr ⟨h1, hQ _ _ (out_w s r1)⟩⟩
  · cases e
/-! ### xs[i], xs[i:j] -/
def rIxA (K : PySem.W.Frag) : R2 := fun x y H Q => rIxL K x y H Q ∨ rIxT K x y H Q
theorem ix_A : IxR X (rIxA X.K) := ix_list.or ix_tup
def fIx (w u : W) (G : Hg) : Option (W × Hg) := match seqW w G, u with
  | some (_, ws), .d (.int i) => (atI ws i).map fun z => (z, G)
  | _, _ => none
theorem atI_rp {M : Md} {F : Hp} {ι : Nat → Addr} {n : Nat} {ws : List W} {xs : List V} {i : Int} {w : W} (r : RpWL M F ι n ws xs) (h : atI ws i = some w) : ∃ x, atI xs i = some x ∧ RpW M F ι n w x := by
  unfold atI at h ⊢
  rw [r.length] at h
  cases q : ixN xs.length i with
  | none => rw [q] at h; cases h
  | some j =>
    rw [q] at h
    exact r.get h
theorem og_ix : OpG X (rIxA X.K) fIx := by
  intro C F H ι G w u x y z G' Q hK s rw_ ru e hQ
  unfold fIx at e
  cases q : seqW w G with
  | none => rw [q] at e; cases e
  | some p =>
    obtain ⟨b, ws⟩ := p
    rw [q] at e
    cases u with
    | d k =>
      cases k with
      | int i =>
        obtain ⟨w', q2, e⟩ := map_some (show (atI ws i).map (fun z => (z, G)) = some (z, G') from e)
        cases e
        simp only [RpW, Rp] at ru
        subst ru
        obtain ⟨a, xs, rfl, h1, h2⟩ := s.seq q rw_
        rw [hK] at h1
        obtain ⟨v, h3, h4⟩ := atI_rp h2 q2
        rcases sq_or h1 with h | h
        · exact .inl ⟨a, xs, i, v, rfl, rfl, h, h3, hQ _ _ (out_w s h4)⟩
        · exact .inr ⟨a, xs, i, v, rfl, rfl, h, h3, hQ _ _ (out_w s h4)⟩
      | _ => cases e
    | _ => cases e
end
/-- a part of a slice -/
abbrev GO1 := GEnv → Hg → Res (Option Int)
structure GJO (X : Cx) (e : Option Expr) (g : GO1) : Prop where
  run : ∀ B F0 wx, Takes X wx → PO X e (fun σ H Q => ∃ F ι ρ G, Sim (gc X B F0 wx) F H ι G ∧ REnv (md X) F ι G.length ρ σ ∧ match g ρ G with
    | .stuck => False
    | .exc x G' => ∀ cls d H', XOut (gc X B F0 wx) F ι G.length x G' cls d H' → wx cls d σ H'
    | .ok o G' => ∀ H' F' ι', Ext F ι G.length F' ι' G'.length → Sim (gc X B F0 wx) F' H' ι' G' → Q o H')
def gNoP : GO1 := fun _ G => .ok none G
def gPt (e : GE) : GO1 := fun ρ G => (e ρ G).bind fun w G' => match w with
  | .d (.int i) => .ok (some i) G'
  | _ => .stuck
theorem PO.imp {X : Cx} {e : Option Expr} {t t' : TO} (h : PO X e t) (k : ∀ σ H Q, t' σ H Q → t σ H Q) : PO X e t' := by
  obtain ⟨h⟩ := h
  exact ⟨fun pins s σ H Q I q => h pins s σ H Q I (k _ _ _ q)⟩
section
variable {X : Cx} {e a : Expr} {lo hi : Option Expr} {ga ge : GE} {gl gh : GO1} {p2 pos : Pos}
theorem gp_none : GJO X none gNoP := ⟨fun B F0 wx tk => PO.imp po_none fun σ H Q ⟨F, ι, ρ, G, s, he, hp⟩ => hp H F ι .refl s⟩
theorem gp_some (h : GJE X e ge) : GJO X (some e) (gPt ge) := ⟨fun B F0 wx tk => PO.imp (po_some (h.run B F0 wx tk)) fun σ H Q ⟨F, ι, ρ, G, s, he, hp⟩ => by
  refine ⟨F, ι, ρ, G, s, he, ?_⟩
  unfold gPt at hp
  cases q : ge ρ G with
  | stuck => rw [q] at hp; exact hp
  | exc x G' => rw [q] at hp; exact hp
  | ok w G' =>
    rw [q] at hp
    rintro v H' ⟨F', ι', e1, s1, r1⟩
    cases w with
    | d k =>
      cases k with
      | int i =>
        simp only [RpW, Rp] at r1
        exact ⟨i, r1, hp H' F' ι' e1 s1⟩
      | _ => exact hp.elim
    | _ => exact hp.elim⟩
def cutW (ws : List W) (lo hi : Option Int) : List W := (ws.drop (HT.sIx ws.length 0 lo)).take (HT.sIx ws.length ws.length hi - HT.sIx ws.length 0 lo)
def sliceEnd (w : W) (l u : Option Int) : Hg → Res W := fun G => match seqW w G with
  | some (true, ws) => (match mkLst (cutW ws l u) with
    | some z => .ok z G
    | none => .stuck)
  | some (false, ws) => if HT.sIx ws.length 0 l = 0 ∧ HT.sIx ws.length ws.length u = ws.length then .ok w G else .ok (mkTup (cutW ws l u)) G
  | none => .stuck
def gSlice (a : GE) (l h : GO1) : GE := fun ρ G => (a ρ G).bind fun w G1 => (l ρ G1).bind fun lo G2 => (h ρ G2).bind fun hi G3 => sliceEnd w lo hi G3
def rSlAll (K : PySem.W.Frag) : V → Option Int → Option Int → Hp → VK → Prop := fun x lo hi H Q => rSlL K x lo hi H Q ∨ rSlA K x lo hi H Q
theorem sl_all : SlR X (rSlAll X.K) := sl_list.or sl_tupA
theorem RpWL.cut {M : Md} {F : Hp} {ι : Nat → Addr} {n : Nat} {ws : List W} {xs : List V} (r : RpWL M F ι n ws xs) (lo hi : Option Int) : RpWL M F ι n (cutW ws lo hi) (cutV xs lo hi) := by
  unfold cutW cutV
  rw [r.length]
  exact (r.drop _).take _
theorem ge_slice (ha : GJE X a ga) (hl : GJO X lo gl) (hh : GJO X hi gh) : GJE X (.Subscript a (.Slice lo hi none p2) pos) (gSlice ga gl gh) := ⟨fun B F0 wx tk => by
  refine PE.imp (pe_slice sl_all (ha.run B F0 wx tk) (hl.run B F0 wx tk) (hh.run B F0 wx tk)) fun σ H Q ⟨F, ι, ρ, G, s, he, hp⟩ => ?_
  refine ⟨F, ι, ρ, G, s, he, (Post.fst hp).imp fun x H1 ⟨F1, ι1, w, G1, e1, s1, r1, p1⟩ => ⟨F1, ι1, ρ, G1, s1, he.mono e1, ?_⟩⟩
  cases ql : gl ρ G1 with
  | stuck => rw [ql] at p1; exact p1
  | exc x G' => rw [ql] at p1; exact p1
  | ok l G2 =>
    rw [ql] at p1
    refine fun H2 F2 ι2 e2 s2 => ⟨F2, ι2, ρ, G2, s2, (he.mono e1).mono e2, ?_⟩
    have p2 := Post.base e2 p1
    simp only [Res.bind] at p2
    cases qh : gh ρ G2 with
    | stuck => rw [qh] at p2; exact p2
    | exc x G' => rw [qh] at p2; exact p2
    | ok u G3 =>
      rw [qh] at p2
      refine fun H3 F3 ι3 e3 s3 => ?_
      have p3 := Post.base e3 p2
      simp only [sliceEnd] at p3
      have r3 := (r1.mono e2).mono e3
      cases q : seqW w G3 with
      | none => rw [q] at p3; exact p3.elim
      | some p =>
        obtain ⟨b, ws⟩ := p
        rw [q] at p3
        obtain ⟨a', xs, rfl, h1, h2⟩ := s3.seq q r3
        cases b with
        | true =>
          simp only at p3
          rw [if_pos rfl] at h1
          cases q2 : mkLst (cutW ws l u) with
          | none => rw [q2] at p3; exact p3.elim
          | some z =>
            rw [q2] at p3
            obtain ⟨ds, q3, rfl⟩ := map_some q2
            exact .inl ⟨a', xs, rfl, h1, fun p hp => p3 _ _ (out_lst s3 (allD_rp q3 (h2.cut l u)) hp)⟩
        | false =>
          simp only at p3
          rw [if_neg Bool.false_ne_true] at h1
          rw [h2.length] at p3
          refine .inr ⟨a', xs, rfl, h1, fun c => ?_, fun c p hp => ?_⟩
          · rw [if_pos c] at p3
            exact p3 _ _ (out_w s3 r3)
          · rw [if_neg c] at p3
            exact p3 _ _ (out_tup s3 (h2.cut l u) hp)⟩
end
end Gh

set_option Elab.async false
set_option linter.all false
set_option maxRecDepth 100000
set_option maxHeartbeats 4000000
namespace Gh
open PySem PySem.Spec PyProof.Rows L2

/-! ### what is walked -/
theorem PI.imp {X : Cx} {tg e : Expr} {t t' : TI} (h : PI X tg e t) (k : ∀ σ H Q, t' σ H Q → t σ H Q) : PI X tg e t' := ⟨fun pins s σ H R I q => h.run pins s σ H R I (k _ _ _ q)⟩
/-- a list or tuple -/
theorem pi_seq {X : Cx} {tg l : Expr} {tl : TE} (hl : PE X l tl) : PI X tg l (fun σ H R => tl σ H fun x H1 => ∃ a, x = .ref a ∧ ((∃ xs, SqL X.K H1 a xs ∧ R (Itl X.K a) H1) ∨ (∃ xs, SqT X.K H1 a xs ∧ R (Itt X.K a) H1))) := by
  refine ⟨fun pins s σ H R I h => ?_⟩
  refine thn (hl.run pins s σ H _ I h) fun v s1 ⟨x, H1, I1, r1, q1⟩ => ?_
  obtain ⟨a, e, q⟩ := q1
  subst e
  cases r1
  rcases q with ⟨xs, hq, q⟩ | ⟨xs, hq, q⟩
  · obtain ⟨its, rv, p, hz⟩ := I1.list hq
    refine wpAny_pyIter_list p.isList ?_
    refine ⟨s1.heap.objs.size, [s1.heap.objs.size], _, _, H1, rfl, I1.kept (t' := s1.toks) fun b o e => Heap.get?_push_of_some _ e, turn_list a _, ⟨_, Heap.get?_push_size _ rfl, rfl, rfl⟩, fun b hb => ?_, q⟩
    have e : b = s1.heap.objs.size := by simpa using hb
    subst e
    exact I1.fpOk (Nat.le_refl _) (I1.hok.fresh (Nat.le_refl _))
  · obtain ⟨its, rv, p, hz⟩ := I1.tuple hq
    refine wpAny_pyIter_tuple (show s1.heap.IsTuple a its.toArray from p) ?_
    refine ⟨s1.heap.objs.size, [s1.heap.objs.size], _, _, H1, rfl, I1.kept (t' := s1.toks) fun b o e => Heap.get?_push_of_some _ e, turn_tuple a _, ⟨_, Heap.get?_push_size _ rfl, rfl, rfl⟩, fun b hb => ?_, q⟩
    have e : b = s1.heap.objs.size := by simpa using hb
    subst e
    exact I1.fpOk (Nat.le_refl _) (I1.hok.fresh (Nat.le_refl _))
/-- what must stay of w while its items ws are walked -/
def ckW : W → List W → Hg → Bool
  | .ref i, ws, G => match G[i]? with
    | some (.lst us) => sameWL us ws
    | _ => false
  | _, _, _ => true
/-- w's items stand at a as long as ck holds -/
theorem seq_later {C C2 : GC} {F H F2 H2 : Hp} {ι ι2 : Nat → Addr} {G G2 : Hg} {w : W} {b : Bool} {ws : List W} {v : V} (s : Sim C F H ι G) (e : seqW w G = some (b, ws)) (r : RpW C.m F ι G.length w v) :
    ∃ a, v = .ref a ∧ ∀ (C2 : GC) (F2 H2 : Hp) (ι2 : Nat → Addr) (G2 : Hg), C2.m = C.m → Ext F ι G.length F2 ι2 G2.length → Sim C2 F2 H2 ι2 G2 → ckW w ws G2 = true → ∃ xs, (if b = true then SqL C.m.K H2 a xs else SqT C.m.K H2 a xs) ∧ RpWL C.m F2 ι2 G2.length ws xs := by
  cases w with
  | ref i =>
    simp only [RpW] at r
    obtain ⟨hi, rfl⟩ := r
    refine ⟨_, rfl, fun C2 F2 H2 ι2 G2 hm ee s2 c => ?_⟩
    have eb : b = true := by
      simp only [seqW] at e
      split at e
      · cases e; rfl
      · cases e
    simp only [ckW] at c
    cases q : G2[i]? with
    | none => rw [q] at c; cases c
    | some o =>
      rw [q] at c
      cases o with
      | lst us =>
        have z := sameWL_eq c
        subst z
        obtain ⟨_, _, xs, h1, h2⟩ := s2.live i _ q (fun z => by cases z)
        rw [ee.io i hi] at h1
        rw [hm] at h2
        exact ⟨xs, by rw [eb, if_pos rfl]; exact .inl (.inl h1), h2⟩
      | _ => cases c
  | d x =>
    simp only [RpW] at r
    cases x with
    | lst ds =>
      cases e
      simp only [Rp] at r
      obtain ⟨a, xs, h1, h2, h3⟩ := r
      exact ⟨a, h1, fun C2 F2 H2 ι2 G2 hm ee s2 c => ⟨xs, by rw [if_pos rfl]; exact Same.sqL s2.fh (Same.sqL ee.fr h2), (h3.mono ee.fr).wl⟩⟩
    | tup ds =>
      cases e
      simp only [Rp] at r
      obtain ⟨a, xs, h1, h2, h3⟩ := r
      exact ⟨a, h1, fun C2 F2 H2 ι2 G2 hm ee s2 c => ⟨xs, by rw [if_neg Bool.false_ne_true]; exact Same.sqT s2.fh (Same.sqT ee.fr h2), (h3.mono ee.fr).wl⟩⟩
    | _ => cases e
  | tup us =>
    cases e
    simp only [RpW] at r
    obtain ⟨a, xs, h1, h2, h3⟩ := r
    exact ⟨a, h1, fun C2 F2 H2 ι2 G2 hm ee s2 c => ⟨xs, by rw [if_neg Bool.false_ne_true]; exact Same.sqT s2.fh (Same.sqT ee.fr h2), h3.mono ee⟩⟩
theorem ckW_now {w : W} {G : Hg} {b : Bool} {ws : List W} (e : seqW w G = some (b, ws)) : ckW w ws G = true := by
  cases w with
  | ref i =>
    simp only [seqW] at e
    simp only [ckW]
    cases q : G[i]? with
    | none => rw [q] at e; cases e
    | some o =>
      rw [q] at e
      cases o with
      | lst us =>
        cases e
        have : ∀ us : List W, sameWL us us = true := by
          intro us
          have hw : ∀ w : W, sameW w w = true := by
            intro w
            refine W.rec (motive_1 := fun w => sameW w w = true) (motive_2 := fun ws => sameWL ws ws = true) ?_ ?_ ?_ ?_ ?_ w
            · intro x; simp [sameW, sameD_refl]
            · intro i; simp [sameW]
            · intro ws h; simpa [sameW] using h
            · simp [sameWL]
            · intro a r h1 h2; simp [sameWL, h1, h2]
          induction us with
          | nil => simp [sameWL]
          | cons a r ih => simp [sameWL, hw a, ih]
        exact this ws
      | _ => cases e
  | _ => rfl
def gSeqI (a : GE) : GI := fun ρ G => (a ρ G).bind fun w G1 => match seqW w G1 with
  | some (_, ws) => .ok (ws, ckW w ws) G1
  | none => .stuck
section
variable {X : Cx} {tg l : Expr} {g : GE}
theorem PostI.fst {C : GC} {F : Hp} {ι : Nat → Addr} {n : Nat} {σ : L2.St} {r : Res W} {k : W → Hg → Res (List W × (Hg → Bool))} {R : It → Hp → Prop} (h : PostI C F ι n σ (r.bind k) R) :
    Post C F ι n σ r fun v H1 => ∃ F1 ι1 w G1, Ext F ι n F1 ι1 G1.length ∧ Sim C F1 H1 ι1 G1 ∧ RpW C.m F1 ι1 G1.length w v ∧ PostI C F1 ι1 G1.length σ (k w G1) R := by
  cases r with
  | stuck => exact h
  | exc x G' => exact h
  | ok w G' =>
    refine fun v H' ⟨F1, ι1, e, s, rr⟩ => ⟨F1, ι1, w, G', e, s, rr, ?_⟩
    have h : PostI C F ι n σ (k w G') R := h
    cases q : k w G' with
    | stuck => rw [q] at h; exact h
    | exc x G2 => rw [q] at h; exact fun cls d H2 o => h cls d H2 (o.base e)
    | ok p G2 =>
      rw [q] at h
      obtain ⟨ws, ck⟩ := p
      exact fun J H2 F2 ι2 e2 s2 it => h J H2 F2 ι2 (e.trans e2) s2 it
theorem gi_seq (h : GJE X l g) : GJI X tg l (gSeqI g) := ⟨fun B F0 wx tk => by
  refine PI.imp (pi_seq (h.run B F0 wx tk)) fun σ H R ⟨F, ι, ρ, G, s, he, hp⟩ => ?_
  refine ⟨F, ι, ρ, G, s, he, (PostI.fst hp).imp fun v H1 ⟨F1, ι1, w, G1, e1, s1, r1, p1⟩ => ?_⟩
  cases q : seqW w G1 with
  | none => rw [q] at p1; exact p1.elim
  | some p =>
    obtain ⟨b, ws⟩ := p
    rw [q] at p1
    obtain ⟨a, rfl, later⟩ := seq_later (C2 := gc X B F0 wx) (F2 := F1) (H2 := H1) (ι2 := ι1) (G2 := G1) s1 q r1
    obtain ⟨xs, h1, h2⟩ := later _ _ _ _ _ rfl .refl s1 (ckW_now q)
    refine ⟨a, rfl, ?_⟩
    cases b with
    | true =>
      rw [if_pos rfl] at h1
      refine .inl ⟨xs, h1, p1 _ H1 F1 ι1 .refl s1 fun C2 F2 H2 ι2 G2 hm _ ee s2 c => ?_⟩
      obtain ⟨ys, h3, h4⟩ := later C2 F2 H2 ι2 G2 hm ee s2 c
      rw [if_pos rfl] at h3
      refine ⟨fun i w hi => ?_, ⟨ys, h3, by rw [h4.length]; exact Nat.le_refl _⟩⟩
      obtain ⟨x, hx, rx⟩ := h4.get hi
      refine ⟨⟨ys, x, h3, hx⟩, fun y H3 ⟨eH, hy⟩ => ⟨F2, .refl, by rw [eH]; exact s2, ?_⟩⟩
      have z := hy ys h3
      rw [hx] at z
      cases z
      exact rx
    | false =>
      rw [if_neg Bool.false_ne_true] at h1
      refine .inr ⟨xs, h1, p1 _ H1 F1 ι1 .refl s1 fun C2 F2 H2 ι2 G2 hm _ ee s2 c => ?_⟩
      obtain ⟨ys, h3, h4⟩ := later C2 F2 H2 ι2 G2 hm ee s2 c
      rw [if_neg Bool.false_ne_true] at h3
      refine ⟨fun i w hi => ?_, ⟨ys, h3, by rw [h4.length]; exact Nat.le_refl _⟩⟩
      obtain ⟨x, hx, rx⟩ := h4.get hi
      refine ⟨⟨ys, x, h3, hx⟩, fun y H3 ⟨eH, hy⟩ => ⟨F2, .refl, by rw [eH]; exact s2, ?_⟩⟩
      have z := hy ys h3
      rw [hx] at z
      cases z
      exact rx⟩
end
def fit62 (i : Int) : Bool := decide (-(2 ^ 62) ≤ i) && decide (i < 2 ^ 62)
def rangeW (lo : Int) (n : Nat) : List W := (List.range n).map fun k => .d (.int (lo + (k : Nat)))
def gRng1 (a : GEs) : GI := fun ρ G => (a ρ G).bind fun ws G1 => match ws with
  | [.d (.int j)] => if fit62 j then .ok (rangeW 0 j.toNat, fun _ => true) G1 else .stuck
  | _ => .stuck
def gRng2 (a : GEs) : GI := fun ρ G => (a ρ G).bind fun ws G1 => match ws with
  | [.d (.int i), .d (.int j)] => if fit62 i && fit62 j then .ok (rangeW i (j - i).toNat, fun _ => true) G1 else .stuck
  | _ => .stuck
theorem rangeW_get {lo : Int} {n i : Nat} {w : W} (h : (rangeW lo n)[i]? = some w) : i < n ∧ w = .d (.int (lo + (i : Nat))) := by
  unfold rangeW at h
  rw [List.getElem?_map] at h
  rcases Nat.lt_or_ge i n with z | z
  · rw [List.getElem?_range z] at h
    cases h
    exact ⟨z, rfl⟩
  · rw [List.getElem?_eq_none (by simpa using z)] at h; cases h
theorem rangeW_len {lo : Int} {n : Nat} : (rangeW lo n).length = n := by simp [rangeW]
theorem itg_range {BB : Hp} {M : Md} {lo : Int} {n : Nat} {F : Hp} {ι : Nat → Addr} {m : Nat} : ItG M (Itr lo n) F ι m (rangeW lo n) (fun _ => true) BB := by
  intro C F2 H2 ι2 G2 hm _ ee s2 c
  refine ⟨fun i w hi => ?_, by rw [rangeW_len]; exact Nat.le_refl _⟩
  obtain ⟨h1, rfl⟩ := rangeW_get hi
  exact ⟨h1, fun x H3 ⟨e1, e2⟩ => ⟨F2, .refl, by rw [e1]; exact s2, by rw [e2]; simp only [RpW, Rp]⟩⟩
theorem PostL.fstI {C : GC} {F : Hp} {ι : Nat → Addr} {n : Nat} {σ : L2.St} {r : Res (List W)} {k : List W → Hg → Res (List W × (Hg → Bool))} {R : It → Hp → Prop} (h : PostI C F ι n σ (r.bind k) R) :
    PostL C F ι n σ r fun v H1 => ∃ F1 ι1 w G1, Ext F ι n F1 ι1 G1.length ∧ Sim C F1 H1 ι1 G1 ∧ RpWL C.m F1 ι1 G1.length w v ∧ PostI C F1 ι1 G1.length σ (k w G1) R := by
  cases r with
  | stuck => exact h
  | exc x G' => exact h
  | ok w G' =>
    refine fun v H' ⟨F1, ι1, e, s, rr⟩ => ⟨F1, ι1, w, G', e, s, rr, ?_⟩
    have h : PostI C F ι n σ (k w G') R := h
    cases q : k w G' with
    | stuck => rw [q] at h; exact h
    | exc x G2 => rw [q] at h; exact fun cls d H2 o => h cls d H2 (o.base e)
    | ok p G2 =>
      rw [q] at h
      obtain ⟨ws, ck⟩ := p
      exact fun J H2 F2 ι2 e2 s2 it => h J H2 F2 ι2 (e.trans e2) s2 it
section
variable {X : Cx} {tg : Expr} {a b : Expr} {gs : GEs} {p pos : Pos}
theorem gi_range1 (hm : X.mg "range" = none) (ha : GJA X [a] gs) (hg : Gl X "range" := by rfl) (hs : starEach [a] X.env = [(false, eval a X.env)] := by rfl) : GJI X tg (.Call (.Name "range" p) [a] [] pos) (gRng1 gs) := ⟨fun B F0 wx tk => by
  refine PI.imp (pi_range1 hg hm (ha.run B F0 wx tk) hs) fun σ H R ⟨F, ι, ρ, G, s, he, hp⟩ => ?_
  refine ⟨F, ι, ρ, G, s, he, (PostL.fstI hp).imp fun vs H1 ⟨F1, ι1, ws, G1, e1, s1, r1, p1⟩ => ?_⟩
  split at p1
  · rename_i j
    cases c : fit62 j with
    | false => rw [c] at p1; exact p1.elim
    | true =>
      rw [c, if_pos rfl] at p1
      unfold fit62 at c
      simp only [Bool.and_eq_true, decide_eq_true_eq] at c
      obtain ⟨x, rfl, r2⟩ := r1.inv1
      simp only [RpW, Rp] at r2
      subst r2
      exact ⟨j, rfl, c.1, c.2, p1 _ H1 F1 ι1 .refl s1 itg_range⟩
  · exact p1.elim⟩
theorem gi_range2 (hm : X.mg "range" = none) (ha : GJA X [a, b] gs) (hg : Gl X "range" := by rfl) (hs : starEach [a, b] X.env = [(false, eval a X.env), (false, eval b X.env)] := by rfl) (hs2 : starEach [b] X.env = [(false, eval b X.env)] := by rfl) : GJI X tg (.Call (.Name "range" p) [a, b] [] pos) (gRng2 gs) := ⟨fun B F0 wx tk => by
  refine PI.imp (pi_range2 hg hm (ha.run B F0 wx tk) hs hs2) fun σ H R ⟨F, ι, ρ, G, s, he, hp⟩ => ?_
  refine ⟨F, ι, ρ, G, s, he, (PostL.fstI hp).imp fun vs H1 ⟨F1, ι1, ws, G1, e1, s1, r1, p1⟩ => ?_⟩
  split at p1
  · rename_i i j
    cases c : (fit62 i && fit62 j) with
    | false => rw [c] at p1; exact p1.elim
    | true =>
      rw [c, if_pos rfl] at p1
      unfold fit62 at c
      simp only [Bool.and_eq_true, decide_eq_true_eq] at c
      obtain ⟨x, y, rfl, r2, r3⟩ := r1.inv2
      simp only [RpW, Rp] at r2 r3
      subst r2 r3
      exact ⟨i, j, rfl, ⟨c.1.1, c.1.2, c.2.1, c.2.2⟩, p1 _ H1 F1 ι1 .refl s1 itg_range⟩
  · exact p1.elim⟩
end
/-! enumerate(list): new pairs -/
def enumW : Nat → List W → List W
  | _, [] => []
  | i, w :: ws => mkTup [.d (.int (i : Nat)), w] :: enumW (i + 1) ws
theorem enumW_len : ∀ (i : Nat) (ws : List W), (enumW i ws).length = ws.length
  | _, [] => rfl
  | i, w :: ws => by simp [enumW, enumW_len (i + 1) ws]
theorem enumW_get : ∀ {k i : Nat} {ws : List W} {z : W}, (enumW k ws)[i]? = some z → ∃ w, ws[i]? = some w ∧ z = mkTup [.d (.int ((k + i : Nat) : Int)), w]
  | k, i, [], z, h => by simp [enumW] at h
  | k, 0, w :: ws, z, h => by simp [enumW] at h; exact ⟨w, rfl, by simpa using h.symm⟩
  | k, i + 1, w :: ws, z, h => by
    obtain ⟨w', h1, h2⟩ := enumW_get (k := k + 1) (i := i) (ws := ws) (by simpa [enumW] using h)
    exact ⟨w', by simpa using h1, by rw [h2]; congr 5; omega⟩
theorem yield_tup {C : GC} {F H : Hp} {ι : Nat → Addr} {G : Hg} {ws : List W} {xs : List V} {T : Addr} (s : Sim C F H ι G) (r : RpWL C.m F ι G.length ws xs) (h : H T = none) :
    ∃ F3, Ext F ι G.length F3 ι G.length ∧ Sim C F3 (upd H T (.tup xs)) ι G ∧ RpW C.m F3 ι G.length (mkTup ws) (.ref T) := by
  obtain ⟨s', e⟩ := s.lay (o := .tup xs) h
  refine ⟨_, e, s', ?_⟩
  unfold mkTup
  cases q : allD ws with
  | none =>
    simp only [RpW]
    exact ⟨T, xs, rfl, .inl (.inl upd_same), r.mono e⟩
  | some ds =>
    simp only [RpW, Rp]
    exact ⟨T, xs, rfl, .inl (.inl upd_same), (allD_rp q r).mono e.fr⟩
def gEnumI (a : GEs) : GI := fun ρ G => (a ρ G).bind fun ws G1 => match ws with
  | [w] => (match seqW w G1 with
    | some (true, us) => .ok (enumW 0 us, ckW w us) G1
    | _ => .stuck)
  | _ => .stuck
section
variable {X : Cx} {a b : Expr} {gs : GEs} {p pos tpos : Pos} {elts : List Expr} {kk : Nat}
theorem gi_enum (hm : X.mg "enumerate" = none) (ha : GJA X [a] gs) (hg : Gl X "enumerate" := by rfl) (hs : starEach [a] X.env = [(false, eval a X.env)] := by rfl) : GJI X (.Tuple elts kk tpos) (.Call (.Name "enumerate" p) [a] [] pos) (gEnumI gs) := ⟨fun B F0 wx tk => by
  refine PI.imp (pi_enum hg hm (ha.run B F0 wx tk) hs) fun σ H R ⟨F, ι, ρ, G, s, he, hp⟩ => ?_
  refine ⟨F, ι, ρ, G, s, he, (PostL.fstI hp).imp fun vs H1 ⟨F1, ι1, ws, G1, e1, s1, r1, p1⟩ => ?_⟩
  cases ws with
  | nil => exact p1.elim
  | cons w t =>
    cases t with
    | cons _ _ => exact p1.elim
    | nil =>
      obtain ⟨x, rfl, r2⟩ := r1.inv1
      simp only at p1
      cases q : seqW w G1 with
      | none => rw [q] at p1; exact p1.elim
      | some pr =>
        obtain ⟨bb, us⟩ := pr
        cases bb with
        | false => rw [q] at p1; exact p1.elim
        | true =>
          rw [q] at p1
          obtain ⟨l, rfl, later⟩ := seq_later (C2 := gc X B F0 wx) (F2 := F1) (H2 := H1) (ι2 := ι1) (G2 := G1) s1 q r2
          obtain ⟨xs, h1, h2⟩ := later _ _ _ _ _ rfl .refl s1 (ckW_now q)
          rw [if_pos rfl] at h1
          refine ⟨l, xs, rfl, h1, p1 _ H1 F1 ι1 .refl s1 fun C2 F2 H2 ι2 G2 hm _ ee s2 c => ?_⟩
          obtain ⟨ys, h3, h4⟩ := later C2 F2 H2 ι2 G2 hm ee s2 c
          rw [if_pos rfl] at h3
          refine ⟨fun i z hi => ?_, ⟨ys, h3, by rw [enumW_len, h4.length]; exact Nat.le_refl _⟩⟩
          obtain ⟨w', hw', rfl⟩ := enumW_get hi
          obtain ⟨y, hy, ry⟩ := h4.get hw'
          refine ⟨⟨ys, y, h3, hy⟩, fun v H3 ⟨T, y', ev, hT, eH, hall⟩ => ?_⟩
          have z := hall ys h3
          rw [hy] at z
          cases z
          subst ev eH
          rw [← hm]
          refine yield_tup (ws := [.d (.int ((0 + i : Nat) : Int)), w']) s2 ?_ hT
          rw [← hm] at ry
          simp only [RpWL, RpW, Rp, Nat.zero_add]
          exact ⟨_, _, rfl, rfl, _, _, rfl, ry, rfl⟩⟩
end

/-! ### list comprehensions -/
abbrev GTs := GT
structure GJTs (X : Cx) (e : List Expr) (g : GT) : Prop where
  run : ∀ B F0 wx, Takes X wx → PTs X e (gTT (gc X B F0 wx) g)
def gYes : GT := fun _ G => .ok true G
theorem PTs.imp {X : Cx} {e : List Expr} {t t' : TT} (h : PTs X e t) (k : ∀ σ H Q, t' σ H Q → t σ H Q) : PTs X e t' := ⟨fun pins s σ H Q I q => h.run pins s σ H Q I (k _ _ _ q)⟩
theorem gts_nil {X : Cx} : GJTs X [] gYes := ⟨fun B F0 wx tk => PTs.imp pts_nil fun σ H Q ⟨F, ι, ρ, G, s, he, hp⟩ => hp true H ⟨rfl, F, ι, .refl, s⟩⟩
theorem gts_one {X : Cx} {c : Expr} {g : GT} (h : GJT X c g) : GJTs X [c] g := ⟨fun B F0 wx tk => pts_one (h.run B F0 wx tk)⟩
def wipeG (ρ : GEnv) : List Nat → GEnv
  | [] => ρ
  | v :: vs => (wipeG ρ vs).set v none
theorem REnv.wipe {M : Md} {F : Hp} {ι : Nat → Addr} {n : Nat} {ρ : GEnv} {σ : L2.St} (h : REnv M F ι n ρ σ) : ∀ vs : List Nat, REnv M F ι n (wipeG ρ vs) (L2.wipe σ vs)
  | [] => h
  | v :: vs => by
    have ih := h.wipe vs
    refine ⟨by simp [wipeG, L2.wipe, ih.1], fun i w hi => ?_⟩
    unfold wipeG at hi
    unfold L2.wipe
    by_cases e : v = i
    · subst e
      rw [List.getElem?_set] at hi
      split at hi
      · split at hi <;> cases hi
      · exact absurd rfl ‹_›
    · rw [List.getElem?_set_ne e] at hi
      obtain ⟨x, h1, h2⟩ := ih.2 i w hi
      exact ⟨x, by rw [List.getElem?_set_ne e]; exact h1, h2⟩
/-- the turns: the values so far are acc -/
def lcL (t : GTg) (tt : GT) (e : GE) (ck : Hg → Bool) (ρ0 : GEnv) : List W → List W → Hg → Res (List W)
  | [], acc, G => if ck G then .ok acc G else .stuck
  | w :: ws, acc, G => if ck G then (match t w ρ0 G with
    | none => .stuck
    | some (ρ', G') => match tt ρ' G' with
      | .ok true G2 => (match e ρ' G2 with
        | .ok z G3 => if Nat.blt acc.length 16777216 then lcL t tt e ck ρ0 ws (acc ++ [z]) G3 else .stuck
        | _ => .stuck)
      | .ok false G2 => lcL t tt e ck ρ0 ws acc G2
      | _ => .stuck) else .stuck
def gLcW (it : GI) (own : List Nat) (t : GTg) (tt : GT) (e : GE) : GEnv → Hg → Res (List W) := fun ρ G => (it ρ G).bind fun p G1 => lcL t tt e p.2 (wipeG ρ own) p.1 [] G1
section
variable {X : Cx}
/-- what the block's parts are -/
structure LcParts (X : Cx) (scope : Scope) (own : List (Str × Nat)) (tg iter elt : Expr) (ifs : List Expr) (gi : GI) (t : GTg) (tt : GT) (e : GE) : Prop where
  calm : X.calm = true
  nd : X.N.Nodup
  it : GJI X tg iter gi
  ok : BlkOk X.N X.env.scope scope own
  tg : ∀ (s : Shared) (H : Hp) (C : Addr) (cl : List (Str × Addr)) (fp : List Addr), GJG (X.blk s H scope (compEnvC scope cl C X.env) fp) tg (own.map (·.2)) t
  ts : ∀ (s : Shared) (H : Hp) (C : Addr) (cl : List (Str × Addr)) (fp : List Addr), GJTs (X.blk s H scope (compEnvC scope cl C X.env) fp) ifs tt
  el : ∀ (s : Shared) (H : Hp) (C : Addr) (cl : List (Str × Addr)) (fp : List Addr), GJE (X.blk s H scope (compEnvC scope cl C X.env) fp) elt e
theorem takes_blk {X : Cx} {s : Shared} {H : Hp} {scope : Scope} {cenv : Env} {fp : List Addr} : Takes (X.blk s H scope cenv fp) wx0 := fun _ _ x => by
  obtain ⟨_, _, _, _, _, _, _, _, _, _, _, _, _, _, _, _, z⟩ := x
  exact z.elim
theorem Sim.rekeep {C : GC} {F H : Hp} {ι : Nat → Addr} {G : Hg} {p : Addr} {o o' : HO} (s : Sim { C with B := upd C.B p o } F H ι G) (hF : F p = none) (hno : ∀ od u, o ≠ .frz od u := by intro _ _ z; cases z) : Sim { C with B := upd C.B p o' } F (upd H p o') ι G := by
  have np := s.apart hno
  refine ⟨fun b u q => by rw [upd_ne (fun e => by rw [e, hF] at q; cases q)]; exact s.fh _ _ q, fun b u q => ?_, s.ff, fun b u q => ?_, fun i g hi hg => ?_, s.inj⟩
  · have q' : upd C.B p o' b = some u := q
    by_cases e : b = p
    · subst e
      rw [upd_same] at q' ⊢
      exact q'
    · rw [upd_ne e] at q' ⊢
      refine s.bh b u ?_
      show upd C.B p o b = some u
      rw [upd_ne e]
      exact q'
  · rcases s.new b u q with z | z
    · exact .inl z
    · refine .inr ?_
      have ne : b ≠ p := fun e => by rw [e, hF] at q; cases q
      have z' : upd C.B p o b = none := z
      show upd C.B p o' b = none
      rw [upd_ne ne] at z' ⊢
      exact z'
  · obtain ⟨a, b, r⟩ := s.live i g hi hg
    have n := np i g hi hg
    have e : upd C.B p o' (ι i) = upd C.B p o (ι i) := (upd_ne n).trans (upd_ne n).symm
    exact ⟨a, ⟨fun hL => e.trans (b.1 hL), fun hL z => b.2 hL (e.symm.trans z)⟩, r.mono .refl fun u q => by rw [upd_ne n]; exact q⟩
theorem wipe_twice (σ : L2.St) (vs : List Nat) : L2.wipe (L2.wipe σ vs) vs = L2.wipe σ vs := by
  have gen : ∀ (us : List Nat), (∀ u ∈ us, u ∈ vs) → L2.wipe (L2.wipe σ vs) us = L2.wipe σ vs := by
    intro us
    induction us with
    | nil => intro _; rfl
    | cons u r ih =>
      intro h
      show (L2.wipe (L2.wipe σ vs) r).set u none = L2.wipe σ vs
      have e' : L2.wipe (L2.wipe σ vs) r = L2.wipe σ vs := ih fun x hx => h x (List.mem_cons_of_mem _ hx)
      have hu := h u List.mem_cons_self
      have key : (L2.wipe σ vs).set u none = L2.wipe σ vs := by
        have w1 : ∀ (l : List Nat), u ∈ l → ∀ i, i = u → i < (L2.wipe σ l).length → (L2.wipe σ l)[i]? = some none := by
          intro l
          induction l with
          | nil => intro hl; cases hl
          | cons a t iht =>
            intro hl i hi hlt
            unfold L2.wipe at hlt ⊢
            by_cases ea : a = i
            · rw [ea, List.getElem?_set_self (by simpa using hlt)]
            · rw [List.getElem?_set_ne ea]
              refine iht ?_ i hi (by simpa using hlt)
              rcases List.mem_cons.mp hl with z | z
              · exact absurd (z.symm.trans hi.symm) ea
              · exact z
        apply List.ext_getElem?
        intro i
        by_cases ei : u = i
        · subst ei
          rcases Nat.lt_or_ge u (L2.wipe σ vs).length with z | z
          · rw [List.getElem?_set_self z, w1 vs hu u rfl z]
          · rw [List.getElem?_eq_none (by simpa using z), List.getElem?_eq_none z]
        · rw [List.getElem?_set_ne ei]
      calc (L2.wipe (L2.wipe σ vs) r).set u none = (L2.wipe σ vs).set u none := by rw [e']
        _ = L2.wipe σ vs := key
  exact gen vs fun _ h => h
/-- what is done with the values at the end -/
def FinOk (M : Md) (fin : List W → Hg → Res W) : Prop := ∀ (C : GC) (F H : Hp) (ι : Nat → Addr) (G : Hg) (acc : List W) (xs : List V) (D : Addr) (σ : L2.St) (Q : VK), C.m = M → Sim { C with B := upd C.B D (.lst xs) } F H ι G → C.B D = none → F D = none → RpWL C.m F ι G.length acc xs →
  Post C F ι G.length σ (fin acc G) Q → Q (.ref D) H
abbrev lcG (X : Cx) (own : List Nat) (t : GTg) : TG := fun v σ H Q => ∃ B' F0', gTG (gc X B' F0' wx0) own t v σ H Q
abbrev lcT (X : Cx) (tt : GT) : TT := fun σ H Q => ∃ B' F0', gTT (gc X B' F0' wx0) tt σ H Q
abbrev lcE (X : Cx) (e : GE) : TE := fun σ H Q => ∃ B' F0', gTE (gc X B' F0' wx0) e σ H Q
theorem gTE_lc {X : Cx} {own : List (Str × Nat)} {gi : GI} {t : GTg} {tt : GT} {e : GE} {fin : List W → Hg → Res W} {B F0 : Hp} {wx : WX} {σ : L2.St} {H : Hp} {Q : VK} (hf : FinOk (md X) fin)
    (hh : gTE (gc X B F0 wx) (fun ρ G => (gLcW gi (own.map (·.2)) t tt e ρ G).bind fin) σ H Q) : tLc (gTI (gc X B F0 wx) gi) (lcG X (own.map (·.2)) t) (lcT X tt) (lcE X e) (own.map (·.2)) σ H Q := by
  obtain ⟨F, ι, ρ, G, s, he, hp⟩ := hh
  refine ⟨F, ι, ρ, G, s, he, ?_⟩
  unfold gLcW at hp
  dsimp only at hp
  cases qi : gi ρ G with
  | stuck => rw [qi] at hp; exact hp
  | exc x G' => rw [qi] at hp; exact hp
  | ok p G1 =>
    obtain ⟨ws, ck⟩ := p
    rw [qi] at hp
    intro J H1 F1 ι1 e1 s1 it D hD
    have hp1 : Post (gc X B F0 wx) F1 ι1 G1.length σ ((lcL t tt e ck (wipeG ρ (own.map (·.2))) ws [] G1).bind fin) Q := Post.base e1 hp
    have hBD : B D = none := s1.freeB hD
    have hFD : F1 D = none := s1.free hD
    have hF0 : F0 D = none := s1.ff.free hFD
    have noF : ∀ {F2 H2 : Hp} {ι2 : Nat → Addr} {G2 : Hg} {o : HO}, Sim (gc X (upd B D o) F0 wx) F2 H2 ι2 G2 → F2 D = none := fun {F2 H2 ι2 G2 o} t => by
      cases q : F2 D with
      | none => rfl
      | some u =>
        rcases t.new D u q with z | z
        · have z' : F0 D = some u := z
          rw [hF0] at z'; cases z'
        · have z' : upd B D o D = none := z
          rw [upd_same] at z'; cases z'
    have he0 := (he.mono e1).wipe (own.map (·.2))
    refine ⟨fun i m H => m = ws.length - i ∧ i ≤ ws.length ∧ ∃ F2 ι2 G2 acc xs, Ext F1 ι1 G1.length F2 ι2 G2.length ∧ Sim (gc X (upd B D (.lst xs)) F0 wx) F2 H ι2 G2 ∧ RpWL (md X) F2 ι2 G2.length acc xs ∧ Post (gc X B F0 wx) F2 ι2 G2.length σ ((lcL t tt e ck (wipeG ρ (own.map (·.2))) (ws.drop i) acc G2).bind fin) Q,
      ⟨ws.length, by simp, Nat.zero_le _, F1, ι1, G1, [], [], .refl, Sim.keep (C := gc X B F0 wx) (o := .lst []) s1 hD, by simp only [RpWL], hp1⟩, ?_⟩
    rintro i m H2 ⟨rfl, hi, F2, ι2, G2, acc, xs, e2, s2, ra, p2⟩
    rcases Nat.lt_or_ge i ws.length with hlt | hge
    · have hd : ws.drop i = ws[i] :: ws.drop (i + 1) := by rw [List.drop_eq_getElem_cons hlt]
      rw [hd] at p2
      simp only [lcL] at p2
      cases c : ck G2 with
      | false => rw [c] at p2; exact p2.elim
      | true =>
        rw [c, if_pos rfl] at p2
        obtain ⟨it1, it2⟩ := it (gc X (upd B D (.lst xs)) F0 wx) F2 H2 ι2 G2 rfl (fun b o q => by show upd B D (.lst xs) b = some o; rw [upd_ne (ne_of_none q hBD)]; exact q) e2 s2 c
        obtain ⟨go, yl⟩ := it1 i ws[i] (List.getElem?_eq_getElem hlt)
        refine .inr ⟨go, fun H' => ∃ F3 ι3 G3 acc xs, Ext F1 ι1 G1.length F3 ι3 G3.length ∧ Sim (gc X (upd B D (.lst xs)) F0 wx) F3 H' ι3 G3 ∧ RpWL (md X) F3 ι3 G3.length acc xs ∧ Post (gc X B F0 wx) F3 ι3 G3.length σ ((lcL t tt e ck (wipeG ρ (own.map (·.2))) (ws.drop (i + 1)) acc G3).bind fin) Q,
          fun H' h => ⟨_, by omega, rfl, hlt, h⟩, fun x H3 y => ?_⟩
        obtain ⟨F3, e3, s3, r3⟩ := yl x H3 y
        have p3 := Post.base e3 p2
        have e13 := e2.trans e3
        refine ⟨upd B D (.lst xs), F0, F3, ι2, wipeG ρ (own.map (·.2)), G2, ws[i], s3.wx, he0.mono e13, r3, ?_⟩
        cases qt : t ws[i] (wipeG ρ (own.map (·.2))) G2 with
        | none => rw [qt] at p3; exact p3.elim
        | some o =>
          obtain ⟨ρ4, G4⟩ := o
          rw [qt] at p3
          rintro σ4 H4 ⟨F4, ι4, e4, s4, he4⟩ wq
          have p4 := Post.base e4 p3
          simp only at p4
          refine ⟨by rw [wq, wipe_twice], upd B D (.lst xs), F0, F4, ι4, ρ4, G4, s4, he4, ?_⟩
          cases qtt : tt ρ4 G4 with
          | stuck => rw [qtt] at p4; exact p4
          | exc x G' => rw [qtt] at p4; exact p4.elim
          | ok b G5 =>
            rw [qtt] at p4
            rintro bv H5 ⟨ev, F5, ι5, e5, s5⟩
            rw [ev]
            have p5 := Post.base e5 p4
            have e15 := (e13.trans e4).trans e5
            have s5' : Sim (gc X (upd B D (.lst xs)) F0 wx) F5 H5 ι5 G5 := s5.wx
            cases b with
            | false =>
              rw [if_neg Bool.false_ne_true]
              exact ⟨F5, ι5, G5, acc, xs, e15, s5', ra.mono ((e3.trans e4).trans e5), p5⟩
            | true =>
              rw [if_pos rfl]
              refine ⟨upd B D (.lst xs), F0, F5, ι5, ρ4, G5, s5, he4.mono e5, ?_⟩
              simp only at p5
              cases qe : e ρ4 G5 with
              | stuck => rw [qe] at p5; exact p5
              | exc x G' => rw [qe] at p5; exact p5.elim
              | ok z G6 =>
                rw [qe] at p5
                rintro y H6 ⟨F6, ι6, e6, s6, r6⟩
                have p6 := Post.base e6 p5
                simp only at p6
                have s6' : Sim (gc X (upd B D (.lst xs)) F0 wx) F6 H6 ι6 G6 := s6.wx
                cases cl : Nat.blt acc.length 16777216 with
                | false => rw [cl] at p6; exact p6.elim
                | true =>
                  rw [cl, if_pos rfl] at p6
                  have ra6 := ra.mono (((e3.trans e4).trans e5).trans e6)
                  refine ⟨xs, s6'.bh D _ upd_same, by rw [sizeLine_eq, ← ra6.length]; exact Nat.le_of_ble_eq_true cl, F6, ι6, G6, acc ++ [z], xs ++ [y], e15.trans e6, Sim.rekeep (C := gc X B F0 wx) s6' (noF s6'), ra6.append (.one r6), p6⟩
    · have ei : i = ws.length := by omega
      subst ei
      rw [List.drop_length] at p2
      simp only [lcL] at p2
      cases c : ck G2 with
      | false => rw [c] at p2; exact p2.elim
      | true =>
        rw [c, if_pos rfl] at p2
        obtain ⟨_, it2⟩ := it (gc X (upd B D (.lst xs)) F0 wx) F2 H2 ι2 G2 rfl (fun b o q => by show upd B D (.lst xs) b = some o; rw [upd_ne (ne_of_none q hBD)]; exact q) e2 s2 c
        exact .inl ⟨it2, hf (gc X B F0 wx) F2 H2 ι2 G2 acc xs D σ Q rfl s2 hBD (noF s2) ra p2⟩
section
variable {X : Cx} {scope : Scope} {own : List (Str × Nat)} {tg iter elt : Expr} {ifs : List Expr} {pos : Pos} {gi : GI} {t : GTg} {tt : GT} {e : GE} {fin : List W → Hg → Res W}
theorem LcParts.pg (P : LcParts X scope own tg iter elt ifs gi t tt e) (s : Shared) (H : Hp) (C : Addr) (cl : List (Str × Addr)) (fp : List Addr) : PG (X.blk s H scope (compEnvC scope cl C X.env) fp) tg (lcG X (own.map (·.2)) t) :=
  ⟨fun pins s1 σ H v u Q I r ⟨B', F0', h⟩ => ((P.tg s _ C cl fp).run B' F0' wx0 takes_blk).run pins s1 σ H v u Q I r h⟩
theorem LcParts.pts (P : LcParts X scope own tg iter elt ifs gi t tt e) (s : Shared) (H : Hp) (C : Addr) (cl : List (Str × Addr)) (fp : List Addr) : PTs (X.blk s H scope (compEnvC scope cl C X.env) fp) ifs (lcT X tt) :=
  ⟨fun pins s1 σ H Q I ⟨B', F0', h⟩ => ((P.ts s _ C cl fp).run B' F0' wx0 takes_blk).run pins s1 σ H Q I h⟩
theorem LcParts.pe (P : LcParts X scope own tg iter elt ifs gi t tt e) (s : Shared) (H : Hp) (C : Addr) (cl : List (Str × Addr)) (fp : List Addr) : PE (X.blk s H scope (compEnvC scope cl C X.env) fp) elt (lcE X e) :=
  ⟨fun pins s1 σ H Q I ⟨B', F0', h⟩ => ((P.el s _ C cl fp).run B' F0' wx0 takes_blk).run pins s1 σ H Q I h⟩
theorem ge_lc (P : LcParts X scope own tg iter elt ifs gi t tt e) (hf : FinOk (md X) fin)
    (hs : ∀ x, foldedSetIterable iter X.env x = pure x := by intro _; rfl) : GJE X (.ListComp elt [⟨tg, iter, ifs, 0⟩] scope pos) (fun ρ G => (gLcW gi (own.map (·.2)) t tt e ρ G).bind fin) :=
  ⟨fun B F0 wx tk => PE.imp (pe_lc P.calm P.nd (P.it.run B F0 wx tk) P.ok P.pg P.pts P.pe hs) fun σ H Q h => gTE_lc hf h⟩
/-- y = [..] on one line, y a local -/
theorem gs_setLc {i : Nat} {y : Str} {py spos : Pos} (P : LcParts X scope own tg iter elt ifs gi t tt e) (hf : FinOk (md X) fin) (hy : X.N[i]? = some y := by rfl) (hyl : X.env.scope.names.lookup y = some .local := by rfl)
    (hsw : swapsWith (.ListComp elt [⟨tg, iter, ifs, 0⟩] scope pos) (some (.Name y py)) spos.line X.env = pure true := by rfl) (hs : ∀ x, foldedSetIterable iter X.env x = pure x := by intro _; rfl) :
    GJS X (.Assign [.Name y py] (.ListComp elt [⟨tg, iter, ifs, 0⟩] scope pos) spos) (gAsg (fun ρ G => (gLcW gi (own.map (·.2)) t tt e ρ G).bind fin) (gNm i)) := ⟨fun B F0 wx tk => by
  refine PS.imp (ps_setLc P.calm P.nd hy hyl hsw (P.it.run B F0 wx tk) P.ok P.pg P.pts P.pe hs) fun D σ H ⟨F, ι, ρ, G, s, he, hp⟩ => ?_
  refine gTE_lc hf ⟨F, ι, ρ, G, s, he, (PostS.fst he hp).imp fun v H1 ⟨F1, ι1, w, G1, e1, s1, r1, he1, p1⟩ => ?_⟩
  exact p1 _ H1 ⟨F1, ι1, .refl, s1, he1.set i r1⟩⟩
end
def finT : List W → Hg → Res W := fun ws G1 => match mkLst ws with
  | some z => .ok z G1
  | none => .stuck
def finN : List W → Hg → Res W := fun ws G1 => .ok (.ref G1.length) (G1 ++ [.lst ws])
theorem finT_ok {M : Md} : FinOk M finT := by
  intro C F H ι G acc xs D σ Q hm s hB hF ra p
  unfold finT at p
  cases q : mkLst acc with
  | none => rw [q] at p; exact p.elim
  | some z =>
    rw [q] at p
    obtain ⟨ds, q2, rfl⟩ := map_some q
    obtain ⟨s', e, hD⟩ := s.adopt hB hF
    exact p _ _ ⟨_, _, e, s', by simp only [RpW, Rp]; exact ⟨D, xs, rfl, .inl (.inl upd_same), (allD_rp q2 ra).mono e.fr⟩⟩
theorem finN_ok {M : Md} : FinOk M finN := by
  intro C F H ι G acc xs D σ Q hm s hB hF ra p
  have hD : H D = some (.lst xs) := s.bh D _ upd_same
  have t := s.unkeep hB
  have ext : Ext F ι G.length F (putI ι G.length D) (G ++ [GO.lst acc]).length := ⟨Same.refl _, fun i hi => putI_lt hi, by simp⟩
  have at_ : ∀ i u, (G ++ [GO.lst acc])[i]? = some u → (i < G.length ∧ G[i]? = some u) ∨ (i = G.length ∧ u = .lst acc) := fun i u q => by
    rcases Nat.lt_or_ge i G.length with z | z
    · rw [List.getElem?_append_left z] at q
      exact .inl ⟨z, q⟩
    · rw [List.getElem?_append_right z] at q
      rcases Nat.eq_or_lt_of_le z with e | e
      · rw [← e, Nat.sub_self] at q
        exact .inr ⟨e.symm, (Option.some.inj q).symm⟩
      · rw [List.getElem?_eq_none (by simp; omega)] at q; cases q
  have np : ∀ i g, G[i]? = some g → g ≠ .dead → ι i ≠ D := s.apart (by intro _ _ z; cases z)
  refine p _ _ ⟨F, putI ι G.length D, ext, ⟨t.fh, t.bh, t.ff, t.new, fun i u hi hu => ?_, fun i j u v hi hu hj hv e => ?_⟩, by simp only [RpW]; exact ⟨by simp, by rw [putI_same]⟩⟩
  · rcases at_ i u hi with ⟨z, q⟩ | ⟨z, q⟩
    · rw [putI_lt z]
      obtain ⟨a, b, r⟩ := t.live i u q hu
      exact ⟨a, b, r.mono ext fun w q => q⟩
    · subst z q
      rw [putI_same]
      exact ⟨hF, ⟨fun _ => hB, fun z => by cases z⟩, xs, hD, ra.mono ext⟩
  · rcases at_ i u hi with ⟨zi, qi⟩ | ⟨zi, qi⟩ <;> rcases at_ j v hj with ⟨zj, qj⟩ | ⟨zj, qj⟩
    · rw [putI_lt zi, putI_lt zj] at e
      exact t.inj i j u v qi hu qj hv e
    · rw [putI_lt zi, zj, putI_same] at e
      exact absurd e (np i u qi hu)
    · rw [putI_lt zj, zi, putI_same] at e
      exact absurd e.symm (np j v qj hv)
    · rw [zi, zj]
end
end Gh

set_option Elab.async false
set_option linter.all false
set_option maxRecDepth 100000
set_option maxHeartbeats 4000000
namespace Gh
open PySem PySem.Spec PyProof.Rows L2

/-! ### -x -/
def gNeg (a : GE) : GE := fun ρ G => (a ρ G).bind fun x G1 => match x with
  | .d (.int i) => .ok (.d (.int (-i))) G1
  | _ => .stuck
section
variable {X : Cx} {a b c : Expr} {ga gb gcc : GE} {pos : Pos}
theorem ge_neg (ha : GJE X a ga) : GJE X (.UnaryOp .USub a pos) (gNeg ga) := ⟨fun B F0 wx tk => by
  refine PE.imp (pe_un un_neg (ha.run B F0 wx tk)) fun σ H Q ⟨F, ι, ρ, G, s, he, hp⟩ => ?_
  refine ⟨F, ι, ρ, G, s, he, (Post.fst hp).imp fun x H1 ⟨F1, ι1, w, G1, e1, s1, r1, p1⟩ => ?_⟩
  split at p1
  · simp only [RpW, Rp] at r1
    exact ⟨_, r1, p1 _ H1 (out_flat s1 rpI)⟩
  · exact p1.elim⟩

/-! ### a < b < c -/
def gChain (f f' : W → W → Hg → Option (W × Hg)) (a b c : GE) : GE := fun ρ G => (a ρ G).bind fun x G1 => (b ρ G1).bind fun y G2 => match f x y G2 with
  | some (.d (.bl true), G3) => (c ρ G3).bind fun z G4 => lift (f' y z G4)
  | some (.d (.bl false), G3) => .ok (.d (.bl false)) G3
  | _ => .stuck
theorem gTE_chain {B F0 : Hp} {wx : WX} {r r' : R2} {f f' : W → W → Hg → Option (W × Hg)} (hf : OpG X r f) (hf' : OpG X r' f') {σ : L2.St} {H : Hp} {Q : VK} (h : gTE (gc X B F0 wx) (gChain f f' ga gb gcc) σ H Q) :
    tChain r r' (gTE (gc X B F0 wx) ga) (gTE (gc X B F0 wx) gb) (gTE (gc X B F0 wx) gcc) σ H Q := by
  obtain ⟨F, ι, ρ, G, s, he, hp⟩ := h
  refine ⟨F, ι, ρ, G, s, he, (Post.fst hp).imp fun x H1 ⟨F1, ι1, w, G1, e1, s1, r1, p1⟩ => ⟨F1, ι1, ρ, G1, s1, he.mono e1, (Post.fst p1).imp fun y H2 ⟨F2, ι2, u, G2, e2, s2, r2, p2⟩ => ?_⟩⟩
  cases q : f w u G2 with
  | none => rw [q] at p2; exact p2.elim
  | some o =>
    obtain ⟨z, G3⟩ := o
    rw [q] at p2
    refine hf _ F2 H2 ι2 G2 w u x y z G3 _ rfl s2 (r1.mono e2) r2 q fun v H3 ⟨F3, ι3, e3, s3, r3⟩ => ?_
    split at p2
    · rename_i z' G4' h4
      cases h4
      simp only [RpW, Rp] at r3
      refine ⟨true, r3, ?_⟩
      rw [if_pos rfl]
      have p3 := Post.base e3 p2
      refine ⟨F3, ι3, ρ, _, s3, he.mono ((e1.trans e2).trans e3), (Post.fst p3).imp fun z H4 ⟨F4, ι4, t, G4, e4, s4, r4, p4⟩ => ?_⟩
      cases q5 : f' u t G4 with
      | none => rw [q5] at p4; exact p4.elim
      | some o5 =>
        obtain ⟨z5, G5⟩ := o5
        rw [q5] at p4
        exact hf' _ F4 H4 ι4 G4 u t y z z5 G5 Q rfl s4 (r2.mono (e3.trans e4)) r4 q5 p4
    · rename_i z' G4' h4
      cases h4
      simp only [RpW, Rp] at r3
      refine ⟨false, r3, ?_⟩
      rw [if_neg Bool.false_ne_true]
      exact p2 _ H3 ⟨F3, ι3, e3, s3, by simp only [RpW, Rp]⟩
    · exact p2.elim
theorem ge_chain {op op' : CmpOp} {r r' : R2} {f f' : W → W → Hg → Option (W × Hg)} (ho : OpR X (compareOp op) r) (ho' : OpR X (compareOp op') r') (hf : OpG X r f) (hf' : OpG X r' f') (ha : GJE X a ga) (hb : GJE X b gb) (hc : GJE X c gcc)
    (hm : lastMarks [op, op'] [b, c] = false := by with_unfolding_all rfl) : GJE X (.Compare a [op, op'] [b, c] pos) (gChain f f' ga gb gcc) :=
  ⟨fun B F0 wx tk => PE.imp (pe_chain ho ho' (ha.run B F0 wx tk) (hb.run B F0 wx tk) (hc.run B F0 wx tk) hm) fun _ _ _ h => gTE_chain hf hf' h⟩
theorem gt_chain {op op' : CmpOp} {r r' : R2} {f f' : W → W → Hg → Option (W × Hg)} (ho : OpR X (compareOp op) r) (ho' : OpR X (compareOp op') r') (hf : OpG X r f) (hf' : OpG X r' f') (ha : GJE X a ga) (hb : GJE X b gb) (hc : GJE X c gcc)
    (hm : lastMarks [op, op'] [b, c] = false := by with_unfolding_all rfl) : GJT X (.Compare a [op, op'] [b, c] pos) (gTst (gChain f f' ga gb gcc)) :=
  ⟨fun B F0 wx tk => PT.imp (pt_chain ho ho' (ha.run B F0 wx tk) (hb.run B F0 wx tk) (hc.run B F0 wx tk) hm) fun _ _ _ h => gTE_chain hf hf' (gTT_tst h)⟩
end

/-! ### calls without arguments -/
section
variable {X : Cx} {k j : Nat} {x : Str} {p pos : Pos}
theorem ge_fnP0 {f : List D → PRes} (c : CalX X.prog X.w X.K X.mg X.base k x (spP (md X) 0 f)) (hr : RoomG j X.A) (hk : k ≤ j) (hg : Gl X x := by rfl) (hdb : (x == ("__debug__" : Str)) = false := by decide) :
    GJE X (.Call (.Name x p) [] [] pos) (gFnP 0 f gNilA) := ⟨fun B F0 wx tk => by
  obtain ⟨fa, fd, ps, F, hm, kp, b⟩ := c.ex
  refine ⟨fun pins s σ H Q I h => ?_⟩
  have h' : tCall (spP (md X) 0 f) [] (fun cls d H' => wx cls d σ H') tNil σ H Q := by
    obtain ⟨F1, ι, ρ, G, s1, he, hp⟩ := h
    have hh := gTE_fnP (gs := gNilA) (B := B) (F0 := F0) (wx := wx) (Q := Q) (σ := σ) ⟨F1, ι, ρ, G, s1, he, hp⟩
    obtain ⟨F2, ι2, ρ2, G2, s2, he2, hp2⟩ := hh
    exact hp2 [] H ⟨F2, ι2, .refl, s2, by simp only [RpWL]⟩
  refine wpAny_Call_Name_kw (ld_glob I hg hm ?_ hdb)
  exact PySem.W.callWith_K0 I.kIn kp (run_fnG (E := fun σ => fun cls d H' => wx cls d σ H') (us := []) (vs := []) F (hr.mono hk) b (passAt tk σ) I .nil h')⟩
theorem ge_fnS0 {f : List W → Hg → Res W} (c : CalX X.prog X.w X.K X.mg X.base k x (spS (md X) 0 f)) (hr : RoomG j X.A) (hk : k ≤ j) (hg : Gl X x := by rfl) (hdb : (x == ("__debug__" : Str)) = false := by decide) :
    GJE X (.Call (.Name x p) [] [] pos) (gFnS 0 f gNilA) := ⟨fun B F0 wx tk => by
  obtain ⟨fa, fd, ps, F, hm, kp, b⟩ := c.ex
  refine ⟨fun pins s σ H Q I h => ?_⟩
  have h' : tCall (spS (md X) 0 f) [] (fun cls d H' => wx cls d σ H') tNil σ H Q := by
    obtain ⟨F1, ι, ρ, G, s1, he, hp⟩ := h
    have hh := gTE_fnS (gs := gNilA) (B := B) (F0 := F0) (wx := wx) (Q := Q) (σ := σ) ⟨F1, ι, ρ, G, s1, he, hp⟩
    obtain ⟨F2, ι2, ρ2, G2, s2, he2, hp2⟩ := hh
    exact hp2 [] H ⟨F2, ι2, .refl, s2, by simp only [RpWL]⟩
  refine wpAny_Call_Name_kw (ld_glob I hg hm ?_ hdb)
  exact PySem.W.callWith_K0 I.kIn kp (run_fnG (E := fun σ => fun cls d H' => wx cls d σ H') (us := []) (vs := []) F (hr.mono hk) b (passAt tk σ) I .nil h')⟩
end

/-! ### methods of built-ins -/
/-- no dict that stands locked, perhaps -/
def noDic : W → Hg → Bool
  | .d (.dic _ _), _ => false
  | .ref i, G => match G[i]? with
    | some (.lkd _ _) => false
    | _ => true
  | _, _ => true
def gMt (t : Ty) (f : W → List W → Hg → Option (W × Hg)) (o : GE) (a : GEs) : GE := fun ρ G => (o ρ G).bind fun w G1 => if tyW w G1 = some t ∧ noDic w G1 = true then (a ρ G1).bind fun ws G2 => lift (f w ws G2) else .stuck
def MtG (X : Cx) (r : V → List V → Hp → VK → Prop) (f : W → List W → Hg → Option (W × Hg)) : Prop := ∀ (C : GC) (F H : Hp) (ι : Nat → Addr) (G : Hg) (w : W) (ws : List W) (x : V) (xs : List V) (z : W) (G' : Hg) (Q : VK), C.m = md X → Sim C F H ι G → RpW C.m F ι G.length w x → RpWL C.m F ι G.length ws xs →
  f w ws G = some (z, G') → (∀ v H', Out C F ι G.length z G' v H' → Q v H') → r x xs H Q
theorem Sim.tyM {C : GC} {F H : Hp} {ι : Nat → Addr} {G : Hg} {w : W} {t : Ty} {v : V} (s : Sim C F H ι G) (e : tyW w G = some t) (hn : noDic w G = true) (ht : t = .lst ∨ t = .str ∨ t = .dic) (r : RpW C.m F ι G.length w v) : tyV C.m.K t.name v H := by
  cases w with
  | d x =>
    simp only [RpW] at r
    cases x with
    | str b => cases e; simp only [Rp] at r; subst r; rfl
    | lst b => cases e; simp only [Rp] at r; obtain ⟨a, xs, rfl, h, _⟩ := r; exact .inl ⟨rfl, xs, Same.sqL s.fh h⟩
    | dic t b => exact absurd hn (by simp [noDic])
    | ins c b => cases e
    | _ => cases e; rcases ht with h | h | h <;> cases h
  | tup ws => cases e; rcases ht with h | h | h <;> cases h
  | ref i =>
    simp only [RpW] at r
    obtain ⟨hi, rfl⟩ := r
    simp only [tyW] at e
    cases q : G[i]? with
    | none => rw [q] at e; cases e
    | some o =>
      rw [q] at e
      cases o with
      | lst ws => cases e; obtain ⟨_, _, xs, h, _⟩ := s.live i _ q (fun z => by cases z); exact .inl ⟨rfl, xs, .inl (.inl h)⟩
      | lkd t kvs => rw [noDic, q] at hn; cases hn
      | dic t kvs =>
        cases t with
        | false => cases e; obtain ⟨_, _, es, h, _⟩ := s.live i _ q (fun z => by cases z); exact .inr (.inr (.inl ⟨rfl, .inl ⟨es, h⟩⟩))
        | true => cases e
      | _ => cases e
section
variable {X : Cx} {o e : Expr} {es : List Expr} {go : GE} {gs : GEs} {name : Str} {apos cpos : Pos} {t : Ty} {id : String} {r : V → List V → Hp → VK → Prop} {f : W → List W → Hg → Option (W × Hg)}
theorem gTE_mt {B F0 : Hp} {wx : WX} (hf : MtG X r f) (ht : t = .lst ∨ t = .str ∨ t = .dic) {σ : L2.St} {H : Hp} {Q : VK} (h : gTE (gc X B F0 wx) (gMt t f go gs) σ H Q) :
    gTE (gc X B F0 wx) go σ H fun x H1 => tyV X.K t.name x H1 ∧ gTA (gc X B F0 wx) gs σ H1 fun xs H2 => r x xs H2 Q := by
  obtain ⟨F, ι, ρ, G, s, he, hp⟩ := h
  refine ⟨F, ι, ρ, G, s, he, (Post.fst hp).imp fun x H1 ⟨F1, ι1, w, G1, e1, s1, r1, p1⟩ => ?_⟩
  by_cases hty : tyW w G1 = some t ∧ noDic w G1 = true
  · rw [if_pos hty] at p1
    refine ⟨s1.tyM hty.1 hty.2 ht r1, F1, ι1, ρ, G1, s1, he.mono e1, (PostL.fst p1).imp fun xs H2 ⟨F2, ι2, ws, G2, e2, s2, r2, p2⟩ => ?_⟩
    cases q : f w ws G2 with
    | none => rw [q] at p2; exact p2.elim
    | some o =>
      obtain ⟨z, G3⟩ := o
      rw [q] at p2
      exact hf _ F2 H2 ι2 G2 w ws x xs z G3 Q rfl s2 (r1.mono e2) r2 q p2
  · rw [if_neg hty] at p1; exact p1.elim
theorem ge_mt (pa : PlainAttrs t.name) (slot : Slot t.name name id) (hty : typeOf (.builtin id) = pure (.type "method_descriptor")) (hm : MtR X id r) (hf : MtG X r f) (ho : GJE X o go) (ha : GJA X (e :: es) gs) (ht : t = .lst ∨ t = .str ∨ t = .dic := by decide)
    (hbase : attributeBase o name X.env (eval o X.env) = eval o X.env := by rfl)
    (hfew : ((backTo cpos (starEach (e :: es) X.env)).all (fun x => !x.1) && (backToKw cpos (keywordEach [] X.env)).all (fun x => x.1.isSome)
      && decide ((e :: es).length + ([] : List Keyword).length + (if ([] : List Keyword).isEmpty then 0 else 1) < 30)) = true := by rfl)
    (hline : (apos.endLine == cpos.line) = true := by rfl) (hs : starEach (e :: es) X.env = (false, eval e X.env) :: starEach es X.env := by rfl) (hplain : (backTo cpos (starEach es X.env)).any (·.1) = false := by rfl) :
    GJE X (.Call (.Attribute o name apos) (e :: es) [] cpos) (gMt t f go gs) :=
  ⟨fun B F0 wx tk => PE.imp (pe_bm pa slot hty hm (ho.run B F0 wx tk) (ha.run B F0 wx tk) hbase hfew hline hs hplain) fun _ _ _ h => gTE_mt hf ht h⟩
theorem ge_mt0 (pa : PlainAttrs t.name) (slot : Slot t.name name id) (hty : typeOf (.builtin id) = pure (.type "method_descriptor")) (hm : MtR X id r) (hf : MtG X r f) (ho : GJE X o go) (ht : t = .lst ∨ t = .str ∨ t = .dic := by decide)
    (hbase : attributeBase o name X.env (eval o X.env) = eval o X.env := by rfl) (hline : (apos.endLine == cpos.line) = true := by rfl) :
    GJE X (.Call (.Attribute o name apos) [] [] cpos) (gMt t f go gNilA) :=
  ⟨fun B F0 wx tk => PE.imp (pe_bm0 pa slot hty hm (ho.run B F0 wx tk) hbase hline) fun σ H Q h => by
    obtain ⟨F, ι, ρ, G, s, he, hp⟩ := gTE_mt hf ht h
    exact ⟨F, ι, ρ, G, s, he, hp.imp fun x H1 ⟨h1, F2, ι2, ρ2, G2, s2, he2, hp2⟩ => ⟨h1, hp2 [] H1 ⟨F2, ι2, .refl, s2, by simp only [RpWL]⟩⟩⟩⟩
end

/-! ### methods of lists -/
def getL (w : W) (G : Hg) : Option (Nat × List W) := match w with
  | .ref i => match G[i]? with
    | some (.lst ws) => some (i, ws)
    | _ => none
  | _ => none
theorem getL_inv {w : W} {G : Hg} {i : Nat} {ws : List W} (h : getL w G = some (i, ws)) : w = .ref i ∧ G[i]? = some (.lst ws) := by
  cases w with
  | ref j =>
    simp only [getL] at h
    cases q : G[j]? with
    | none => rw [q] at h; cases h
    | some o =>
      rw [q] at h
      cases o with
      | lst us => cases h; exact ⟨rfl, q⟩
      | _ => cases h
  | _ => cases h
theorem Sim.lst {C : GC} {F H : Hp} {ι : Nat → Addr} {G : Hg} {i : Nat} {ws : List W} (s : Sim C F H ι G) (h : G[i]? = some (.lst ws)) : ∃ xs, H (ι i) = some (.lst xs) ∧ RpWL C.m F ι G.length ws xs := by
  obtain ⟨_, _, xs, h1, h2⟩ := s.live i _ h (fun z => by cases z)
  exact ⟨xs, h1, h2⟩
theorem out_wr {C : GC} {F H : Hp} {ι : Nat → Addr} {G : Hg} {i : Nat} {ws us : List W} {ys : List V} {w : W} {v : V} (s : Sim C F H ι G) (h : G[i]? = some (.lst ws)) (r : RpWL C.m F ι G.length us ys) (rv : RpW C.m F ι G.length w v) :
    Out C F ι G.length w (G.set i (.lst us)) v (upd H (ι i) (.lst ys)) := by
  have s' := s.write (o := .lst ys) (g := .lst us) h (fun z => by cases z) ⟨ys, upd_same, r⟩
  refine ⟨F, ι, ⟨Same.refl _, fun _ _ => rfl, by simp⟩, s', ?_⟩
  rw [List.length_set]
  exact rv
theorem RpWL.set {M : Md} {F : Hp} {ι : Nat → Addr} {n : Nat} {w : W} {x : V} : ∀ {ws : List W} {xs : List V} (i : Nat), RpWL M F ι n ws xs → RpW M F ι n w x → RpWL M F ι n (ws.set i w) (xs.set i x)
  | [], xs, i, h, r => by simp only [RpWL] at h; subst h; simp [RpWL]
  | u :: ws, xs, 0, h, r => by
    simp only [RpWL] at h
    obtain ⟨y, t, rfl, h1, h2⟩ := h
    simp only [List.set_cons_zero, RpWL]
    exact ⟨x, t, rfl, r, h2⟩
  | u :: ws, xs, i + 1, h, r => by
    simp only [RpWL] at h
    obtain ⟨y, t, rfl, h1, h2⟩ := h
    simp only [List.set_cons_succ, RpWL]
    exact ⟨y, _, rfl, h1, RpWL.set i h2 r⟩
theorem RpWL.erase {M : Md} {F : Hp} {ι : Nat → Addr} {n : Nat} : ∀ {ws : List W} {xs : List V} (i : Nat), RpWL M F ι n ws xs → RpWL M F ι n (ws.eraseIdx i) (xs.eraseIdx i)
  | [], xs, i, h => by simp only [RpWL] at h; subst h; simp [RpWL]
  | u :: ws, xs, 0, h => by
    simp only [RpWL] at h
    obtain ⟨y, t, rfl, h1, h2⟩ := h
    simpa using h2
  | u :: ws, xs, i + 1, h => by
    simp only [RpWL] at h
    obtain ⟨y, t, rfl, h1, h2⟩ := h
    simp only [List.eraseIdx_cons_succ, RpWL]
    exact ⟨y, _, rfl, h1, RpWL.erase i h2⟩
theorem RpWL.dropLast {M : Md} {F : Hp} {ι : Nat → Addr} {n : Nat} {ws : List W} {xs : List V} (h : RpWL M F ι n ws xs) : RpWL M F ι n ws.dropLast xs.dropLast := by
  rw [List.dropLast_eq_take, List.dropLast_eq_take, h.length]
  exact h.take _
def fAppend (w : W) (us : List W) (G : Hg) : Option (W × Hg) := match getL w G, us with
  | some (i, ws), [u] => if Nat.blt ws.length 16777216 then some (.d .non, G.set i (.lst (ws ++ [u]))) else none
  | _, _ => none
def fPop (w : W) (us : List W) (G : Hg) : Option (W × Hg) := match getL w G, us with
  | some (i, ws), [] => (ws[ws.length - 1]?).map fun z => (z, G.set i (.lst ws.dropLast))
  | some (i, ws), [.d (.int k)] => if fit62 k then (match seqIndex? k ws.length with
    | some j => (ws[j]?).map fun z => (z, G.set i (.lst (ws.eraseIdx j)))
    | none => none) else none
  | _, _ => none
def fExtend (w : W) (us : List W) (G : Hg) : Option (W × Hg) := match getL w G, us with
  | some (i, ws), [u] => (match seqW u G with
    | some (true, zs) => if small (ws.length + zs.length) then some (.d .non, G.set i (.lst (ws ++ zs))) else none
    | _ => none)
  | _, _ => none
def rPopA : V → List V → Hp → VK → Prop := fun x vs H Q => rPop x vs H Q ∨ rPopAt x vs H Q
theorem mt_popA {X : Cx} : MtR X "list.pop" rPopA := fun pins s σ H x xs v us Q I rx rv h => by
  rcases h with h | h
  · exact mt_pop pins s σ H x xs v us Q I rx rv h
  · exact mt_popAt pins s σ H x xs v us Q I rx rv h
theorem extendW (l : Addr) (items : Array Value) (n : Nat) (b : Addr) (items2 : Array Value) (n2 : Nat) (dd : Option Addr) (sl : Array (Option Value)) (hc0 : ¬(!items.isEmpty && Builtin.List.listTooLong (items.size + items2.size)) = true) (hc1 : items.size ≤ sizeLine) (hs2 : items.size + items2.size ≤ sizeLine + 1) :
    Meets (Builtin.«list.extend» ⟨[.ref l, .ref b], []⟩) (fun _ R s => s.heap.get? l = some { cls := .type "list", dict := none, data := .seq items n, slots := #[] } ∧ s.heap.get? b = some { cls := .type "list", dict := dd, data := .seq items2 n2, slots := sl } ∧ R (.ok (.ret Value.none)) { s with heap := s.heap.update l (Obj.mapSeq fun x => x ++ items2), toks := s.toks }) :=
  .of_wp fun prog w A R s h => by
    obtain ⟨hp, g, d, tk, os⟩ := s; obtain ⟨hl, hb, h⟩ := h; have i1 := AutoSeq1.idx_int; have t2 := AutoSeq1.sub_tuple_tuple; have t3 := AutoSeq1.sub_list_list; have t4 := AutoSeq1.sub_tuple_list; have t5 := AutoSeq1.sub_list_tuple
    have hz' : (items ++ items2).size ≤ sizeLine + 1 := by rw [Array.size_append]; exact hs2
    wp_walk using (wpAny_updateSeq hl rfl (hz := hc1) (_hz' := hz')), wpAny_loadPart' hl, wpAny_loadPart' hb
    exact ⟨_, rfl, h⟩
def rExtendA (K : PySem.W.Frag) : V → List V → Hp → VK → Prop := fun x vs H Q => ∃ l b xs zs, x = .ref l ∧ vs = [.ref b] ∧ H l = some (.lst xs) ∧ SqL K H b zs ∧ xs.length + zs.length ≤ sizeLine ∧ Q .non (upd H l (.lst (xs ++ zs)))
theorem mt_extendA {X : Cx} : MtR X "list.extend" (rExtendA X.K) := by
  intro pins s σ H x vs v us Q I rx rv h
  obtain ⟨l, b, xs, zs, rfl, rfl, hH, hB, hz, q⟩ := h
  cases rx
  obtain ⟨u, rfl, ru⟩ := rv.one
  cases ru
  obtain ⟨z, its, n, r, hl, e⟩ := I.lstM hH
  obtain ⟨its2, r2, ⟨⟨cls2, dd2, data2, sl2⟩, n2, ho2, hc2, hdn, hd2⟩, hl2⟩ := I.list hB
  simp only at hc2 hd2 hdn
  subst hc2 hd2
  have h2 := r2.length
  have hsz : its.toArray.size + its2.toArray.size ≤ sizeLine := by rw [List.size_toArray, List.size_toArray]; omega
  have hlong : ¬ (!its.toArray.isEmpty && Builtin.List.listTooLong (its.toArray.size + its2.toArray.size)) = true := by
    rw [notLongL hsz, Bool.and_false]
    exact Bool.false_ne_true
  refine call_meets F.slot_list_extend ⟨_, e, rfl⟩ F.entry_list_extend (F.args_list_extend_2 _ _)
    (extendW l its.toArray n b its2.toArray n2 dd2 sl2 hlong (by rw [List.size_toArray]; omega) (by omega)) ⟨e, ho2, ?_⟩
  refine ⟨.non, _, I.lset (its' := its ++ its2) hH e (by simp) (r.append r2) ?_, rfl, q⟩
  rw [List.length_append]
  omega
section
variable {X : Cx}
theorem mg_append : MtG X rAppend fAppend := by
  intro C F H ι G w us x xs z G' Q hK s rw_ ru e hQ
  unfold fAppend at e
  split at e
  · rename_i i ws u q
    obtain ⟨rfl, hi⟩ := getL_inv q
    obtain ⟨ys, h1, h2⟩ := s.lst hi
    obtain ⟨y, rfl, ry⟩ := ru.inv1
    simp only [RpW] at rw_
    obtain ⟨hl, rfl⟩ := rw_
    by_cases c : Nat.blt ws.length 16777216 = true
    · rw [if_pos c] at e
      cases e
      refine ⟨_, ys, y, rfl, rfl, h1, by rw [sizeLine_eq, ← h2.length]; exact Nat.le_of_ble_eq_true c, hQ _ _ (out_wr s hi (h2.append (.one ry)) (by simp only [RpW, Rp]))⟩
    · rw [if_neg c] at e; cases e
  · cases e
theorem mg_pop : MtG X rPopA fPop := by
  intro C F H ι G w us x xs z G' Q hK s rw_ ru e hQ
  unfold fPop at e
  split at e
  · rename_i i ws q
    obtain ⟨rfl, hi⟩ := getL_inv q
    obtain ⟨ys, h1, h2⟩ := s.lst hi
    simp only [RpW] at rw_
    obtain ⟨hl, rfl⟩ := rw_
    obtain ⟨y, q2, e2⟩ := map_some e
    cases e2
    simp only [RpWL] at ru
    subst ru
    obtain ⟨v, hv, rv⟩ := h2.get q2
    exact .inl ⟨_, ys, v, rfl, rfl, h1, by rw [← h2.length]; exact hv, hQ _ _ (out_wr s hi h2.dropLast rv)⟩
  · rename_i i ws k q
    obtain ⟨rfl, hi⟩ := getL_inv q
    obtain ⟨ys, h1, h2⟩ := s.lst hi
    simp only [RpW] at rw_
    obtain ⟨hl, rfl⟩ := rw_
    by_cases c : fit62 k = true
    · rw [if_pos c] at e
      split at e
      · rename_i j hj
        obtain ⟨y, q2, e2⟩ := map_some e
        cases e2
        obtain ⟨y', rfl, ry⟩ := ru.inv1
        simp only [RpW, Rp] at ry
        subst ry
        unfold fit62 at c
        simp only [Bool.and_eq_true, decide_eq_true_eq] at c
        obtain ⟨v, hv, rv⟩ := h2.get q2
        exact .inr ⟨_, ys, k, j, v, rfl, rfl, h1, by omega, by omega, by rw [← h2.length]; exact hj, hv, hQ _ _ (out_wr s hi (h2.erase j) rv)⟩
      · cases e
    · rw [if_neg c] at e; cases e
  · cases e
theorem mg_extend : MtG X (rExtendA X.K) fExtend := by
  intro C F H ι G w us x xs z G' Q hK s rw_ ru e hQ
  unfold fExtend at e
  split at e
  · rename_i i ws u q
    obtain ⟨rfl, hi⟩ := getL_inv q
    obtain ⟨ys, h1, h2⟩ := s.lst hi
    obtain ⟨y, rfl, ry⟩ := ru.inv1
    simp only [RpW] at rw_
    obtain ⟨hl, rfl⟩ := rw_
    split at e
    · rename_i zs q2
      obtain ⟨a, vs, rfl, h3, h4⟩ := s.seq q2 ry
      rw [if_pos rfl, hK] at h3
      by_cases c : small (ws.length + zs.length) = true
      · rw [if_pos c] at e
        cases e
        exact ⟨_, a, ys, vs, rfl, rfl, h1, h3, by rw [← h2.length, ← h4.length]; exact small_le c, hQ _ _ (out_wr s hi (h2.append h4) (by simp only [RpW, Rp]))⟩
      · rw [if_neg c] at e; cases e
    · cases e
  · cases e
variable {o e : Expr} {es : List Expr} {go : GE} {gs : GEs} {apos cpos : Pos}
/-! the rules of one method each -/
abbrev Few (X : Cx) (cpos : Pos) (es : List Expr) : Prop := ((backTo cpos (starEach es X.env)).all (fun x => !x.1) && (backToKw cpos (keywordEach [] X.env)).all (fun x => x.1.isSome)
      && decide (es.length + ([] : List Keyword).length + (if ([] : List Keyword).isEmpty then 0 else 1) < 30)) = true
theorem ge_append (ho : GJE X o go) (ha : GJA X (e :: es) gs) (hbase : attributeBase o "append" X.env (eval o X.env) = eval o X.env := by rfl) (hfew : Few X cpos (e :: es) := by rfl)
    (hline : (apos.endLine == cpos.line) = true := by rfl) (hs : starEach (e :: es) X.env = (false, eval e X.env) :: starEach es X.env := by rfl) (hplain : (backTo cpos (starEach es X.env)).any (·.1) = false := by rfl) :
    GJE X (.Call (.Attribute o "append" apos) (e :: es) [] cpos) (gMt .lst fAppend go gs) := ge_mt (t := .lst) PySem.F.plainAttrs_list PySem.F.slot_list_append PySem.F.type_list_append mt_append mg_append ho ha (.inl rfl) hbase hfew hline hs hplain
theorem ge_extend (ho : GJE X o go) (ha : GJA X (e :: es) gs) (hbase : attributeBase o "extend" X.env (eval o X.env) = eval o X.env := by rfl) (hfew : Few X cpos (e :: es) := by rfl)
    (hline : (apos.endLine == cpos.line) = true := by rfl) (hs : starEach (e :: es) X.env = (false, eval e X.env) :: starEach es X.env := by rfl) (hplain : (backTo cpos (starEach es X.env)).any (·.1) = false := by rfl) :
    GJE X (.Call (.Attribute o "extend" apos) (e :: es) [] cpos) (gMt .lst fExtend go gs) := ge_mt (t := .lst) PySem.F.plainAttrs_list PySem.F.slot_list_extend PySem.F.type_list_extend mt_extendA mg_extend ho ha (.inl rfl) hbase hfew hline hs hplain
theorem ge_popAt (ho : GJE X o go) (ha : GJA X (e :: es) gs) (hbase : attributeBase o "pop" X.env (eval o X.env) = eval o X.env := by rfl) (hfew : Few X cpos (e :: es) := by rfl)
    (hline : (apos.endLine == cpos.line) = true := by rfl) (hs : starEach (e :: es) X.env = (false, eval e X.env) :: starEach es X.env := by rfl) (hplain : (backTo cpos (starEach es X.env)).any (·.1) = false := by rfl) :
    GJE X (.Call (.Attribute o "pop" apos) (e :: es) [] cpos) (gMt .lst fPop go gs) := ge_mt (t := .lst) PySem.F.plainAttrs_list PySem.F.slot_list_pop PySem.F.type_list_pop mt_popA mg_pop ho ha (.inl rfl) hbase hfew hline hs hplain
theorem ge_pop (ho : GJE X o go) (hbase : attributeBase o "pop" X.env (eval o X.env) = eval o X.env := by rfl) (hline : (apos.endLine == cpos.line) = true := by rfl) :
    GJE X (.Call (.Attribute o "pop" apos) [] [] cpos) (gMt .lst fPop go gNilA) := ge_mt0 (t := .lst) PySem.F.plainAttrs_list PySem.F.slot_list_pop PySem.F.type_list_pop mt_popA mg_pop ho (.inl rfl) hbase hline
end

/-! ### xs[i] = v -/
def fSetL (w u v : W) (G : Hg) : Option Hg := match getL w G, u with
  | some (i, ws), .d (.int k) => (ixN ws.length k).map fun j => G.set i (.lst (ws.set j v))
  | _, _ => none
theorem sg_list {X : Cx} : SetG X rSetL fSetL := by
  intro C F H ι G wo wi wv o i v G' Q hK s ro ri rv e hQ
  unfold fSetL at e
  split at e
  · rename_i n ws k q
    obtain ⟨rfl, hi⟩ := getL_inv q
    obtain ⟨ys, h1, h2⟩ := s.lst hi
    simp only [RpW] at ro
    obtain ⟨hl, rfl⟩ := ro
    simp only [RpW, Rp] at ri
    subst ri
    obtain ⟨j, q2, rfl⟩ := map_some e
    obtain ⟨F', ι', a, b, _⟩ := out_wr (w := .d .non) (v := .non) s hi (h2.set j rv) (by simp only [RpW, Rp])
    exact ⟨_, ys, k, j, rfl, rfl, h1, by rw [← h2.length]; exact q2, hQ _ ⟨F', ι', a, b⟩⟩
  · cases e
end Gh

set_option Elab.async false
set_option linter.all false
set_option maxRecDepth 100000
set_option maxHeartbeats 4000000
namespace Gh
open PySem PySem.Spec PyProof.Rows L2

/-! ### __init__ of an exception class: its fields are its parameters -/
/-- what it promises: self is an exception that is being made -/
def spI (K : PySem.W.Frag) (fs : List Str) : Sp := fun vs H Q _ => ∃ a C ys, vs = .ref a :: ys ∧ ys.length = fs.length ∧ H a = some (exo a C none) ∧ OexC K C ∧ (∀ f ∈ fs, PySem.W.findIn K (.ref C) f = some none) ∧
  ∀ dx, H dx = none → dx ≠ a → Q .non (upd (upd H a (exo a C (some dx))) dx (exd dx (fs.zip ys).reverse))
/-- self.f = p, for one field after the other; the slots of the parameters -/
inductive InitB (X : Cx) : List Stmt → List (Str × Nat) → Prop where
  | nil : InitB X [] []
  | cons {s x f : Str} {i : Nat} {p1 p2 p3 pos : Pos} {r : List Stmt} {l : List (Str × Nat)} (h0 : X.N[0]? = some s) (v0 : Vis X.env.scope s) (d0 : (s == ("__debug__" : Str)) = false) (c0 : (s == ("__classdict__" : Str)) = false)
      (hi : X.N[i]? = some x) (vi : Vis X.env.scope x) (di : (x == ("__debug__" : Str)) = false) (ci : (x == ("__classdict__" : Str)) = false) (hs : swapsWith (.Name x p3) (some (.Attribute (.Name s p1) f p2)) pos.line X.env = pure false) (t : InitB X r l) :
      InitB X (.Assign [.Attribute (.Name s p1) f p2] (.Name x p3) pos :: r) ((f, i) :: l)
/-- the second and later fields -/
theorem init_more {X : Cx} : ∀ {ss : List Stmt} {l : List (Str × Nat)}, InitB X ss l → PSs X ss (fun D σ H => ∃ (a C dx : Addr) (es : List (Str × V)) (ys : List V), σ[0]? = some (some (.ref a)) ∧ OexC X.K C ∧ (∀ f ∈ l.map (·.1), PySem.W.findIn X.K (.ref C) f = some none) ∧
    H a = some (exo a C (some dx)) ∧ H dx = some (exd dx es) ∧ es.length + l.length ≤ 900 ∧ ys.length = l.length ∧ (∀ (j : Nat) (p : Str × Nat), l[j]? = some p → ∃ y, ys[j]? = some y ∧ σ[p.2]? = some (some y)) ∧ dx ≠ a ∧
    D.nx σ (upd H dx (exd dx (((l.map (·.1)).zip ys).reverse ++ es))))
  | _, _, .nil => PSs.imp pss_nil fun D σ H ⟨a, C, dx, es, ys, h1, h2, h3, h4, h5, h6, h7, h8, hn, h9⟩ => by
    have e : upd H dx (exd dx es) = H := by
      funext b
      by_cases hb : b = dx
      · rw [hb, upd_same, h5]
      · rw [upd_ne hb]
    simp only [List.map_nil, List.zip_nil_left, List.reverse_nil, List.nil_append] at h9
    rw [e] at h9
    exact h9
  | _, _, .cons h0 v0 d0 c0 hi vi di ci hs t => by
    refine PSs.imp (pss_cons (ps_ost (pe_var h0 v0 d0 c0) (pe_var hi vi di ci) hs) (init_more t)) fun D σ H ⟨a, C, dx, es, ys, h1, h2, h3, h4, h5, h6, h7, h8, hn, h9⟩ => ?_
    cases ys with
    | nil => simp at h7
    | cons y ys =>
      obtain ⟨y', hy, hs'⟩ := h8 0 _ rfl
      simp only [List.getElem?_cons_zero, Option.some.injEq] at hy
      subst hy
      simp only [List.length_cons] at h6 h7
      refine ⟨y, hs', _, h1, a, C, rfl, h2, h3 _ (by simp), .inr ⟨dx, es, h4, h5, by omega, ?_⟩⟩
      refine ⟨a, C, dx, _ :: es, ys, h1, h2, fun f hf => h3 f (by simp only [List.map_cons, List.mem_cons]; exact .inr hf), by rw [upd_ne (Ne.symm hn)]; exact h4, upd_same, by simp only [List.length_cons]; omega, by omega, fun j p hp => h8 (j + 1) p hp, hn, ?_⟩
      rw [upd_upd]
      simpa using h9
/-- all of them -/
theorem init_all {X : Cx} {ss : List Stmt} {f : Str} {i : Nat} {l : List (Str × Nat)} (hb : InitB X ss ((f, i) :: l)) : PSs X ss (fun D σ H => ∃ (a C : Addr) (y : V) (ys : List V), σ[0]? = some (some (.ref a)) ∧ OexC X.K C ∧ (∀ g ∈ ((f, i) :: l).map (·.1), PySem.W.findIn X.K (.ref C) g = some none) ∧
    H a = some (exo a C none) ∧ l.length ≤ 800 ∧ ys.length = l.length ∧ σ[i]? = some (some y) ∧ (∀ (j : Nat) (p : Str × Nat), l[j]? = some p → ∃ y, ys[j]? = some y ∧ σ[p.2]? = some (some y)) ∧
    ∀ dx, H dx = none → dx ≠ a → D.nx σ (upd (upd H a (exo a C (some dx))) dx (exd dx (((f :: l.map (·.1)).zip (y :: ys)).reverse)))) := by
  cases hb with
  | cons h0 v0 d0 c0 hi vi di ci hs t =>
    refine PSs.imp (pss_cons (ps_ost (pe_var h0 v0 d0 c0) (pe_var hi vi di ci) hs) (init_more t)) fun D σ H ⟨a, C, y, ys, h1, h2, h3, h4, h5, h6, h7, h8, h9⟩ => ?_
    refine ⟨y, h7, _, h1, a, C, rfl, h2, h3 _ (by simp), .inl ⟨h4, fun dx n ne => ?_⟩⟩
    have e1 : upd (upd H dx (exd dx [(f, y)])) a (exo a C (some dx)) = upd (upd H a (exo a C (some dx))) dx (exd dx [(f, y)]) := by
      funext b
      by_cases hb : b = a
      · rw [hb, upd_same, upd_ne (Ne.symm ne), upd_same]
      · by_cases hd : b = dx
        · rw [hd, upd_ne ne, upd_same, upd_same]
        · rw [upd_ne hb, upd_ne hd, upd_ne hd, upd_ne hb]
    refine ⟨a, C, dx, [(f, y)], ys, h1, h2, fun g hg => h3 g (by simp only [List.map_cons, List.mem_cons]; exact .inr hg), upd_same, by rw [upd_ne ne, upd_same], by simp only [List.length_cons, List.length_nil]; omega, h6, h8, ne, ?_⟩
    have q := h9 dx n ne
    rw [e1, upd_upd]
    simpa using q
theorem fn_init {P : Program} {w : World} {K : PySem.W.Frag} {mg : Str → Option Value} {base : Heap} {x qual f : Str} {st : Stmt} {fa : Addr} {fd : FuncData} {N ps : List Str} {i : Nat} {l : List (Str × Nat)} {dvs : List V} {kws : List (Str × V)} (F : FunD K x qual (defArgs st) (defBody st) (defScope st) dvs kws fa fd) (S : FnScope N ps (defScope st))
    (hl : ps.length = l.length + 2) (hi : i < ps.length) (hix : ((f, i) :: l).map (·.2) = (List.range (l.length + 1)).map (· + 1)) (hsm : l.length ≤ 800)
    (hb : ∀ (cdv : Value) (A : Around) (outer : List Env) (s : Shared) (H : Hp) (E : XK), InitB (bodyX P w K mg base N qual (defScope st) fa cdv A outer s H E) (defBody st) ((f, i) :: l)) :
    FnOk P w K mg base (L2.CX P w) 1 fa fd ps (spI K (f :: l.map (·.1))) := by
  refine FunD.ok (CX := L2.CX P w) F S (fun vs H Q E ⟨a, C, ys, e, h, _⟩ => by rw [e, List.length_cons, h, List.length_cons, List.length_map, hl]) (fun cdv A outer s H vs Q E hr ⟨a, C, ys, e, h, ha, hT, hf, hq⟩ => ?_)
  refine ⟨_, init_all (hb cdv A outer s H E), ?_⟩
  subst e
  simp only [List.length_cons, List.length_map] at h
  have at_ : ∀ (j : Nat) (p : Str × Nat), ((f, i) :: l)[j]? = some p → p.2 = j + 1 := fun j p hp => by
    have q : (((f, i) :: l).map (·.2))[j]? = some p.2 := by rw [List.getElem?_map, hp]; rfl
    rw [hix, List.getElem?_map] at q
    have hj : j < l.length + 1 := by
      rcases Nat.lt_or_ge j (l.length + 1) with z | z
      · exact z
      · rw [List.getElem?_eq_none (by simpa using z)] at q; cases q
    rw [List.getElem?_range hj] at q
    simpa using q.symm
  have sl : ∀ (j : Nat), (L2.start N (.ref a :: ys))[j]? = (((V.ref a :: ys).map some ++ List.replicate (N.length - (ys.length + 1)) none))[j]? := fun j => by unfold L2.start; rfl
  have get : ∀ (j : Nat) (y : V), ys[j]? = some y → (L2.start N (.ref a :: ys))[j + 1]? = some (some y) := fun j y hy => by
    rw [sl]
    have hj : j < ys.length := (List.getElem?_eq_some_iff.mp hy).1
    rw [List.getElem?_append_left (by simp; omega)]
    simp [hy]
  cases ys with
  | nil => simp at h
  | cons y ys =>
    simp only [List.length_cons] at h
    have ei : i = 1 := at_ 0 _ rfl
    refine ⟨a, C, y, ys, by rw [sl]; rfl, hT, fun g hg => hf g hg, ha, hsm, by omega, by rw [ei]; exact get 0 y rfl, fun j p hp => ?_, fun dx n ne => hq dx n ne⟩
    have e2 := at_ (j + 1) p hp
    have hj : j < ys.length := by
      have := (List.getElem?_eq_some_iff.mp hp).1
      omega
    exact ⟨ys[j], List.getElem?_eq_getElem hj, by rw [e2]; exact get (j + 1) _ (List.getElem?_eq_getElem hj)⟩
end Gh

set_option Elab.async false
set_option linter.all false
set_option maxRecDepth 100000
set_option maxHeartbeats 4000000
namespace Gh
open PySem PySem.Spec PyProof.Rows L2

/-! ### o.f -/
def tFldA (K : PySem.W.Frag) (ta : TE) (f : Str) : TE := fun σ H Q => ta σ H fun x H1 => ∃ a C es v, x = .ref a ∧ InsAt K H1 a C es ∧ NoAttr K C f ∧ es.lookup f = some v ∧ Q v H1
theorem exo_inst {X : Cx} {pins : List (Addr × Obj)} {σ : L2.St} {H : Hp} {s : Shared} {a C dx : Addr} {es : List (Str × V)} (I : Inv X pins σ H s) (h : H a = some (exo a C (some dx))) (hd : H dx = some (exd dx es)) :
    ∃ (ox od : Obj) (mA : Str → Option Value), PySem.W.InstAt s.heap a ox C (some od) ∧ (∀ name, PySem.W.lookIn name od = some (mA name)) ∧ ∀ f, RelO (es.lookup f) (mA f) := by
  obtain ⟨t1, h1⟩ := exo_at I.hok h
  obtain ⟨mA, hn, hr⟩ := exd_at I.hok hd
  obtain ⟨od, ho, hl⟩ := lookIn_ns hn
  exact ⟨_, od, mA, ⟨h1, rfl, rfl, ho⟩, hl, hr⟩
theorem exo_inst0 {X : Cx} {pins : List (Addr × Obj)} {σ : L2.St} {H : Hp} {s : Shared} {a C : Addr} (I : Inv X pins σ H s) (h : H a = some (exo a C none)) :
    ∃ ox, PySem.W.InstAt s.heap a ox C none := by
  obtain ⟨t1, h1⟩ := exo_at I.hok h
  exact ⟨_, h1, rfl, rfl, trivial⟩
theorem exh_inst {X : Cx} {pins : List (Addr × Obj)} {σ : L2.St} {H : Hp} {s : Shared} {a C dx : Addr} {es : List (Str × V)} (I : Inv X pins σ H s) (h : H a = some (exh a C (some dx))) (hd : H dx = some (.xd es)) :
    ∃ (ox od : Obj) (mA : Str → Option Value), PySem.W.InstAt s.heap a ox C (some od) ∧ (∀ name, PySem.W.lookIn name od = some (mA name)) ∧ ∀ f, RelO (es.lookup f) (mA f) := by
  obtain ⟨⟨oe, vs, h1, h2, h3, h4⟩, _⟩ := I.hok _ _ h
  obtain ⟨mA, hn, hr⟩ := I.hok _ _ hd
  obtain ⟨od, ho, hl⟩ := lookIn_ns hn
  refine ⟨oe, od, mA, ⟨h1, h2, by unfold PySem.W.notCls; rw [h4], ?_⟩, hl, hr⟩
  rw [h3]; exact ho
theorem exh_inst0 {X : Cx} {pins : List (Addr × Obj)} {σ : L2.St} {H : Hp} {s : Shared} {a C : Addr} (I : Inv X pins σ H s) (h : H a = some (exh a C none)) :
    ∃ ox, PySem.W.InstAt s.heap a ox C none := by
  obtain ⟨⟨oe, vs, h1, h2, h3, h4⟩, _⟩ := I.hok _ _ h
  refine ⟨oe, h1, h2, by unfold PySem.W.notCls; rw [h4], ?_⟩
  rw [h3]; trivial
theorem pe_fldA {X : Cx} {e : Expr} {f : Str} {ta : TE} {pos : Pos} (he : PE X e ta) (hb : attributeBase e f X.env (eval e X.env) = eval e X.env) : PE X (.Attribute e f pos) (tFldA X.K ta f) := by
  refine ⟨fun pins s σ H Q I h => ?_⟩
  refine attr_of hb (thn (he.run pins s σ H _ I h) fun u s1 ⟨x, H1, I1, rx, a, C, es, v, ex, ea, hno, l, q⟩ => ?_)
  subst ex
  obtain rfl : u = Value.ref a := rx
  cases ea with
  | ins dx c h => exact getattr_ok I1 h c.cl hno l fun u' s2 I2 ru => ⟨v, H1, I2, ru, q⟩
  | exc dx c h hd =>
    obtain ⟨ox, od, mA, J, hl, hr⟩ := exo_inst I1 h hd
    obtain ⟨u, hu, ru⟩ := RelO.some_of (v := v) (o := mA f) (by rw [← l]; exact hr f)
    exact HandSPX.exc_get I1.kIn J c.hg c.hk c.hs (PySem.W.findObj_own c.hd hno rfl (by rw [hl, hu])) (handed_of ru) ⟨v, H1, I1.tok _, ru, q⟩
  | exc0 c h he => rw [he] at l; cases l
  | hot dx c h hd =>
    obtain ⟨ox, od, mA, J, hl, hr⟩ := exh_inst I1 h hd
    obtain ⟨u, hu, ru⟩ := RelO.some_of (v := v) (o := mA f) (by rw [← l]; exact hr f)
    exact HandSPX.exc_get I1.kIn J c.hg c.hk c.hs (PySem.W.findObj_own c.hd hno rfl (by rw [hl, hu])) (handed_of ru) ⟨v, H1, I1.tok _, ru, q⟩
  | hot0 c h he => rw [he] at l; cases l
/-- none of these classes has the name -/
def NoAt (M : Md) (cs : List Str) (f : Str) : Prop := ∀ c ∈ cs, ∀ C, M.mg c = some (.ref C) → NoAttr M.K C f
theorem noAt_nil {M : Md} {f : Str} : NoAt M [] f := fun c hc => by cases hc
theorem noAt_cons {M : Md} {c f : Str} {C : Addr} {cs : List Str} (h : M.mg c = some (.ref C)) (n : PySem.W.findIn M.K (.ref C) f = some none) (r : NoAt M cs f) : NoAt M (c :: cs) f := fun x hx D hD => by
  rcases List.mem_cons.mp hx with z | z
  · subst z
    rw [h] at hD
    cases hD
    exact n
  · exact r x z D hD
def insW : W → Hg → Option (Str × List (Str × W))
  | .d (.ins c fs), _ => some (c, fs.map fun p => (p.1, .d p.2))
  | .ref i, G => match G[i]? with
    | some (.ins c fs) => some (c, fs)
    | _ => none
  | _, _ => none
def fldW (cs : List Str) (f : Str) (w : W) (G : Hg) : Option W := match insW w G with
  | some (c, fs) => if cs.contains c then fs.lookup f else none
  | none => none
theorem RpF.wf {M : Md} {F : Hp} {ι : Nat → Addr} {n : Nat} : ∀ {fs : List (Str × D)} {es : List (Str × V)}, RpF M F fs es → RpWF M F ι n (fs.map fun p => (p.1, .d p.2)) es
  | [], es, h => by simpa only [RpF, List.map_nil, RpWF] using h
  | (k, d) :: fs, es, h => by
    simp only [RpF] at h
    obtain ⟨x, er, rfl, h1, h2⟩ := h
    simp only [List.map_cons, RpWF, RpW]
    exact ⟨x, er, rfl, h1, RpF.wf h2⟩
theorem RpWF.look {M : Md} {F : Hp} {ι : Nat → Addr} {n : Nat} {f : Str} {w : W} : ∀ {fs : List (Str × W)} {es : List (Str × V)}, RpWF M F ι n fs es → fs.lookup f = some w → ∃ v, es.lookup f = some v ∧ RpW M F ι n w v
  | [], es, _, e => by cases e
  | (k, u) :: fs, es, h, e => by
    simp only [RpWF] at h
    obtain ⟨x, er, rfl, h1, h2⟩ := h
    rw [List.lookup_cons] at e ⊢
    cases q : f == k with
    | true => rw [q] at e; cases e; exact ⟨x, rfl, h1⟩
    | false => rw [q] at e; exact RpWF.look h2 e
theorem Sim.insV {C : GC} {F H : Hp} {ι : Nat → Addr} {G : Hg} {w : W} {c : Str} {fs : List (Str × W)} {v : V} (s : Sim C F H ι G) (e : insW w G = some (c, fs)) (r : RpW C.m F ι G.length w v) :
    ∃ a Ca es, v = .ref a ∧ C.m.mg c = some (.ref Ca) ∧ InsAt C.m.K H a Ca es ∧ RpWF C.m F ι G.length fs es := by
  cases w with
  | d x =>
    cases x with
    | ins c' fs' =>
      cases e
      simp only [RpW, Rp] at r
      obtain ⟨a, Ca, es, h1, h2, h3, h4⟩ := r
      exact ⟨a, Ca, es, h1, h2, h3.mono s.fh, h4.wf⟩
    | _ => cases e
  | tup ws => cases e
  | ref i =>
    simp only [insW] at e
    simp only [RpW] at r
    obtain ⟨hi, rfl⟩ := r
    cases q : G[i]? with
    | none => rw [q] at e; cases e
    | some o =>
      rw [q] at e
      cases o with
      | ins c' fs' =>
        cases e
        obtain ⟨_, _, Ca, dx, es, h0, hc, h1, h2⟩ := s.live i _ q (fun z => by cases z)
        exact ⟨_, Ca, es, rfl, h0, .ins dx hc h1, h2⟩
      | _ => cases e
def gFld (cs : List Str) (f : Str) (a : GE) : GE := fun ρ G => (a ρ G).bind fun w G1 => liftP (fldW cs f w G1) G1
section
variable {X : Cx} {e : Expr} {ge : GE} {f : Str} {cs : List Str} {pos : Pos}
theorem ge_fld (hn : NoAt (md X) cs f) (he : GJE X e ge) (hb : attributeBase e f X.env (eval e X.env) = eval e X.env := by rfl) : GJE X (.Attribute e f pos) (gFld cs f ge) := ⟨fun B F0 wx tk => by
  refine PE.imp (pe_fldA (he.run B F0 wx tk) hb) fun σ H Q ⟨F, ι, ρ, G, s, hr, hp⟩ => ?_
  refine ⟨F, ι, ρ, G, s, hr, (Post.fst hp).imp fun v H1 ⟨F1, ι1, w, G1, e1, s1, r1, p1⟩ => ?_⟩
  cases q : fldW cs f w G1 with
  | none => rw [q] at p1; exact p1.elim
  | some z =>
    rw [q] at p1
    unfold fldW at q
    cases q2 : insW w G1 with
    | none => rw [q2] at q; cases q
    | some p =>
      obtain ⟨c, fs⟩ := p
      rw [q2] at q
      simp only at q
      by_cases hc : cs.contains c = true
      · rw [if_pos hc] at q
        obtain ⟨a, Ca, es, rfl, h2, h3, h4⟩ := s1.insV q2 r1
        obtain ⟨x, h5, h6⟩ := h4.look q
        exact ⟨a, Ca, es, x, rfl, h3, hn c (by simpa using hc) Ca h2, h5, p1 x H1 (out_w s1 h6)⟩
      · rw [if_neg hc] at q; cases q⟩
end

/-! ### isinstance, own classes too -/
inductive TyE (K : PySem.W.Frag) (H : Hp) : V → Value → Prop where
  | x {v : V} {t : Value} (h : TyX K H v t) : TyE K H v t
  | i {a Ca : Addr} {es : List (Str × V)} (h : InsAt K H a Ca es) : TyE K H (.ref a) (.ref Ca)
theorem excC_cls {K : PySem.W.Frag} {Ca : Addr} (c : ExcC K Ca) : (PySem.W.clsIn K Ca).isSome = true := by
  obtain ⟨cd, h, _⟩ := PySem.W.any_some c.hd
  rw [h]
  rfl
theorem kit_ofE {X : Cx} {pins : List (Addr × Obj)} {σ : L2.St} {H : Hp} {s : Shared} {x : V} {u t : Value} (I : Inv X pins σ H s) (rx : RelV x u) (ty : TyE X.K H x t) : ∃ P : Heap → Prop, PySem.W.KitX X.K u t P ∧ P s.heap ∧ u ≠ .builtin "__main__.__loader__#opaque" := by
  cases ty with
  | x h => exact kit_of I rx h
  | i h =>
    cases (show u = Value.ref _ from rx)
    cases h with
    | ins dx c h => exact kit_of (x := .ref _) I rfl (.base (.ins h c.cl c.ha c.hn c.ht c.hm))
    | exc dx c h hd =>
      obtain ⟨ox, od, mA, J, _, _⟩ := exo_inst I h hd
      exact ⟨_, PySem.W.kitx_exc (excC_cls c) c.hg c.hk c.hs c.ha c.hn c.ht c.hm, J, fun z => nomatch z⟩
    | exc0 c h he =>
      obtain ⟨ox, J⟩ := exo_inst0 I h
      exact ⟨_, PySem.W.kitx_exc (excC_cls c) c.hg c.hk c.hs c.ha c.hn c.ht c.hm, J, fun z => nomatch z⟩
    | hot dx c h hd =>
      obtain ⟨ox, od, mA, J, _, _⟩ := exh_inst I h hd
      exact ⟨_, PySem.W.kitx_exc (excC_cls c) c.hg c.hk c.hs c.ha c.hn c.ht c.hm, J, fun z => nomatch z⟩
    | hot0 c h he =>
      obtain ⟨ox, J⟩ := exh_inst0 I h
      exact ⟨_, PySem.W.kitx_exc (excC_cls c) c.hg c.hk c.hs c.ha c.hn c.ht c.hm, J, fun z => nomatch z⟩
def rIsiE (K : PySem.W.Frag) : List V → Hp → VK → Prop := fun xs H Q => ∃ (x c : V) (t u : Value) (b : Bool), xs = [x, c] ∧ ClsV c u ∧ TyE K H x t ∧ PySem.W.kitOne K t u = some b ∧ Q (.bl b) H
def rIsiET (K : PySem.W.Frag) : List V → Hp → VK → Prop := fun xs H Q => ∃ (x : V) (tp : Addr) (cs : List V) (t : Value) (us : List Value) (b : Bool), xs = [x, .ref tp] ∧ H tp = some (.tup cs) ∧ Paired ClsV cs us ∧ TyE K H x t ∧ PySem.W.kitAny K t us = some b ∧ Q (.bl b) H
theorem call_isiE {X : Cx} : CallR X (.builtin "isinstance") (rIsiE X.K) := by
  intro pins s σ H xs us Q I r h
  obtain ⟨x, c, t, u, b, rfl, k, ty, e, q⟩ := h
  obtain ⟨u1, u2, rfl, r1, r2⟩ := vals2 r
  have e2 := k.eq r2
  subst e2
  obtain ⟨P, Z, p, hx⟩ := kit_ofE I r1 ty
  exact PySem.W.kia_one Z I.kIn p e hx fun tk => ⟨V.bl b, H, I.tok tk, rfl, q⟩
theorem call_isiET {X : Cx} : CallR X (.builtin "isinstance") (rIsiET X.K) := by
  intro pins s σ H xs us Q I r h
  obtain ⟨x, tp, cs, t, ws, b, rfl, hT, k, ty, e, q⟩ := h
  obtain ⟨u1, u2, rfl, r1, r2⟩ := vals2 r
  cases (show u2 = Value.ref tp from r2)
  obtain ⟨P, Z, p, hx⟩ := kit_ofE I r1 ty
  obtain ⟨_, its, rv, ob, h1, h2, n, h3⟩ := (show ObjOk X.prog X.w H s.heap tp (.tup cs) from I.hok tp _ hT)
  have e3 := ClsV.all k rv
  subst e3
  obtain ⟨oc, od, dt, sl⟩ := ob
  simp only at h2 h3
  subst h2 h3
  exact PySem.W.kia_tup Z I.kIn p h1 e hx fun tk => ⟨V.bl b, H, I.tok tk, rfl, q⟩
/-- what a value is: of a built-in type, or of an own class -/
inductive Tc where
  | b (t : Ty) | o (c : Str)
def tcW (w : W) (G : Hg) : Option Tc := match tyW w G with
  | some t => some (.b t)
  | none => (insW w G).map fun p => .o p.1
/-- the answers for one class or several -/
structure KitT (M : Md) (us : List Value) (f : Tc → Option Bool) : Prop where
  b : ∀ t r, f (.b t) = some r → PySem.W.kitAny M.K (.type t.name) us = some r
  o : ∀ c Ca r, f (.o c) = some r → M.mg c = some (.ref Ca) → PySem.W.kitAny M.K (.ref Ca) us = some r
theorem Sim.tc {C : GC} {F H : Hp} {ι : Nat → Addr} {G : Hg} {w : W} {t : Tc} {v : V} {us : List Value} {f : Tc → Option Bool} {r : Bool} (s : Sim C F H ι G) (e : tcW w G = some t) (k : KitT C.m us f) (hf : f t = some r) (rr : RpW C.m F ι G.length w v) :
    ∃ tv, TyE C.m.K H v tv ∧ PySem.W.kitAny C.m.K tv us = some r := by
  unfold tcW at e
  cases q : tyW w G with
  | some ty =>
    rw [q] at e
    cases e
    exact ⟨_, .x (s.ty q rr), k.b _ _ hf⟩
  | none =>
    rw [q] at e
    obtain ⟨p, q2, rfl⟩ := map_some e
    obtain ⟨c, fs⟩ := p
    obtain ⟨a, Ca, es, rfl, h2, h3, h4⟩ := s.insV q2 rr
    exact ⟨_, .i h3, k.o _ _ _ hf h2⟩
def gIsc (f : Tc → Option Bool) (a : GE) : GE := fun ρ G => (a ρ G).bind fun w G1 => match tcW w G1 with
  | some t => (match f t with
    | some r => .ok (.d (.bl r)) G1
    | none => .stuck)
  | none => .stuck
/-- the names of classes, and what they are -/
inductive ClsNm (X : Cx) : List Expr → List V → List Value → Prop where
  | nil : ClsNm X [] [] []
  | ty {x : Str} {p : Pos} {es : List Expr} {vs : List V} {us : List Value} (T : String) (hv : bootBuiltins x = some (.type T)) (hx : X.mg x = none) (hg : Gl X x) (hn : x ≠ "__name__") (hd : (x == ("__debug__" : Str)) = false)
      (hs : starEach (.Name x p :: es) X.env = (false, eval (.Name x p) X.env) :: starEach es X.env) (r : ClsNm X es vs us) : ClsNm X (.Name x p :: es) (.ty T :: vs) (.type T :: us)
  | own {x : Str} {p : Pos} {es : List Expr} {vs : List V} {us : List Value} (C : Addr) (hx : X.mg x = some (.ref C)) (hg : Gl X x) (hd : (x == ("__debug__" : Str)) = false)
      (hs : starEach (.Name x p :: es) X.env = (false, eval (.Name x p) X.env) :: starEach es X.env) (r : ClsNm X es vs us) : ClsNm X (.Name x p :: es) (.ref C :: vs) (.ref C :: us)
theorem ClsNm.pa {X : Cx} : ∀ {es : List Expr} {vs : List V} {us : List Value}, ClsNm X es vs us → PA X es (fun σ H Q => Q vs H)
  | _, _, _, .nil => pa_nil
  | _, _, _, .ty t hv hx hg hn hd hs r => PA.imp (pa_cons (pe_bltn (v := .ty _) hg hx hv rfl hn hd) r.pa hs) fun _ _ _ h => h
  | _, _, _, .own C hx hg hd hs r => PA.imp (pa_cons (pe_glob (v := .ref C) hg hx rfl hd) r.pa hs) fun _ _ _ h => h
theorem ClsNm.pair {X : Cx} : ∀ {es : List Expr} {vs : List V} {us : List Value}, ClsNm X es vs us → Paired ClsV vs us
  | _, _, _, .nil => .nil
  | _, _, _, .ty t hv hx hg hn hd hs r => .cons (.ty _) r.pair
  | _, _, _, .own C hx hg hd hs r => .cons (.own _) r.pair
theorem kitAny_one {K : PySem.W.Frag} {t u : Value} {r : Bool} (h : PySem.W.kitAny K t [u] = some r) : PySem.W.kitOne K t u = some r := by
  unfold PySem.W.kitAny at h
  cases q : PySem.W.kitOne K t u with
  | none => rw [q] at h; cases h
  | some b =>
    rw [q] at h
    cases b with
    | true => exact h
    | false => exact h
section
variable {X : Cx} {e : Expr} {ge : GE} {p p1 p2 pos : Pos} {f : Tc → Option Bool}
theorem ge_isc {x : Str} {vs : List V} {us : List Value} (hm : X.mg "isinstance" = none) (he : GJE X e ge) (hc : ClsNm X [.Name x p1] vs us) (k : KitT (md X) us f) (hg : Gl X "isinstance" := by rfl)
    (hs : starEach [e, .Name x p1] X.env = (false, eval e X.env) :: starEach [.Name x p1] X.env := by rfl) (hpl : (backTo pos (starEach [.Name x p1] X.env)).any (·.1) = false := by rfl) :
    GJE X (.Call (.Name "isinstance" p) [e, .Name x p1] [] pos) (gIsc f ge) := ⟨fun B F0 wx tk => by
  refine PE.imp (pe_callB call_isiE hg hm (by decide +kernel) (pa_cons (he.run B F0 wx tk) hc.pa hs) (by decide) (by decide) hs hpl) fun σ H Q ⟨F, ι, ρ, G, s, hr, hp⟩ => ?_
  refine ⟨F, ι, ρ, G, s, hr, (Post.fst hp).imp fun v H1 ⟨F1, ι1, w, G1, e1, s1, r1, q1⟩ => ?_⟩
  cases q : tcW w G1 with
  | none => rw [q] at q1; exact q1.elim
  | some t =>
    rw [q] at q1
    simp only at q1
    cases q2 : f t with
    | none => rw [q2] at q1; exact q1.elim
    | some r =>
      rw [q2] at q1
      obtain ⟨tv, h1, h2⟩ := s1.tc q k q2 r1
      have pr := hc.pair
      cases hc with
      | ty t hv hx hg hn hd hs r =>
        cases r
        exact ⟨v, _, tv, _, _, rfl, .ty _, h1, kitAny_one h2, q1 _ _ (out_flat s1 rpB)⟩
      | own C hx hg hd hs r =>
        cases r
        exact ⟨v, _, tv, _, _, rfl, .own _, h1, kitAny_one h2, q1 _ _ (out_flat s1 rpB)⟩⟩
theorem InsAt.there {K : PySem.W.Frag} {F : Hp} {a Ca : Addr} {es : List (Str × V)} (h : InsAt K F a Ca es) : ∃ o, F a = some o := by
  cases h with
  | ins dx c h => exact ⟨_, h⟩
  | exc dx c h hd => exact ⟨_, h⟩
  | exc0 c h he => exact ⟨_, h⟩
  | hot dx c h hd => exact ⟨_, h⟩
  | hot0 c h he => exact ⟨_, h⟩
theorem ge_iscT {es : List Expr} {n : Nat} {vs : List V} {us : List Value} (hm : X.mg "isinstance" = none) (he : GJE X e ge) (hc : ClsNm X es vs us) (k : KitT (md X) us f) (hl : small vs.length = true := by rfl) (hg : Gl X "isinstance" := by rfl)
    (hs : starEach [e, .Tuple es n p1] X.env = (false, eval e X.env) :: starEach [.Tuple es n p1] X.env := by rfl) (hs2 : starEach [.Tuple es n p1] X.env = (false, eval (.Tuple es n p1) X.env) :: starEach [] X.env := by rfl) (hpl : (backTo pos (starEach [.Tuple es n p1] X.env)).any (·.1) = false := by rfl) :
    GJE X (.Call (.Name "isinstance" p) [e, .Tuple es n p1] [] pos) (gIsc f ge) := ⟨fun B F0 wx tk => by
  refine PE.imp (pe_callB call_isiET hg hm (by decide +kernel) (pa_cons (he.run B F0 wx tk) (pa_cons (pe_tup hc.pa) pa_nil hs2) hs) (by decide) (by decide) hs hpl) fun σ H Q ⟨F, ι, ρ, G, s, hr, hp⟩ => ?_
  refine ⟨F, ι, ρ, G, s, hr, (Post.fst hp).imp fun v H1 ⟨F1, ι1, w, G1, e1, s1, r1, q1⟩ => ?_⟩
  cases q : tcW w G1 with
  | none => rw [q] at q1; exact q1.elim
  | some t =>
    rw [q] at q1
    simp only at q1
    cases q2 : f t with
    | none => rw [q2] at q1; exact q1.elim
    | some r =>
      rw [q2] at q1
      refine ⟨small_le hl, fun tp htp => ?_⟩
      have s2 := s1.drop (o := .tup vs) htp
      obtain ⟨tv, h1, h2⟩ := s2.tc q k q2 r1
      exact ⟨v, tp, vs, tv, us, _, rfl, upd_same, hc.pair, h1, h2, q1 _ _ (out_flat s2 rpB)⟩⟩
end
end Gh

set_option Elab.async false
set_option linter.all false
set_option maxRecDepth 100000
set_option maxHeartbeats 4000000
namespace Gh
open PySem PySem.Spec PyProof.Rows L2

/-! ### exceptions are made -/
/-- the exception class c, its __init__ with these fields -/
structure ClsX (P : Program) (w : World) (K : PySem.W.Frag) (mg : Str → Option Value) (base : Heap) (c : Str) (fs : List Str) : Prop where
  ex : ∃ (C fI : Addr) (fd : FuncData) (ps : List Str), mg c = some (.ref C) ∧ OexC K C ∧ ExcC K C ∧ PySem.W.findIn K (.ref C) "__init__" = some (some (.ref fI)) ∧ PySem.W.typeIn K (.ref fI) = some (.type "function") ∧
    FnOk P w K mg base (L2.CX P w) 1 fI fd ps (spI K fs) ∧ Binds K fd ps [] ∧ (∀ f ∈ fs, PySem.W.findIn K (.ref C) f = some none)
/-- the exception class c, without an own __init__ -/
structure ClsX0 (K : PySem.W.Frag) (mg : Str → Option Value) (c : Str) : Prop where
  ex : ∃ (C : Addr), mg c = some (.ref C) ∧ OexC K C ∧ ExcC K C ∧ ∃ (B initId : String) (bmB : List Value) (newId : String), ExcBaseFacts B newId initId bmB ∧ PySem.W.excIn K C bmB newId = true
def mkX (c : Str) (fs : List Str) (ds : List D) : D := .ins c (fs.zip ds).reverse
def gMkX (c : Str) (fs : List Str) (a : GEs) : GE := fun ρ G => (a ρ G).bind fun ws G1 => match allD ws with
  | some ds => if ds.length = fs.length ∧ fs.length ≤ 900 then .ok (.d (mkX c fs ds)) G1 else .stuck
  | none => .stuck
def gRaise (c : Str) (fs : List Str) (a : GEs) : GS := fun ρ G => (a ρ G).toS ρ fun ws G1 => match allD ws with
  | some ds => if ds.length = fs.length ∧ fs.length ≤ 900 then .exc ⟨c, (fs.zip ds).reverse⟩ ρ G1 else .stuck
  | none => .stuck
theorem RpL.length {M : Md} {F : Hp} : ∀ {ds : List D} {xs : List V}, RpL M F ds xs → ds.length = xs.length
  | [], xs, h => by simp only [RpL] at h; subst h; rfl
  | d :: ds, xs, h => by
    simp only [RpL] at h
    obtain ⟨x, r, rfl, _, h2⟩ := h
    simp [RpL.length h2]
theorem RpF.app {M : Md} {F : Hp} : ∀ {fs gs : List (Str × D)} {es hs : List (Str × V)}, RpF M F fs es → RpF M F gs hs → RpF M F (fs ++ gs) (es ++ hs)
  | [], gs, es, hs, h, k => by simp only [RpF] at h; subst h; simpa using k
  | (n, d) :: fs, gs, es, hs, h, k => by
    simp only [RpF] at h
    obtain ⟨x, r, rfl, h1, h2⟩ := h
    simp only [List.cons_append, RpF]
    exact ⟨x, _, rfl, h1, h2.app k⟩
theorem rpF_zip {M : Md} {F : Hp} : ∀ {ns : List Str} {ds : List D} {xs : List V}, RpL M F ds xs → RpF M F (ns.zip ds).reverse (ns.zip xs).reverse
  | [], ds, xs, h => by simp [RpF]
  | n :: ns, [], xs, h => by simp only [RpL] at h; subst h; simp [RpF]
  | n :: ns, d :: ds, xs, h => by
    simp only [RpL] at h
    obtain ⟨x, r, rfl, h1, h2⟩ := h
    simp only [List.zip_cons_cons, List.reverse_cons]
    refine (rpF_zip h2).app ?_
    simp only [RpF]
    exact ⟨x, [], rfl, h1, rfl⟩
/-- the value -/
def tMkV (C : Addr) (sp : Sp) (ta : TA) : TE := fun σ H Q => ta σ H fun vs H1 => vs.length ≤ 1000 ∧ ∀ a, H1 a = none → sp (.ref a :: vs) (upd H1 a (exo a C none)) (fun v H2 => Q (.ref a) H2) (fun _ _ _ => False)
theorem pe_mkV {X : Cx} {x : Str} {C fI : Addr} {k : Nat} {fd : FuncData} {ps : List Str} {sp : Sp} {e : Expr} {es : List Expr} {ta : TA} {p pos : Pos} (T : OexC X.K C) (iC : PySem.W.findIn X.K (.ref C) "__init__" = some (some (.ref fI))) (tI : PySem.W.typeIn X.K (.ref fI) = some (.type "function"))
    (F1 : FnOk X.prog X.w X.K X.mg X.base (L2.CX X.prog X.w) k fI fd ps sp) (hr : Room (k + 1) X.A) (hb : Binds X.K fd ps []) (hx : Passes (L2.CX X.prog X.w) X (fun _ _ _ => False)) (hnn : ∀ vs H Q E, sp vs H Q E → sp vs H (fun v H2 => v = .non ∧ Q v H2) E) (hg : Gl X x) (hm : X.mg x = some (.ref C)) (ha : PA X (e :: es) ta)
    (hdb : (x == ("__debug__" : Str)) = false := by decide) (he : starEach (e :: es) X.env = (false, eval e X.env) :: starEach es X.env := by rfl) (hpl : (backTo pos (starEach es X.env)).any (·.1) = false := by rfl) :
    PE X (.Call (.Name x p) (e :: es) [] pos) (tMkV C sp ta) := by
  refine ⟨fun pins s σ H Q I h => ?_⟩
  obtain ⟨nm, q, N, bs, bm, sn, sub, ab, col, dd, k0, k1, k2, k3, k5, hC, hbm⟩ := T.cls
  refine wpAny_Call_Name_kw (ld_glob I hg hm ?_ hdb)
  refine PySem.W.callWith_K (h₀ := X.base) I.ok.mod.kin T.kC (thn (ha.run pos pins s σ H _ I h) fun us s1 ⟨vs, H1, I1, r1, hz, q1⟩ => ⟨I1.kIn, ?_⟩) he hpl
  show wpAny _ _ (call (.ref C) us) _ _ _
  obtain ⟨hp, g, dr, tk, os⟩ := s1
  have hsz : hp.objs.size ≤ hp.objs.size + 1 := Nat.le_succ _
  have hn : H1 (hp.objs.size + 1) = none := I1.hok.fresh hsz
  have hq := hnn _ _ _ _ (q1 (hp.objs.size + 1) hn)
  have kk : ∀ b o, hp.get? b = some o → ((hp.push (PySem.W.kdv_tup us)).push (PySem.HandSPX.excO C hp.objs.size)).get? b = some o := fun b o e => Heap.get?_push_of_some _ (Heap.get?_push_of_some _ e)
  have at1 : ((hp.push (PySem.W.kdv_tup us)).push (PySem.HandSPX.excO C hp.objs.size)).get? (hp.objs.size + 1) = some (PySem.HandSPX.excO C hp.objs.size) := by heap_get
  have I2 : Inv X pins σ (upd H1 (hp.objs.size + 1) (exo (hp.objs.size + 1) C none)) ⟨(hp.push (PySem.W.kdv_tup us)).push (PySem.HandSPX.excO C hp.objs.size), g, dr, tk, os⟩ :=
    I1.laid (t' := tk) (a := hp.objs.size + 1) (o := exo (hp.objs.size + 1) C none) (h' := (hp.push (PySem.W.kdv_tup us)).push (PySem.HandSPX.excO C hp.objs.size)) kk hsz (exo_ok at1)
  have r2 : Vals (V.ref (hp.objs.size + 1) :: vs) (Value.ref (hp.objs.size + 1) :: us) := .cons rfl r1
  have hl : (Value.ref (hp.objs.size + 1) :: us).length = ps.length := by
    have e := r2.length
    rw [F1.len _ _ _ _ hq] at e
    exact e.symm
  have hus : us.length ≤ sizeLine := by
    rw [← Paired.length r1, sizeLine_eq]
    omega
  have bb := hb _ (Value.ref (hp.objs.size + 1) :: us) I2.kIn (by rw [List.append_nil]; exact hl)
  rw [List.append_nil] at bb
  refine wpAny_call (PySem.HandSPX.call_own PySem.F.excBase_ValueError (fun Y => PySem.HandSPX.refsVE_contains Y bm hbm) (I1.kIn _ _ hC) (PySem.W.looks_findIn I1.kIn iC) (fun self => PySem.W.bind_fn I1.kIn self tI) hus
    (codeAny_mono (F1.run _ X.stack _ _ ⟨Value.ref (hp.objs.size + 1) :: us, []⟩ (Value.ref (hp.objs.size + 1) :: us) _ _ (fun _ _ _ => False) (hr.make C us []) (I2.env0.make C us []) bb r2 hq) fun r s' hq' => ?_))
  cases r with
  | error er => exact hx pins σ _ _ er s' I2 hq'
  | ok fl =>
    cases fl with
    | ret u =>
      obtain ⟨v, H2, I3, rv, ev, q2⟩ := I2.after hq'
      subst ev
      exact ⟨rv, .ref (hp.objs.size + 1), H2, I3, rfl, q2⟩
    | next => exact False.elim hq'
    | brk => exact False.elim hq'
    | cont => exact False.elim hq'
theorem spI_non {K : PySem.W.Frag} {fs : List Str} : ∀ vs H Q E, spI K fs vs H Q E → spI K fs vs H (fun v H2 => v = .non ∧ Q v H2) E := fun vs H Q E ⟨a, C, ys, h1, h2, h3, h4, h5, h6⟩ => ⟨a, C, ys, h1, h2, h3, h4, h5, fun dx n ne => ⟨rfl, h6 dx n ne⟩⟩
theorem pass_none {X : Cx} {wx : WX} (tk : Takes X wx) : Passes (L2.CX X.prog X.w) X (fun _ _ _ => False) := fun pins σ H s e s' I c => passes_call tk (fun _ _ _ _ h => h.elim) pins σ H s e s' I c
section
variable {X : Cx} {x : Str} {fs : List Str} {e : Expr} {es : List Expr} {gs : GEs} {p pos pos' : Pos} {j : Nat}
theorem ge_mkX (c : ClsX X.prog X.w X.K X.mg X.base x fs) (hr : RoomG j X.A) (hj : 2 ≤ j) (ha : GJA X (e :: es) gs) (hg : Gl X x := by rfl)
    (hdb : (x == ("__debug__" : Str)) = false := by decide) (he : starEach (e :: es) X.env = (false, eval e X.env) :: starEach es X.env := by rfl) (hpl : (backTo pos (starEach es X.env)).any (·.1) = false := by rfl) :
    GJE X (.Call (.Name x p) (e :: es) [] pos) (gMkX x fs gs) := ⟨fun B F0 wx tk => by
  obtain ⟨C, fI, fd, ps, hm, T, EC, iC, tI, Fn, hb, hno⟩ := c.ex
  refine PE.imp (pe_mkV T iC tI Fn (hr.mono hj).r hb (pass_none tk) spI_non hg hm (ha.run B F0 wx tk) hdb he hpl) fun σ H Q ⟨F, ι, ρ, G, s, he, hp⟩ => ?_
  refine ⟨F, ι, ρ, G, s, he, (PostL.fst hp).imp fun vs H1 ⟨F1, ι1, ws, G1, e1, s1, r1, p1⟩ => ?_⟩
  cases q : allD ws with
  | none => rw [q] at p1; exact p1.elim
  | some ds =>
    rw [q] at p1
    simp only at p1
    by_cases hc : ds.length = fs.length ∧ fs.length ≤ 900
    · rw [if_pos hc] at p1
      have rl := allD_rp q r1
      have hlen := rl.length
      refine ⟨by omega, fun a na => ⟨a, C, vs, rfl, by omega, upd_same, T, hno, fun dx nd nda => ?_⟩⟩
      rw [upd_upd]
      have nd' : upd H1 a (exo a C (some dx)) dx = none := by rw [upd_ne nda]; rw [upd_ne nda] at nd; exact nd
      obtain ⟨s2, e2⟩ := s1.lay (o := exo a C (some dx)) na
      obtain ⟨s3, e3⟩ := s2.lay (o := exd dx (fs.zip vs).reverse) nd'
      refine p1 _ _ ⟨_, _, e2.trans e3, s3, ?_⟩
      simp only [RpW, mkX, Rp]
      refine ⟨a, C, (fs.zip vs).reverse, rfl, hm, .exc dx EC (by rw [upd_ne (Ne.symm nda)]; exact upd_same) upd_same, rpF_zip (rl.mono (e2.trans e3).fr)⟩
    · rw [if_neg hc] at p1; exact p1.elim⟩
theorem gs_raise (c : ClsX X.prog X.w X.K X.mg X.base x fs) (hr : RoomG j X.A) (hj : 2 ≤ j) (hcm : X.calm = true) (ha : GJA X (e :: es) gs) (hg : Gl X x := by rfl)
    (hdb : (x == ("__debug__" : Str)) = false := by decide) (he : starEach (e :: es) X.env = (false, eval e X.env) :: starEach es X.env := by rfl) (hpl : (backTo pos (starEach es X.env)).any (·.1) = false := by rfl) :
    GJS X (.Raise (some (.Call (.Name x p) (e :: es) [] pos)) none pos') (gRaise x fs gs) := ⟨fun B F0 wx tk => by
  obtain ⟨C, fI, fd, ps, hm, T, EC, iC, tI, Fn, hb, hno⟩ := c.ex
  refine PS.imp (ps_raise hcm tk (pmk_oex (ds := []) (dvs := []) T iC tI Fn (hr.mono hj).r hb .nil (pass_none tk) hg hm (ha.run B F0 wx tk) hdb he hpl)) fun D σ H ⟨F, ι, ρ, G, s, he, hp⟩ => ?_
  unfold gRaise at hp
  refine ⟨F, ι, ρ, G, s, he, ?_⟩
  cases qg : gs ρ G with
  | stuck => rw [qg] at hp; exact hp.elim
  | exc x G' => rw [qg] at hp; exact fun cls d H' ⟨F', ι', a, b, c⟩ => hp cls d σ H' F' ι' a b (he.mono a) c
  | ok ws G1 =>
    rw [qg] at hp
    rintro vs H1 ⟨F1, ι1, e1, s1, r1⟩
    simp only [Res.toS] at hp
    cases q : allD ws with
    | none => rw [q] at hp; exact hp.elim
    | some ds =>
      rw [q] at hp
      simp only at hp
      by_cases hc : ds.length = fs.length ∧ fs.length ≤ 900
      · rw [if_pos hc] at hp
        have rl := allD_rp q r1
        have hlen := rl.length
        refine ⟨by omega, fun a na => ⟨a, C, vs, by rw [List.append_nil], by omega, upd_same, T, hno, fun dx nd nda => ?_⟩⟩
        rw [upd_upd]
        have nd' : H1 dx = none := by rw [upd_ne nda] at nd; exact nd
        refine ⟨rfl, dx, (fs.zip vs).reverse, by rw [upd_ne (Ne.symm nda)]; exact upd_same, upd_same, nd', ?_⟩
        have eH : upd (del (upd (upd H1 a (exo a C (some dx))) dx (exd dx (fs.zip vs).reverse)) a) dx (.xd (fs.zip vs).reverse) = upd H1 dx (.xd (fs.zip vs).reverse) := by
          funext b
          by_cases hbd : b = dx
          · rw [hbd, upd_same, upd_same]
          · rw [upd_ne hbd, upd_ne hbd]
            by_cases hba : b = a
            · rw [hba, del_same, na]
            · rw [del_ne hba, upd_ne hbd, upd_ne hba]
        rw [eH]
        obtain ⟨s2, e2⟩ := s1.lay (o := .xd (fs.zip vs).reverse) nd'
        refine hp _ _ _ _ _ _ (e1.trans e2) s2 (he.mono (e1.trans e2)) ⟨C, hm, EC, rfl, _, upd_same, rpF_zip (rl.mono e2.fr)⟩
      · rw [if_neg hc] at hp; exact hp.elim⟩
/-- X(), no own __init__ -/
theorem pe_mkV0 {C : Addr} {bmB : List Value} {B newId initId : String} (Fb : ExcBaseFacts B newId initId bmB) (q : PySem.W.excIn X.K C bmB newId = true) (gC : X.mg x = some (.ref C)) (kC : PySem.W.keepIn X.K (.ref C) = true) (hg : Gl X x) (hdb : (x == ("__debug__" : Str)) = false := by decide) :
    PE X (.Call (.Name x p) [] [] pos) (fun σ H Q => ∀ a, H a = none → Q (.ref a) (upd H a (exo a C none))) := by
  refine ⟨fun pins s σ H Q I h => ?_⟩
  refine wpAny_Call_Name_kw (ld_glob I hg gC ?_ hdb)
  refine PySem.W.callWith_K0 I.kIn kC ?_
  show wpAny _ _ (call (.ref C) []) _ _ _
  obtain ⟨bm, N, nm, qn, bs, hdct, sn, sub, ab, col, dd, k0, k1, k2, k3, k5, mN, hC, hN, hni, T⟩ := exc_obj I.kIn q
  refine wpAny_call_exc_subT Fb T hC hN hni (fun h' a hm => ?_) (Nat.zero_le _)
  have hn : H a = none := I.hok.gone hm.new
  obtain ⟨t, ht, _, _⟩ := hm.there
  exact ⟨.ref a, upd H a (exo a C none), I.laidN hm.keeps hm.new hn (exo_ok ht), rfl, h a hn⟩
theorem pmk_own0 {C : Addr} {bmB : List Value} {B newId initId : String} (Fb : ExcBaseFacts B newId initId bmB) (q : PySem.W.excIn X.K C bmB newId = true) (gC : X.mg x = some (.ref C)) (kC : PySem.W.keepIn X.K (.ref C) = true) (r : Raises X (.ref C)) (hg : Gl X x) (hdb : (x == ("__debug__" : Str)) = false := by decide) :
    PMk X (.Call (.Name x p) [] [] pos) (fun σ H Q => Q (.ref C) none H) := by
  intro pins s σ H Q I h
  refine wpAny_Call_Name_kw (ld_glob I hg gC ?_ hdb)
  refine PySem.W.callWith_K0 I.kIn kC ?_
  show wpAny _ _ (call (.ref C) []) _ _ _
  obtain ⟨bm, N, nm, qn, bs, hdct, sn, sub, ab, col, dd, k0, k1, k2, k3, k5, mN, hC, hN, hni, T⟩ := exc_obj I.kIn q
  refine wpAny_call_exc_subT Fb T hC hN hni (fun h' a hm => ?_) (Nat.zero_le _)
  exact mk_of I hm r h (I.hok.gone hm.new)
def gMk0 (c : Str) : GE := fun _ G => .ok (.d (.ins c [])) G
def gRaise0 (c : Str) : GS := fun ρ G => .exc ⟨c, []⟩ ρ G
theorem ge_mk0 (c : ClsX0 X.K X.mg x) (hg : Gl X x := by rfl) (hdb : (x == ("__debug__" : Str)) = false := by decide) : GJE X (.Call (.Name x p) [] [] pos) (gMk0 x) := ⟨fun B F0 wx tk => by
  obtain ⟨C, hm, T, EC, B', initId, bmB, newId, Fb, q⟩ := c.ex
  refine PE.imp (pe_mkV0 Fb q hm T.kC hg hdb) fun σ H Q ⟨F, ι, ρ, G, s, he, hp⟩ a na => ?_
  obtain ⟨s2, e2⟩ := s.lay (o := exo a C none) na
  refine hp _ _ ⟨_, _, e2, s2, ?_⟩
  simp only [RpW, Rp]
  exact ⟨a, C, [], rfl, hm, .exc0 EC upd_same rfl, by simp only [RpF]⟩⟩
theorem gs_raise0 (c : ClsX0 X.K X.mg x) (hcm : X.calm = true) (hg : Gl X x := by rfl) (hdb : (x == ("__debug__" : Str)) = false := by decide) : GJS X (.Raise (some (.Call (.Name x p) [] [] pos)) none pos') (gRaise0 x) := ⟨fun B F0 wx tk => by
  obtain ⟨C, hm, T, EC, B', initId, bmB, newId, Fb, q⟩ := c.ex
  refine PS.imp (ps_raise hcm tk (pmk_own0 Fb q hm T.kC (raises_own T.exC T.tyC) hg hdb)) fun D σ H ⟨F, ι, ρ, G, s, he, hp⟩ => ?_
  exact hp _ none σ H F ι .refl s he ⟨C, hm, EC, rfl, rfl⟩⟩
end
end Gh

set_option Elab.async false
set_option linter.all false
set_option maxRecDepth 100000
set_option maxHeartbeats 4000000
namespace Gh
open PySem PySem.Spec PyProof.Rows L2

/-! ### facts of classes, as bools -/
theorem band {a b : Bool} (h : (a && b) = true) : a = true ∧ b = true := Bool.and_eq_true_iff.mp h
def excCb (K : PySem.W.Frag) (D : Addr) : Bool :=
  decide (PySem.W.findIn K (.ref D) "__getattribute__" = some (some (.builtin "BaseException.__getattribute__"))) && (decide (PySem.W.findIn K (.ref D) "__getattr__" = some none) && (decide (PySem.W.subIn K (.ref D) (.type "BaseException") = some true) && (PySem.W.hasDictIn K D &&
    (decide (PySem.W.findIn K (.ref D) "__class__" = some (some (.builtin "object.__class__"))) && (decide (PySem.W.specialIn K (.builtin "object.__class__") "__get__" = some (some (.builtin "getset_descriptor.__get__"))) && (decide (PySem.W.takesIn K (.builtin "object.__class__") = some true) && decide (PySem.W.mroIn K D (.type "object") = some true)))))))
theorem excCb_ok {K : PySem.W.Frag} {D : Addr} (h : excCb K D = true) : ExcC K D := by
  obtain ⟨h1, h⟩ := band h
  obtain ⟨h2, h⟩ := band h
  obtain ⟨h3, h⟩ := band h
  obtain ⟨h4, h⟩ := band h
  obtain ⟨h5, h⟩ := band h
  obtain ⟨h6, h⟩ := band h
  obtain ⟨h7, h8⟩ := band h
  exact ⟨of_decide_eq_true h1, of_decide_eq_true h2, of_decide_eq_true h3, h4, of_decide_eq_true h5, of_decide_eq_true h6, of_decide_eq_true h7, of_decide_eq_true h8⟩
def oexOb (K : PySem.W.Frag) (C : Addr) : Bool := match K.lookup C with
  | some ⟨.type "type", _, .cls cd, sl⟩ => (match cd.mro, sl.toList with
    | .ref D :: bm, [_, _, _, _, some (.builtin n), _] => decide (D = C) && (decide (n = "ValueError.__new__") && (!cd.hasDel && (cd.hasDict && PySem.HandSPX.refsVE bm)))
    | _, _ => false)
  | _ => false
def oexb (K : PySem.W.Frag) (C : Addr) : Bool := oexOb K C && (decide (PySem.W.findIn K (.ref C) "__setattr__" = some (some (.builtin "object.__setattr__"))) && (decide (PySem.W.subIn K (.ref C) (.type "BaseException") = some true) && (decide (PySem.W.typeIn K (.ref C) = some (.type "type")) && PySem.W.keepIn K (.ref C))))
theorem oexb_ok {K : PySem.W.Frag} {C : Addr} (h : oexb K C = true) : OexC K C := by
  obtain ⟨h1, h⟩ := band h
  obtain ⟨h2, h⟩ := band h
  obtain ⟨h3, h⟩ := band h
  obtain ⟨h4, h5⟩ := band h
  refine ⟨?_, of_decide_eq_true h2, of_decide_eq_true h3, of_decide_eq_true h4, h5⟩
  unfold oexOb at h1
  split at h1
  · rename_i dd cd sl ho
    split at h1
    · rename_i D bm k0 k1 k2 k3 n k5 hm hs
      obtain ⟨g1, h1⟩ := band h1
      obtain ⟨g2, h1⟩ := band h1
      obtain ⟨g3, h1⟩ := band h1
      obtain ⟨g4, g5⟩ := band h1
      have e1 := of_decide_eq_true g1
      have e2 := of_decide_eq_true g2
      obtain ⟨nm, bs, mro, ns, qn, hd, sn, sub, ab, col, del⟩ := cd
      obtain ⟨l⟩ := sl
      simp only [Bool.not_eq_true'] at hm hs g3 g4
      subst hm hs e1 e2 g3 g4
      exact ⟨nm, qn, ns, bs, bm, sn, sub, ab, col, dd, k0, k1, k2, k3, k5, ho, g5⟩
    · cases h1
  · cases h1
/-- an instance's class -/
def inCb (K : PySem.W.Frag) (D : Addr) : Bool := PySem.W.plainGet K D Str.empty && (PySem.W.hasDictIn K D && (PySem.W.plainOver K D && (decide (PySem.W.findIn K (.ref D) "__setattr__" = some (some (.builtin "object.__setattr__"))) &&
    (decide (PySem.W.findIn K (.ref D) "__class__" = some (some (.builtin "object.__class__"))) && (decide (PySem.W.specialIn K (.builtin "object.__class__") "__get__" = some (some (.builtin "getset_descriptor.__get__"))) && (decide (PySem.W.takesIn K (.builtin "object.__class__") = some true) && decide (PySem.W.mroIn K D (.type "object") = some true)))))))
theorem inCb_ok {K : PySem.W.Frag} {D : Addr} (h : inCb K D = true) : InC K D := by
  obtain ⟨h1, h⟩ := band h
  obtain ⟨h2, h⟩ := band h
  obtain ⟨h3, h⟩ := band h
  obtain ⟨h4, h⟩ := band h
  obtain ⟨h5, h⟩ := band h
  obtain ⟨h6, h⟩ := band h
  obtain ⟨h7, h8⟩ := band h
  exact ⟨⟨h1, h2, h3, of_decide_eq_true h4⟩, of_decide_eq_true h5, of_decide_eq_true h6, of_decide_eq_true h7, of_decide_eq_true h8⟩
/-- an exception class with an __init__ of these fields -/
def clsXb (K : PySem.W.Frag) (c : Str) (fs : List Str) : Bool := He.eqO (PySem.W.nsIn K mainGlobals c) (some (some (.ref (He.ga K c)))) && (oexb K (He.ga K c) && (excCb K (He.ga K c) && (decide (PySem.W.findIn K (.ref (He.ga K c)) "__init__" = some (some (.ref (He.ma K (He.ga K c) "__init__")))) &&
  (decide (PySem.W.typeIn K (.ref (He.ma K (He.ga K c) "__init__")) = some (.type "function")) && fs.all fun f => decide (PySem.W.findIn K (.ref (He.ga K c)) f = some none)))))
def clsX0b (K : PySem.W.Frag) (c : Str) : Bool := He.eqO (PySem.W.nsIn K mainGlobals c) (some (some (.ref (He.ga K c)))) && (oexb K (He.ga K c) && (excCb K (He.ga K c) && PySem.W.excIn K (He.ga K c) He.veBase "ValueError.__new__"))
section
variable {P : Program} {w : World} {K : PySem.W.Frag} {h : Heap} {mg : Str → Option Value} {base : Heap}
theorem clsXb_ok (X : K.In h) (G : h.Ns mainGlobals mg) {c : Str} {fs : List Str} {fd : FuncData} {ps : List Str} (b : clsXb K c fs = true) (F : FnOk P w K mg base (L2.CX P w) 1 (He.ma K (He.ga K c) "__init__") fd ps (spI K fs)) (hb : Binds K fd ps []) : ClsX P w K mg base c fs := by
  obtain ⟨h1, b⟩ := band b
  obtain ⟨h2, b⟩ := band b
  obtain ⟨h3, b⟩ := band b
  obtain ⟨h4, b⟩ := band b
  obtain ⟨h5, h6⟩ := band b
  exact ⟨_, _, fd, ps, PySem.W.mg_of X G (He.eqO_ok h1), oexb_ok h2, excCb_ok h3, of_decide_eq_true h4, of_decide_eq_true h5, F, hb, fun f hf => of_decide_eq_true (List.all_eq_true.mp h6 f hf)⟩
theorem clsX0b_ok (X : K.In h) (G : h.Ns mainGlobals mg) {c : Str} (b : clsX0b K c = true) : ClsX0 K mg c := by
  obtain ⟨h1, b⟩ := band b
  obtain ⟨h2, b⟩ := band b
  obtain ⟨h3, h4⟩ := band b
  exact ⟨_, PySem.W.mg_of X G (He.eqO_ok h1), oexb_ok h2, excCb_ok h3, "ValueError", _, _, _, PySem.F.excBase_ValueError, h4⟩
end
/-- the answers of isinstance: by tables -/
def tcf (bt : List (Ty × Bool)) (ot : List (Str × Bool)) : Tc → Option Bool
  | .b t => bt.lookup t
  | .o c => ot.lookup c
/-- a class by name: a built-in's | the module's -/
inductive Cn where
  | b (T : String) | o (x : Str)
def Cn.v (K : PySem.W.Frag) : Cn → Value
  | .b T => .type T
  | .o x => .ref (He.ga K x)
def kitTb (K : PySem.W.Frag) (us : List Cn) (bt : List (Ty × Bool)) (ot : List (Str × Bool)) : Bool := (bt.all fun p => decide (PySem.W.kitAny K (.type p.1.name) (us.map (Cn.v K)) = some p.2)) && (ot.all fun p => He.eqO (PySem.W.nsIn K mainGlobals p.1) (some (some (.ref (He.ga K p.1)))) && decide (PySem.W.kitAny K (.ref (He.ga K p.1)) (us.map (Cn.v K)) = some p.2))
theorem look_mem {α β : Type} [BEq α] [LawfulBEq α] {a : α} {b : β} : ∀ {l : List (α × β)}, l.lookup a = some b → (a, b) ∈ l
  | [], h => by cases h
  | (x, y) :: l, h => by
    rw [List.lookup_cons] at h
    cases q : a == x with
    | true => rw [q] at h; cases h; rw [eq_of_beq q]; exact List.mem_cons_self
    | false => rw [q] at h; exact List.mem_cons_of_mem _ (look_mem h)
theorem kitTb_ok {K : PySem.W.Frag} {w : World} {h : Heap} {mg : Str → Option Value} (X : K.In h) (G : h.Ns mainGlobals mg) {us : List Cn} {bt : List (Ty × Bool)} {ot : List (Str × Bool)} (b : kitTb K us bt ot = true) : KitT ⟨K, mg, w⟩ (us.map (Cn.v K)) (tcf bt ot) := by
  obtain ⟨h1, h2⟩ := band b
  refine ⟨fun t r hr => ?_, fun c Ca r hr hc => ?_⟩
  · exact of_decide_eq_true (List.all_eq_true.mp h1 _ (look_mem (show bt.lookup t = some r from hr)))
  · have z := List.all_eq_true.mp h2 _ (look_mem (show ot.lookup c = some r from hr))
    obtain ⟨z1, z2⟩ := band z
    have e := PySem.W.mg_of X G (He.eqO_ok z1)
    have hc' : mg c = some (.ref Ca) := hc
    rw [e] at hc'
    cases hc'
    exact of_decide_eq_true z2
def noAtb (K : PySem.W.Frag) (cs : List Str) (f : Str) : Bool := cs.all fun c => He.eqO (PySem.W.nsIn K mainGlobals c) (some (some (.ref (He.ga K c)))) && decide (PySem.W.findIn K (.ref (He.ga K c)) f = some none)
theorem noAtb_ok {K : PySem.W.Frag} {w : World} {h : Heap} {mg : Str → Option Value} (X : K.In h) (G : h.Ns mainGlobals mg) {cs : List Str} {f : Str} (b : noAtb K cs f = true) : NoAt ⟨K, mg, w⟩ cs f := fun c hc C hC => by
  have z := List.all_eq_true.mp b c hc
  obtain ⟨z1, z2⟩ := band z
  have e := PySem.W.mg_of X G (He.eqO_ok z1)
  have hC' : mg c = some (.ref C) := hC
  rw [e] at hC'
  cases hC'
  exact show PySem.W.findIn K (.ref (He.ga K c)) f = some none from of_decide_eq_true z2
theorem glob_ok {K : PySem.W.Frag} {h : Heap} {mg : Str → Option Value} (X : K.In h) (G : h.Ns mainGlobals mg) {x : Str} (b : He.eqO (PySem.W.nsIn K mainGlobals x) (some (some (.ref (He.ga K x)))) = true) : mg x = some (.ref (He.ga K x)) := PySem.W.mg_of X G (He.eqO_ok b)
theorem freeb_ok {K : PySem.W.Frag} {h : Heap} {mg : Str → Option Value} (X : K.In h) (G : h.Ns mainGlobals mg) {x : Str} (b : He.eqO (PySem.W.nsIn K mainGlobals x) (some none) = true) : mg x = none := PySem.W.mg_none_of X G (He.eqO_ok b)

/-! ### a law's end -/
theorem walk_ofW {l : PySem.W.OpenLaw} {n k : Nat} {q : Program} {loose : List Str} {XP : (Str → Option Value) → Heap → Prop} {YP : World → Heap → Prop} {d : DefRec} {x : Str} {f : List D → PRes}
    (hn : l.most = some n) (hn2 : n ≤ sizeLine) (hdf : d.params.defaults = []) (hr : Room k callerA)
    (F : ∀ (w : World) (mg : Str → Option Value) (fa : Addr) (h : Heap), YP w h → h.Ns mainGlobals mg → mg d.name = some (.ref fa) →
      ∃ (K : PySem.W.Frag) (fd : FuncData), K.In h ∧ (∀ (s : Shared) (u : Value), BindsTo s fd ⟨[u], []⟩ [(x, u)]) ∧ ∀ base : Heap, K.In base → base.Ns mainGlobals mg → FnG l.prog w K mg base (L2.CX l.prog w) k fa fd [x] (spP ⟨K, mg, w⟩ 1 f))
    (hf : ∀ ns : List Int, ns.length ≤ n → (∀ z ∈ ns, Builtin.Int.intBits z ≤ 1048576) → f [.lst (ns.map .int)] = .ok (.bl true)) :
    PySem.W.WalkO q loose XP YP l.row.toRowW d [] (fun f vs => PySem.call f vs) := by
  refine Att.attach_callB hn hdf fun w s₀ s₁ mg mb fa o pm cd doc a vs ns G Y ho hd hcd hmg hobj hints hlen hbits hg => ?_
  obtain ⟨K, fd, KX, hb, hF⟩ := F w mg fa _ Y G.T.g hmg
  refine law_callG KX G.T.g G.T.b G.T.builtins G.T.nolimit hg hobj hints (Nat.le_trans hlen hn2) hr hF hb (fun H hO hS => ?_) fun H e s' c => ?_
  · refine ⟨H, [.lst (ns.map .int)], rfl, Same.refl _, ?_, ?_⟩
    · have gen : ∀ l : List Int, RpL ⟨K, mg, w⟩ H (l.map D.int) (l.map V.int) := by
        intro l
        induction l with
        | nil => simp only [List.map_nil, RpL]
        | cons i l ih => simp only [List.map_cons, RpL, Rp]; exact ⟨_, _, rfl, rfl, ih⟩
      simp only [RpL, Rp]
      exact ⟨_, _, rfl, ⟨_, _, rfl, hS, gen ns⟩, rfl⟩
    · rw [hf ns hlen hbits]
      intro v F' H' _ _ _ _ r
      simp only [Rp] at r
      exact r
  · obtain ⟨_, _, _, _, _, _, _, _, _, _, _, _, z⟩ := c
    exact z
end Gh

set_option Elab.async false
set_option linter.all false
set_option maxRecDepth 100000
set_option maxHeartbeats 4000000
namespace Gh
open PySem PySem.Spec PyProof.Rows L2

/-! ### keys: ints and texts -/
theorem key_rp {M : Md} {F : Hp} {d : D} {k : Key} {v : V} (h : keyD d = some k) (r : Rp M F d v) : v = kV k := by
  cases d with
  | int i => cases h; simp only [Rp] at r; exact r
  | str i => cases h; simp only [Rp] at r; exact r
  | _ => cases h
theorem key_same {a b : D} {ka kb : Key} (ha : keyD a = some ka) (hb : keyD b = some kb) : sameD a b = decide (ka = kb) := by
  cases a with
  | int i =>
    cases ha
    cases b with
    | int j => cases hb; simp [sameD]
    | str j => cases hb; simp [sameD]
    | _ => cases hb
  | str i =>
    cases ha
    cases b with
    | int j => cases hb; simp [sameD]
    | str j => cases hb; simp [sameD]
    | _ => cases hb
  | _ => cases ha
def lookK (kvs : List (D × W)) (k : D) : Option W := (kvs.find? fun p => sameD p.1 k).map (·.2)
def putW (kvs : List (D × W)) (k : D) (w : W) : List (D × W) := if kvs.any (fun p => sameD p.1 k) then kvs.map (fun p => if sameD p.1 k then (p.1, w) else p) else kvs ++ [(k, w)]
def dropW (kvs : List (D × W)) (k : D) : List (D × W) := kvs.filter fun p => !sameD p.1 k
section
variable {M : Md} {F : Hp} {ι : Nat → Addr} {n : Nat} {k : D} {kk : Key}
theorem RpWK.length : ∀ {kvs : List (D × W)} {es : List (Key × V)}, RpWK M F ι n kvs es → kvs.length = es.length
  | [], es, h => by simp only [RpWK] at h; subst h; rfl
  | (k, w) :: kvs, es, h => by
    simp only [RpWK] at h
    obtain ⟨k2, x, r, rfl, _, _, h2⟩ := h
    simp [RpWK.length h2]
theorem RpWK.look (hk : keyD k = some kk) : ∀ {kvs : List (D × W)} {es : List (Key × V)}, RpWK M F ι n kvs es → (∀ w, lookK kvs k = some w → ∃ v, valV es kk = some v ∧ RpW M F ι n w v) ∧ (lookK kvs k = none → valV es kk = none)
  | [], es, h => by simp only [RpWK] at h; subst h; exact ⟨fun w e => by simp [lookK] at e, fun _ => rfl⟩
  | (k1, w1) :: kvs, es, h => by
    simp only [RpWK] at h
    obtain ⟨k2, x, r, rfl, h1, h2, h3⟩ := h
    have e := key_same h1 hk
    obtain ⟨i1, i2⟩ := RpWK.look hk h3
    by_cases c : k2 = kk
    · have e' : sameD k1 k = true := by rw [e]; exact decide_eq_true c
      have l : lookK ((k1, w1) :: kvs) k = some w1 := by simp [lookK, List.find?_cons, e']
      rw [l, valV_pos (p := (k2, x)) c]
      exact ⟨fun w q => by cases q; exact ⟨x, rfl, h2⟩, fun q => by cases q⟩
    · have e' : sameD k1 k = false := by rw [e]; exact decide_eq_false c
      have l : lookK ((k1, w1) :: kvs) k = lookK kvs k := by simp [lookK, List.find?_cons, e']
      rw [l, valV_neg (p := (k2, x)) c]
      exact ⟨i1, i2⟩
theorem RpWK.any (hk : keyD k = some kk) {kvs : List (D × W)} {es : List (Key × V)} (h : RpWK M F ι n kvs es) : kvs.any (fun p => sameD p.1 k) = es.any (fun p => decide (p.1 = kk)) := by
  induction kvs generalizing es with
  | nil => simp only [RpWK] at h; subst h; rfl
  | cons p kvs ih =>
    obtain ⟨k1, w1⟩ := p
    simp only [RpWK] at h
    obtain ⟨k2, x, r, rfl, h1, h2, h3⟩ := h
    rw [List.any_cons, List.any_cons, ih h3, key_same h1 hk]
theorem RpWK.put (hk : keyD k = some kk) {w : W} {v : V} (rv : RpW M F ι n w v) {kvs : List (D × W)} {es : List (Key × V)} (h : RpWK M F ι n kvs es) : RpWK M F ι n (putW kvs k w) (putK es kk v) := by
  have rep : ∀ {kvs : List (D × W)} {es : List (Key × V)}, RpWK M F ι n kvs es → RpWK M F ι n (kvs.map fun p => if sameD p.1 k then (p.1, w) else p) (es.map fun kv => if kv.1 = kk then (kv.1, v) else kv) := by
    intro kvs
    induction kvs with
    | nil => intro es h; simp only [RpWK] at h; subst h; simp [RpWK]
    | cons p kvs ih =>
      intro es h
      obtain ⟨k1, w1⟩ := p
      simp only [RpWK] at h
      obtain ⟨k2, x, r, rfl, h1, h2, h3⟩ := h
      have e := key_same h1 hk
      simp only [List.map_cons]
      by_cases c : k2 = kk
      · have e' : sameD k1 k = true := by rw [e]; exact decide_eq_true c
        rw [if_pos e', if_pos c]
        simp only [RpWK]
        exact ⟨k2, v, _, rfl, h1, rv, ih h3⟩
      · have e' : ¬ sameD k1 k = true := by rw [e]; simpa using c
        rw [if_neg e', if_neg c]
        simp only [RpWK]
        exact ⟨k2, x, _, rfl, h1, h2, ih h3⟩
  have app : ∀ {kvs : List (D × W)} {es : List (Key × V)}, RpWK M F ι n kvs es → RpWK M F ι n (kvs ++ [(k, w)]) (es ++ [(kk, v)]) := by
    intro kvs
    induction kvs with
    | nil => intro es h; simp only [RpWK] at h; subst h; simp only [List.nil_append, RpWK]; exact ⟨kk, v, [], rfl, hk, rv, rfl⟩
    | cons p kvs ih =>
      intro es h
      obtain ⟨k1, w1⟩ := p
      simp only [RpWK] at h
      obtain ⟨k2, x, r, rfl, h1, h2, h3⟩ := h
      simp only [List.cons_append, RpWK]
      exact ⟨k2, x, _, rfl, h1, h2, ih h3⟩
  unfold putW putK
  rw [RpWK.any hk h]
  split
  · exact rep h
  · exact app h
theorem RpWK.drop (hk : keyD k = some kk) {kvs : List (D × W)} {es : List (Key × V)} (h : RpWK M F ι n kvs es) : RpWK M F ι n (dropW kvs k) (dropK es kk) := by
  unfold dropW dropK
  induction kvs generalizing es with
  | nil => simp only [RpWK] at h; subst h; simp [RpWK]
  | cons p kvs ih =>
    obtain ⟨k1, w1⟩ := p
    simp only [RpWK] at h
    obtain ⟨k2, x, r, rfl, h1, h2, h3⟩ := h
    have e := key_same h1 hk
    by_cases c : k2 = kk
    · have e' : sameD k1 k = true := by rw [e]; exact decide_eq_true c
      rw [List.filter_cons_of_neg (by simp [e']), List.filter_cons_of_neg (by simp [c])]
      exact ih h3
    · have e' : sameD k1 k = false := by rw [e]; exact decide_eq_false c
      rw [List.filter_cons_of_pos (by simp [e']), List.filter_cons_of_pos (by simp [c])]
      simp only [RpWK]
      exact ⟨k2, x, _, rfl, h1, h2, ih h3⟩
theorem RpK.wk : ∀ {kvs : List (D × D)} {es : List (Key × V)}, RpK M F kvs es → RpWK M F ι n (kvs.map fun p => (p.1, .d p.2)) es
  | [], es, h => by simpa only [RpK, List.map_nil, RpWK] using h
  | (k, d) :: kvs, es, h => by
    simp only [RpK] at h
    obtain ⟨k2, x, r, rfl, h1, h2, h3⟩ := h
    simp only [List.map_cons, RpWK, RpW]
    exact ⟨k2, x, r, rfl, h1, h2, RpK.wk h3⟩
end
/-- a dict with such keys that is read -/
def dicW : W → Hg → Option (List (D × W))
  | .d (.dic false kvs), _ => some (kvs.map fun p => (p.1, .d p.2))
  | .ref i, G => match G[i]? with
    | some (.dic false kvs) => some kvs
    | some (.lkd false kvs) => some kvs
    | _ => none
  | _, _ => none
def keyW (w : W) : Option D := match w with
  | .d x => if (keyD x).isSome then some x else none
  | _ => none
theorem keyW_inv {w : W} {k : D} (h : keyW w = some k) : w = .d k ∧ ∃ kk, keyD k = some kk := by
  cases w with
  | d x =>
    simp only [keyW] at h
    by_cases c : (keyD x).isSome = true
    · rw [if_pos c] at h
      cases h
      exact ⟨rfl, Option.isSome_iff_exists.mp c⟩
    · rw [if_neg c] at h; cases h
  | _ => cases h
theorem Sim.dic {C : GC} {F H : Hp} {ι : Nat → Addr} {G : Hg} {w : W} {kvs : List (D × W)} {v : V} (s : Sim C F H ι G) (e : dicW w G = some kvs) (r : RpW C.m F ι G.length w v) :
    ∃ a es, v = .ref a ∧ Rd H a (.dK es) ∧ RpWK C.m F ι G.length kvs es := by
  cases w with
  | tup ws => cases e
  | d x =>
    simp only [RpW] at r
    cases x with
    | dic t ks =>
      cases t with
      | true => cases e
      | false =>
        cases e
        simp only [Rp] at r
        obtain ⟨a, od, es, rfl, h1, h2⟩ := r
        exact ⟨a, es, rfl, .inr ⟨od, s.fh _ _ h1⟩, h2.wk⟩
    | _ => cases e
  | ref i =>
    simp only [RpW] at r
    obtain ⟨hi, rfl⟩ := r
    simp only [dicW] at e
    cases q : G[i]? with
    | none => rw [q] at e; cases e
    | some o =>
      rw [q] at e
      cases o with
      | dic t ks =>
        cases t with
        | true => cases e
        | false => cases e; obtain ⟨_, _, es, h1, h2⟩ := s.live i _ q (fun z => by cases z); exact ⟨_, es, rfl, .inl h1, h2⟩
      | lkd t ks =>
        cases t with
        | true => cases e
        | false => cases e; obtain ⟨_, _, od, es, h1, h2⟩ := s.live i _ q (fun z => by cases z); exact ⟨_, es, rfl, .inr ⟨od, h1⟩, h2⟩
      | _ => cases e
/-- what a dict holds -/
theorem Sim.dget {C : GC} {F H : Hp} {ι : Nat → Addr} {G : Hg} {w u : W} {kvs : List (D × W)} {k : D} {x y : V} (s : Sim C F H ι G) (e : dicW w G = some kvs) (ek : keyW u = some k) (r : RpW C.m F ι G.length w x) (ru : RpW C.m F ι G.length u y) :
    ∃ a, x = .ref a ∧ IsD H a ∧ (∀ z, lookK kvs k = some z → ∃ v, DGet H a y (some v) ∧ RpW C.m F ι G.length z v) ∧ (lookK kvs k = none → DGet H a y none) := by
  obtain ⟨a, es, rfl, h1, h2⟩ := s.dic e r
  obtain ⟨rfl, kk, hk⟩ := keyW_inv ek
  simp only [RpW] at ru
  have ey := key_rp hk ru
  obtain ⟨l1, l2⟩ := h2.look hk
  exact ⟨a, rfl, .inl ⟨es, h1⟩, fun z hz => let ⟨v, e1, e2⟩ := l1 z hz; ⟨v, .inl ⟨es, kk, h1, ey, e1.symm⟩, e2⟩, fun hz => .inl ⟨es, kk, h1, ey, (l2 hz).symm⟩⟩

/-! ### d[k], k in d -/
def rDGetR (K : PySem.W.Frag) : R2 := fun x y H Q => ∃ a v, x = .ref a ∧ DGet H a y (some v) ∧ Q v H
theorem ix_dict {X : Cx} (hu : X.A.units + 65 < cLine) : IxR X (rDGetR X.K) := by
  intro value slice pins s σ H x y v u Q I rx ry h hs
  obtain ⟨a, z, rfl, g, q⟩ := h
  obtain rfl : v = Value.ref a := rx
  have hT := dict_typeIs I g
  have fin : wpAny (model X.prog X.w) X.A (getItem (.ref a) u) (EP X pins σ Q) X.xe s := d_getItem (by omega) I g ry fun w' s3 I3 rw' => ⟨z, H, I3, rw', q⟩
  have fin2 : wpAny (model X.prog X.w) X.A (subscripted slice false (.ref a) u) (fun r s₃ => wpAny (model X.prog X.w) X.A (letTemporaryGo value (.ref a) r >>= fun _ => pure r) (EP X pins σ Q) X.xe s₃) X.xe s := by
    rw [hs]
    exact wpAny_operating (wpAny_mono fin (fun r s₃ h₃ => wpAny_bind (wpAny_letTemporaryGo (wpAny_pure h₃))) fun _ _ x => x)
  unfold subscriptTail
  refine wpAny_bind ?_
  rw [getitemInPython_of_ne hT.not_modules]
  refine wpAny_bind (wpAny_specialOf hT PySem.F.slot_dict_getitem.lookup ?_)
  first
    | exact wpAny_pure (wpAny_bind fin2)
    | exact wpAny_bind (wpAny_pure (wpAny_bind fin2))
    | exact wpAny_bind fin2
def rIxD (K : PySem.W.Frag) : R2 := fun x y H Q => rIxA K x y H Q ∨ rDGetR K x y H Q
theorem ix_D {X : Cx} (hu : X.A.units + 65 < cLine) : IxR X (rIxD X.K) := ix_A.or (ix_dict hu)
def fIxD (w u : W) (G : Hg) : Option (W × Hg) := match dicW w G with
  | some kvs => (match keyW u with
    | some k => (lookK kvs k).map fun z => (z, G)
    | none => none)
  | none => fIx w u G
theorem og_ixD {X : Cx} : OpG X (rIxD X.K) fIxD := by
  intro C F H ι G w u x y z G' Q hK s rw_ ru e hQ
  unfold fIxD at e
  cases q : dicW w G with
  | none => rw [q] at e; exact .inl (og_ix C F H ι G w u x y z G' Q hK s rw_ ru e hQ)
  | some kvs =>
    rw [q] at e
    simp only at e
    cases q2 : keyW u with
    | none => rw [q2] at e; cases e
    | some k =>
      rw [q2] at e
      obtain ⟨t, q3, e3⟩ := map_some e
      cases e3
      obtain ⟨a, rfl, _, h1, _⟩ := s.dget q q2 rw_ ru
      obtain ⟨v, h2, h3⟩ := h1 _ q3
      exact .inr ⟨a, v, rfl, h2, hQ _ _ (out_w s h3)⟩
def rInD (K : PySem.W.Frag) (neg : Bool) : R2 := fun x y H Q => rInA K neg x y H Q ∨ ∃ a o, y = .ref a ∧ DGet H a x o ∧ Q (.bl (neg ^^ o.isSome)) H
theorem op_inD {X : Cx} (hu : X.A.units + 65 < cLine) : OpR X (compareOp .In) (rInD X.K false) := by
  intro pins s σ H x y v u Q I rx ry h
  rcases h with h | ⟨a, o, rfl, g, q⟩
  · exact op_inA hu pins s σ H x y v u Q I rx ry h
  · obtain rfl : u = Value.ref a := ry
    exact d_in (by omega) I g rx fun s' I' => ⟨.bl o.isSome, H, I', rfl, by rw [Bool.false_xor] at q; exact q⟩
theorem op_notInD {X : Cx} (hu : X.A.units + 65 < cLine) : OpR X (compareOp .NotIn) (rInD X.K true) := by
  intro pins s σ H x y v u Q I rx ry h
  rcases h with h | ⟨a, o, rfl, g, q⟩
  · exact op_notInA hu pins s σ H x y v u Q I rx ry h
  · obtain rfl : u = Value.ref a := ry
    exact d_notIn (by omega) I g rx fun s' I' => ⟨.bl (!o.isSome), H, I', rfl, by rw [Bool.true_xor] at q; exact q⟩
def fInD (neg : Bool) (w u : W) (G : Hg) : Option (W × Hg) := match dicW u G with
  | some kvs => (match keyW w with
    | some k => some (.d (.bl (neg ^^ (lookK kvs k).isSome)), G)
    | none => none)
  | none => fIn neg w u G
theorem og_inD {X : Cx} {neg : Bool} : OpG X (rInD X.K neg) (fInD neg) := by
  intro C F H ι G w u x y z G' Q hK s rw_ ru e hQ
  unfold fInD at e
  cases q : dicW u G with
  | none =>
    rw [q] at e
    exact .inl (og_in C F H ι G w u x y z G' Q hK s rw_ ru e hQ)
  | some kvs =>
    rw [q] at e
    simp only at e
    cases q2 : keyW w with
    | none => rw [q2] at e; cases e
    | some k =>
      rw [q2] at e
      cases e
      obtain ⟨a, rfl, _, h1, h2⟩ := s.dget q q2 ru rw_
      cases l : lookK kvs k with
      | none => exact .inr ⟨a, none, rfl, h2 l, hQ _ _ (out_flat s (by rw [l]; exact rpB))⟩
      | some t =>
        obtain ⟨v, h3, _⟩ := h1 t l
        exact .inr ⟨a, some v, rfl, h3, hQ _ _ (out_flat s (by rw [l]; exact rpB))⟩
/-! ### d[k] = v, xs[i] = v -/
def getDm (w : W) (G : Hg) : Option (Nat × List (D × W)) := match w with
  | .ref i => match G[i]? with
    | some (.dic false kvs) => some (i, kvs)
    | _ => none
  | _ => none
theorem getDm_inv {w : W} {G : Hg} {i : Nat} {kvs : List (D × W)} (h : getDm w G = some (i, kvs)) : w = .ref i ∧ G[i]? = some (.dic false kvs) := by
  cases w with
  | ref j =>
    simp only [getDm] at h
    cases q : G[j]? with
    | none => rw [q] at h; cases h
    | some o =>
      rw [q] at h
      cases o with
      | dic t us =>
        cases t with
        | true => cases h
        | false => cases h; exact ⟨rfl, q⟩
      | _ => cases h
  | _ => cases h
theorem out_wrD {C : GC} {F H : Hp} {ι : Nat → Addr} {G : Hg} {i : Nat} {kvs us : List (D × W)} {ys : List (Key × V)} {w : W} {v : V} (s : Sim C F H ι G) (h : G[i]? = some (.dic false kvs)) (r : RpWK C.m F ι G.length us ys) (rv : RpW C.m F ι G.length w v) :
    Out C F ι G.length w (G.set i (.dic false us)) v (upd H (ι i) (.dK ys)) := by
  have s' := s.write (o := .dK ys) (g := .dic false us) h (fun z => by cases z) ⟨ys, upd_same, r⟩
  refine ⟨F, ι, ⟨Same.refl _, fun _ _ => rfl, by simp⟩, s', ?_⟩
  rw [List.length_set]
  exact rv
theorem Sim.dicm {C : GC} {F H : Hp} {ι : Nat → Addr} {G : Hg} {i : Nat} {kvs : List (D × W)} (s : Sim C F H ι G) (h : G[i]? = some (.dic false kvs)) : ∃ es, H (ι i) = some (.dK es) ∧ RpWK C.m F ι G.length kvs es := by
  obtain ⟨_, _, es, h1, h2⟩ := s.live i _ h (fun z => by cases z)
  exact ⟨es, h1, h2⟩
def fSetD (w u v : W) (G : Hg) : Option Hg := match getDm w G with
  | some (i, kvs) => (match keyW u with
    | some k => if Nat.blt kvs.length 16777216 then some (G.set i (.dic false (putW kvs k v))) else none
    | none => none)
  | none => fSetL w u v G
def rSetD : V → V → V → Hp → (Hp → Prop) → Prop := fun o i v H Q => rSetL o i v H Q ∨ ∃ a H', o = .ref a ∧ DPut H a i v H' ∧ Q H'
theorem set_D {X : Cx} (hu : X.A.units + 65 < cLine) : PSet X rSetD := by
  intro pins s σ H o i v ov iv u Q I ro ri rv h
  rcases h with h | ⟨a, H', rfl, g, q⟩
  · exact set_list pins s σ H o i v ov iv u Q I ro ri rv h
  · obtain rfl : ov = Value.ref a := ro
    exact d_setItem (by omega) I g ri rv fun s' I' => ⟨H', I', q⟩
theorem sg_D {X : Cx} : SetG X rSetD fSetD := by
  intro C F H ι G wo wi wv o i v G' Q hK s ro ri rv e hQ
  unfold fSetD at e
  cases q : getDm wo G with
  | none => rw [q] at e; exact .inl (sg_list (X := X) C F H ι G wo wi wv o i v G' Q hK s ro ri rv e hQ)
  | some p =>
    obtain ⟨j, kvs⟩ := p
    rw [q] at e
    simp only at e
    cases q2 : keyW wi with
    | none => rw [q2] at e; cases e
    | some k =>
      rw [q2] at e
      simp only at e
      by_cases c : Nat.blt kvs.length 16777216 = true
      · rw [if_pos c] at e
        cases e
        obtain ⟨rfl, hj⟩ := getDm_inv q
        obtain ⟨rfl, kk, hk⟩ := keyW_inv q2
        simp only [RpW] at ro ri
        obtain ⟨hl, rfl⟩ := ro
        have ey := key_rp hk ri
        obtain ⟨es, h1, h2⟩ := s.dicm hj
        obtain ⟨F', ι', e1, s1, _⟩ := out_wrD (w := .d .non) (v := .non) s hj (h2.put hk rv) (by simp only [RpW, Rp])
        subst ey
        exact .inr ⟨_, _, rfl, .inl ⟨es, kk, h1, rfl, by rw [sizeLine_eq, ← h2.length]; exact Nat.le_of_ble_eq_true c, rfl⟩, hQ _ ⟨F', ι', e1, s1⟩⟩
      · rw [if_neg c] at e; cases e

/-! ### {}, d.get, d.pop, len -/
theorem out_newD {C : GC} {F H : Hp} {ι : Nat → Addr} {G : Hg} {kvs : List (D × W)} {es : List (Key × V)} {p : Addr} (s : Sim C F H ι G) (r : RpWK C.m F ι G.length kvs es) (h : H p = none) : Out C F ι G.length (.ref G.length) (G ++ [.dic false kvs]) (.ref p) (upd H p (.dK es)) := by
  obtain ⟨s', e⟩ := s.make (o := .dK es) (g := .dic false kvs) h fun ι' n' e => ⟨es, upd_same, r.mono e⟩
  refine ⟨_, _, e, s', ?_⟩
  simp only [RpW]
  exact ⟨by simp, by rw [putI_same]⟩
def allKD : List (D × W) → Option (List (D × D))
  | [] => some []
  | (k, .d x) :: r => (allKD r).map ((k, x) :: ·)
  | _ :: _ => none
theorem allKD_rp {M : Md} {F : Hp} {ι : Nat → Addr} {n : Nat} : ∀ {kvs : List (D × W)} {ds : List (D × D)} {es : List (Key × V)}, allKD kvs = some ds → RpWK M F ι n kvs es → RpK M F ds es
  | [], ds, es, h, r => by
    cases h
    simp only [RpWK] at r
    simpa only [RpK] using r
  | (k, .d x) :: kvs, ds, es, h, r => by
    simp only [allKD] at h
    obtain ⟨ds', q, rfl⟩ := map_some h
    simp only [RpWK, RpW] at r
    obtain ⟨kk, y, r', rfl, h1, h2, h3⟩ := r
    simp only [RpK]
    exact ⟨kk, y, r', rfl, h1, h2, allKD_rp q h3⟩
  | (_, .ref _) :: _, _, _, h, _ => by cases h
  | (_, .tup _) :: _, _, _, h, _ => by cases h
theorem out_dic {C : GC} {F H : Hp} {ι : Nat → Addr} {G : Hg} {ds : List (D × D)} {es : List (Key × V)} {p : Addr} (s : Sim C F H ι G) (r : RpK C.m F ds es) (h : H p = none) : ∀ od, Out C F ι G.length (.d (.dic false ds)) G (.ref p) (upd H p (.frz od (.dK es))) := fun od => by
  obtain ⟨s', e⟩ := s.lay (o := .frz od (.dK es)) h
  refine ⟨_, _, e, s', ?_⟩
  simp only [RpW, Rp]
  exact ⟨p, od, es, rfl, upd_same, r.mono e.fr⟩
/-- a new thing is locked as soon as it is there -/
theorem pe_lockRes {X : Cx} {e : Expr} {te : TE} (he : PE X e te) : PE X e (fun σ H Q => te σ H fun x H1 => Q x H1 ∨ ∃ d u, x = .ref d ∧ H1 d = some u ∧ Mut (some u) ∧ ∀ od, Q x (upd H1 d (.frz od u))) := ⟨fun pins s σ H Q I h => by
  refine thn (he.run pins s σ H _ I h) fun v s1 ⟨x, H1, I1, r1, q⟩ => ?_
  rcases q with q | ⟨d, u, rfl, h1, h2, q⟩
  · exact ⟨x, H1, I1, r1, q⟩
  · obtain ⟨od, I2⟩ := I1.lock h1 h2
    exact ⟨_, _, I2, r1, q od⟩⟩
def gDicN : GE := fun _ G => .ok (.ref G.length) (G ++ [.dic false []])
def gDicT : GE := fun _ G => .ok (.d (.dic false [])) G
section
variable {X : Cx} {o e f : Expr} {go ge gf : GE} {pos apos cpos : Pos}
theorem ge_dicN : GJE X (.Dict [] [] pos) gDicN := ⟨fun B F0 wx tk => PE.imp pe_dnewK fun σ H Q ⟨F, ι, ρ, G, s, he, hp⟩ p hpn => hp _ _ (out_newD s (by simp only [RpWK]) hpn)⟩
theorem ge_dicT : GJE X (.Dict [] [] pos) gDicT := ⟨fun B F0 wx tk => PE.imp (pe_lockRes pe_dnewK) fun σ H Q ⟨F, ι, ρ, G, s, he, hp⟩ p hpn => .inr ⟨p, _, rfl, upd_same, trivial, fun od => by
  rw [upd_upd]
  exact hp _ _ (out_dic s (by simp only [RpK]) hpn od)⟩⟩
/-- d.get(k), d.get(k, x) -/
def gGet (o a : GE) : GE := fun ρ G => (o ρ G).bind fun w G1 => if (dicW w G1).isSome then (a ρ G1).bind fun u G2 => match dicW w G2, keyW u with
  | some kvs, some k => .ok ((lookK kvs k).getD (.d .non)) G2
  | _, _ => .stuck else .stuck
def gGet2 (o a b : GE) : GE := fun ρ G => (o ρ G).bind fun w G1 => if (dicW w G1).isSome then (a ρ G1).bind fun u G2 => (b ρ G2).bind fun z G3 => match dicW w G3, keyW u with
  | some kvs, some k => .ok ((lookK kvs k).getD z) G3
  | _, _ => .stuck else .stuck
theorem isD_of {C : GC} {F H : Hp} {ι : Nat → Addr} {G : Hg} {w : W} {v : V} (s : Sim C F H ι G) (e : (dicW w G).isSome = true) (r : RpW C.m F ι G.length w v) : ∃ a, v = .ref a ∧ IsD H a := by
  obtain ⟨kvs, q⟩ := Option.isSome_iff_exists.mp e
  obtain ⟨a, es, h1, h2, _⟩ := s.dic q r
  exact ⟨a, h1, .inl ⟨es, h2⟩⟩
theorem ge_get (hu : X.A.units + 65 < cLine) (ho : GJE X o go) (he : GJE X e ge) (m : M1 X o "get" apos e cpos := by exact ⟨rfl, rfl, rfl, rfl⟩) : GJE X (.Call (.Attribute o "get" apos) [e] [] cpos) (gGet go ge) := ⟨fun B F0 wx tk => by
  refine PE.imp (pe_dget1 (by omega) (ho.run B F0 wx tk) (he.run B F0 wx tk) m) fun σ H Q ⟨F, ι, ρ, G, s, hr, hp⟩ => ?_
  refine ⟨F, ι, ρ, G, s, hr, (Post.fst hp).imp fun x H1 ⟨F1, ι1, w, G1, e1, s1, r1, p1⟩ => ?_⟩
  by_cases c : (dicW w G1).isSome = true
  · rw [if_pos c] at p1
    obtain ⟨a, rfl, hd⟩ := isD_of s1 c r1
    refine ⟨a, rfl, hd, F1, ι1, ρ, G1, s1, hr.mono e1, (Post.fst p1).imp fun y H2 ⟨F2, ι2, u, G2, e2, s2, r2, p2⟩ => ?_⟩
    split at p2
    · rename_i kvs k q q2
      obtain ⟨a', ea, _, h1, h2⟩ := s2.dget q q2 (r1.mono e2) r2
      cases ea
      cases l : lookK kvs k with
      | none => rw [l] at p2; exact ⟨none, h2 l, p2 _ H2 (out_flat s2 rpN)⟩
      | some t =>
        obtain ⟨v, h3, h4⟩ := h1 t l
        rw [l] at p2
        exact ⟨some v, h3, p2 _ H2 (out_w s2 h4)⟩
    · exact p2.elim
  · rw [if_neg c] at p1; exact p1.elim⟩
theorem ge_get2 (hu : X.A.units + 65 < cLine) (ho : GJE X o go) (he : GJE X e ge) (hf : GJE X f gf) (m : M2 X o "get" apos e f cpos := by exact ⟨rfl, rfl, rfl, rfl⟩) : GJE X (.Call (.Attribute o "get" apos) [e, f] [] cpos) (gGet2 go ge gf) := ⟨fun B F0 wx tk => by
  refine PE.imp (pe_dget2 (by omega) (ho.run B F0 wx tk) (he.run B F0 wx tk) (hf.run B F0 wx tk) m) fun σ H Q ⟨F, ι, ρ, G, s, hr, hp⟩ => ?_
  refine ⟨F, ι, ρ, G, s, hr, (Post.fst hp).imp fun x H1 ⟨F1, ι1, w, G1, e1, s1, r1, p1⟩ => ?_⟩
  by_cases c : (dicW w G1).isSome = true
  · rw [if_pos c] at p1
    obtain ⟨a, rfl, hd⟩ := isD_of s1 c r1
    refine ⟨a, rfl, hd, F1, ι1, ρ, G1, s1, hr.mono e1, (Post.fst p1).imp fun y H2 ⟨F2, ι2, u, G2, e2, s2, r2, p2⟩ => ⟨F2, ι2, ρ, G2, s2, (hr.mono e1).mono e2, (Post.fst p2).imp fun z H3 ⟨F3, ι3, t, G3, e3, s3, r3, p3⟩ => ?_⟩⟩
    split at p3
    · rename_i kvs k q q2
      obtain ⟨a', ea, _, h1, h2⟩ := s3.dget q q2 ((r1.mono e2).mono e3) (r2.mono e3)
      cases ea
      cases l : lookK kvs k with
      | none => rw [l] at p3; exact ⟨none, h2 l, p3 _ H3 (out_w s3 r3)⟩
      | some t =>
        obtain ⟨v, h3, h4⟩ := h1 t l
        rw [l] at p3
        exact ⟨some v, h3, p3 _ H3 (out_w s3 h4)⟩
    · exact p3.elim
  · rw [if_neg c] at p1; exact p1.elim⟩
/-- d.pop(k), there -/
def gPopD (o a : GE) : GE := fun ρ G => (o ρ G).bind fun w G1 => if (dicW w G1).isSome then (a ρ G1).bind fun u G2 => match getDm w G2, keyW u with
  | some (i, kvs), some k => (match lookK kvs k with
    | some z => .ok z (G2.set i (.dic false (dropW kvs k)))
    | none => .stuck)
  | _, _ => .stuck else .stuck
theorem ge_popD (ho : GJE X o go) (he : GJE X e ge) (m : M1 X o "pop" apos e cpos := by exact ⟨rfl, rfl, rfl, rfl⟩) : GJE X (.Call (.Attribute o "pop" apos) [e] [] cpos) (gPopD go ge) := ⟨fun B F0 wx tk => by
  refine PE.imp (pe_dpop1 (ho.run B F0 wx tk) (he.run B F0 wx tk) m) fun σ H Q ⟨F, ι, ρ, G, s, hr, hp⟩ => ?_
  refine ⟨F, ι, ρ, G, s, hr, (Post.fst hp).imp fun x H1 ⟨F1, ι1, w, G1, e1, s1, r1, p1⟩ => ?_⟩
  by_cases c : (dicW w G1).isSome = true
  · rw [if_pos c] at p1
    obtain ⟨a, rfl, hd⟩ := isD_of s1 c r1
    refine ⟨a, rfl, hd, F1, ι1, ρ, G1, s1, hr.mono e1, (Post.fst p1).imp fun y H2 ⟨F2, ι2, u, G2, e2, s2, r2, p2⟩ => ?_⟩
    split at p2
    · rename_i i kvs k q q2
      obtain ⟨rfl, hj⟩ := getDm_inv q
      obtain ⟨rfl, kk, hk⟩ := keyW_inv q2
      have r1' := r1.mono e2
      simp only [RpW] at r1' r2
      obtain ⟨hl, ea⟩ := r1'
      cases ea
      have ey := key_rp hk r2
      obtain ⟨es, h1, h2⟩ := s2.dicm hj
      obtain ⟨l1, _⟩ := h2.look hk
      cases l : lookK kvs k with
      | none => rw [l] at p2; exact p2.elim
      | some t =>
        rw [l] at p2
        obtain ⟨v, h3, h4⟩ := l1 t l
        exact ⟨es, kk, v, h1, ey, h3, p2 _ _ (out_wrD s2 hj (h2.drop hk) h4)⟩
    · exact p2.elim
  · rw [if_neg c] at p1; exact p1.elim⟩
end
def rLenD (K : PySem.W.Frag) : List V → Hp → VK → Prop := fun xs H Q => rLenA K xs H Q ∨ ∃ a es, xs = [.ref a] ∧ Rd H a (.dK es) ∧ Q (.int es.length) H
def fLenD : List W → Hg → Option (W × Hg)
  | [w], G => match dicW w G with
    | some kvs => some (.d (.int kvs.length), G)
    | none => fLen [w] G
  | _, _ => none
theorem call_lenD {X : Cx} : CallR X (.builtin "len") (rLenD X.K) := by
  intro pins s σ H xs us Q I r h
  rcases h with h | ⟨a, es, rfl, hd, q⟩
  · exact call_lenA pins s σ H xs us Q I r h
  · obtain ⟨u, rfl, rx⟩ := vals1 r
    obtain rfl : u = Value.ref a := rx
    exact d_len I hd fun t s' I' => ⟨.int es.length, H, I', ⟨t, rfl⟩, q⟩
theorem cg_lenD {X : Cx} : CallG X (rLenD X.K) fLenD := by
  intro C F H ι G ws xs z G' Q hK s r e hQ
  cases ws with
  | nil => cases e
  | cons w t =>
    cases t with
    | cons _ _ => cases e
    | nil =>
      simp only [fLenD] at e
      cases q : dicW w G with
      | none => rw [q] at e; exact .inl (cg_len C F H ι G [w] xs z G' Q hK s r e hQ)
      | some kvs =>
        rw [q] at e
        cases e
        obtain ⟨x, rfl, r1⟩ := r.inv1
        obtain ⟨a, es, rfl, h1, h2⟩ := s.dic q r1
        exact .inr ⟨a, es, rfl, h1, hQ _ _ (out_flat s (by rw [h2.length]; exact rpI))⟩
end Gh

set_option Elab.async false
set_option linter.all false
set_option maxRecDepth 100000
set_option maxHeartbeats 4000000
namespace Gh
open PySem PySem.Spec PyProof.Rows L2

/-! ### a statement runs while a dict is locked -/
theorem ps_lockX {X : Cx} {st : Stmt} {wx : WX} {T : WX → TS} (tk : Takes X wx) (h : ∀ wx', Takes X wx' → PS X st (T wx')) :
    PS X st (fun D σ H => ∃ d u, H d = some u ∧ Mut (some u) ∧ ∀ od, T (fun cls dd σ' H' => H' d = some (.frz od u) ∧ wx cls dd σ' (upd H' d u))
      ⟨fun σ' H' => H' d = some (.frz od u) ∧ D.nx σ' (upd H' d u), fun v H' => H' d = some (.frz od u) ∧ D.rt v (upd H' d u), fun σ' H' => H' d = some (.frz od u) ∧ D.bk σ' (upd H' d u), fun σ' H' => H' d = some (.frz od u) ∧ D.ct σ' (upd H' d u)⟩ σ (upd H d (.frz od u))) := ⟨fun pins s σ H D I ⟨d, u, hd, mu, hw⟩ => by
  have nf := I.nofrz hd mu
  obtain ⟨od, I1⟩ := I.lock hd mu
  have tk' : Takes X (fun cls dd σ' H' => H' d = some (.frz od u) ∧ wx cls dd σ' (upd H' d u)) := fun e s' ⟨a, B, sI, pins', σ', H', cls, dd, e1, I', nb, up, sky, na, os, ag, hz, hx⟩ =>
    tk e s' ⟨a, B, sI, pins', σ', upd H' d u, cls, dd, e1, I'.unlock hz nf, nb, up, sky, by rw [upd_ne (fun z => by rw [z, hz] at na; cases na)]; exact na, os, ag, hx⟩
  refine thn ((h _ tk').run pins s σ _ _ I1 (hw od)) fun f s1 q => ?_
  cases f with
  | next => obtain ⟨σ', H', I2, e, q⟩ := q; exact ⟨σ', _, I2.unlock e nf, q⟩
  | brk => obtain ⟨σ', H', I2, e, q⟩ := q; exact ⟨σ', _, I2.unlock e nf, q⟩
  | cont => obtain ⟨σ', H', I2, e, q⟩ := q; exact ⟨σ', _, I2.unlock e nf, q⟩
  | ret v => obtain ⟨x, σ', H', I2, r, e, q⟩ := q; exact ⟨x, σ', _, I2.unlock e nf, r, q⟩⟩
def unlG (i : Nat) (G : Hg) : Option Hg := match G[i]? with
  | some (.lkd t kvs) => some (G.set i (.dic t kvs))
  | _ => none
def unlS (i : Nat) : SRes → SRes
  | .stuck => .stuck
  | .exc e ρ G => match unlG i G with
    | some G' => .exc e ρ G'
    | none => .stuck
  | .nx ρ G => match unlG i G with
    | some G' => .nx ρ G'
    | none => .stuck
  | .bk ρ G => match unlG i G with
    | some G' => .bk ρ G'
    | none => .stuck
  | .ct ρ G => match unlG i G with
    | some G' => .ct ρ G'
    | none => .stuck
  | .ret w G => match unlG i G with
    | some G' => .ret w G'
    | none => .stuck
def gLock (k : Nat) (g : GS) : GS := fun ρ G => match ρ[k]? with
  | some (some (.ref i)) => (match G[i]? with
    | some (.dic t kvs) => unlS i (g ρ (G.set i (.lkd t kvs)))
    | _ => g ρ G)
  | _ => g ρ G
/-- the dict's contents as the heap has them -/
inductive DicAt : Bool → HO → Prop where
  | k (es : List (Key × V)) : DicAt false (.dK es)
  | t (w : World) (a : Addr) (es : List (NestedKey × Addr × V)) : DicAt true (dN w a es)
theorem Sim.lkB {m : Md} {B F0 : Hp} {wx wx' : WX} {F H : Hp} {ι : Nat → Addr} {G : Hg} {i : Nat} {t : Bool} {kvs : List (D × W)} (s : Sim ⟨m, B, F0, wx⟩ F H ι G) (hi : G[i]? = some (.dic t kvs)) :
    ∃ u, H (ι i) = some u ∧ Mut (some u) ∧ DicAt t u ∧ B (ι i) = none ∧ ∀ od, Sim ⟨m, upd B (ι i) (.frz od u), F0, wx'⟩ F (upd H (ι i) (.frz od u)) ι (G.set i (.lkd t kvs)) := by
  obtain ⟨hF, hB', r⟩ := s.live i _ hi (fun z => by cases z)
  have hB := hB'.1 rfl
  have hl : i < G.length := by
    rcases Nat.lt_or_ge i G.length with z | z
    · exact z
    · rw [List.getElem?_eq_none z] at hi; cases hi
  have mk : ∀ u, H (ι i) = some u → (∀ od, RpO m F ι G.length (upd H (ι i) (.frz od u)) (ι i) (.lkd t kvs)) → ∀ od, Sim ⟨m, upd B (ι i) (.frz od u), F0, wx'⟩ F (upd H (ι i) (.frz od u)) ι (G.set i (.lkd t kvs)) := by
    intro u hu hr od
    have at_ : ∀ j g, (G.set i (.lkd t kvs))[j]? = some g → (j = i ∧ g = .lkd t kvs) ∨ (j ≠ i ∧ G[j]? = some g) := fun j g q => by
      by_cases e : i = j
      · subst e
        rw [List.getElem?_set_self hl] at q
        exact .inl ⟨rfl, (Option.some.inj q).symm⟩
      · rw [List.getElem?_set_ne e] at q
        exact .inr ⟨fun z => e z.symm, q⟩
    have ne : ∀ j g, j ≠ i → G[j]? = some g → g ≠ .dead → ι j ≠ ι i := fun j g hj q hg e => hj (s.inj j i g _ q hg hi (fun z => by cases z) e)
    refine ⟨fun b o q => by rw [upd_ne (fun e => by rw [e, hF] at q; cases q)]; exact s.fh _ _ q, fun b o q => ?_, s.ff, fun b o q => ?_, fun j g hj hg => ?_, fun j k g g2 hj hg hk hg2 e => ?_⟩
    · have q' : upd B (ι i) (.frz od u) b = some o := q
      by_cases e : b = ι i
      · rw [e, upd_same] at q' ⊢; exact q'
      · rw [upd_ne e] at q' ⊢; exact s.bh _ _ q'
    · rcases s.new b o q with z | z
      · exact .inl z
      · refine .inr ?_
        show upd B (ι i) (.frz od u) b = none
        rw [upd_ne (fun e => by rw [e, hF] at q; cases q)]
        exact z
    · rw [List.length_set]
      rcases at_ j g hj with ⟨rfl, rfl⟩ | ⟨z, q⟩
      · refine ⟨hF, ⟨(fun hL => by cases hL), fun _ z => ?_⟩, hr od⟩
        have z' : upd B (ι j) (.frz od u) (ι j) = none := z
        rw [upd_same] at z'
        cases z'
      · obtain ⟨a, b, c⟩ := s.live j g q hg
        have n := ne j g z q hg
        have e : upd B (ι i) (.frz od u) (ι j) = B (ι j) := upd_ne n
        exact ⟨a, ⟨fun hL => e.trans (b.1 hL), fun hL y => b.2 hL (e.symm.trans y)⟩, c.mono .refl fun w y => by rw [upd_ne n]; exact y⟩
    · rcases at_ j g hj with ⟨zj, _⟩ | ⟨zj, qj⟩ <;> rcases at_ k g2 hk with ⟨zk, _⟩ | ⟨zk, qk⟩
      · rw [zj, zk]
      · rw [zj] at e; exact absurd e.symm (ne k g2 zk qk hg2)
      · rw [zk] at e; exact absurd e (ne j g zj qj hg)
      · exact s.inj j k g g2 qj hg qk hg2 e
  cases t with
  | false =>
    obtain ⟨es, h1, h2⟩ := r
    exact ⟨_, h1, trivial, .k es, hB, mk _ h1 fun od => ⟨od, es, upd_same, h2⟩⟩
  | true =>
    obtain ⟨es, h1, h2⟩ := r
    exact ⟨_, h1, trivial, .t _ _ es, hB, mk _ h1 fun od => ⟨od, es, upd_same, h2⟩⟩
theorem Sim.unlkB {m : Md} {B F0 : Hp} {wx wx' : WX} {F H : Hp} {ι : Nat → Addr} {G G' : Hg} {i : Nat} {d : Addr} {u : HO} {od : Obj} {t0 : Bool} (s : Sim ⟨m, upd B d (.frz od u), F0, wx'⟩ F H ι G) (hd : ι i = d) (hB : B d = none) (hu : DicAt t0 u) (e : unlG i G = some G') :
    H d = some (.frz od u) ∧ Sim ⟨m, B, F0, wx⟩ F (upd H d u) ι G' ∧ G'.length = G.length := by
  have hH : H d = some (.frz od u) := s.bh d _ upd_same
  unfold unlG at e
  cases q : G[i]? with
  | none => rw [q] at e; cases e
  | some o =>
    rw [q] at e
    cases o with
    | lkd t kvs =>
      cases e
      obtain ⟨hF, _, r⟩ := s.live i _ q (fun z => by cases z)
      rw [hd] at hF r
      have hl : i < G.length := by
        rcases Nat.lt_or_ge i G.length with z | z
        · exact z
        · rw [List.getElem?_eq_none z] at q; cases q
      refine ⟨hH, ⟨fun b o z => by rw [upd_ne (fun e => by rw [e, hF] at z; cases z)]; exact s.fh _ _ z, fun b o z => ?_, s.ff, fun b o z => ?_, fun j g hj hg => ?_, fun j k g g2 hj hg hk hg2 ee => ?_⟩, by rw [List.length_set]⟩
      · have ne : b ≠ d := fun e => by rw [e] at z; have z' : B d = some o := z; rw [hB] at z'; cases z'
        rw [upd_ne ne]
        refine s.bh b o ?_
        show upd B d (.frz od u) b = some o
        rw [upd_ne ne]
        exact z
      · rcases s.new b o z with z1 | z1
        · exact .inl z1
        · refine .inr ?_
          have z2 : upd B d (.frz od u) b = none := z1
          rw [upd_ne (fun e => by rw [e, hF] at z; cases z)] at z2
          exact z2
      · rw [List.length_set]
        by_cases e : i = j
        · subst e
          rw [List.getElem?_set_self hl] at hj
          cases hj
          rw [hd]
          refine ⟨hF, ⟨fun _ => hB, fun z => by cases z⟩, ?_⟩
          cases t with
          | false =>
            obtain ⟨od', es, h1, h2⟩ := r
            rw [hH] at h1
            cases h1
            exact ⟨es, upd_same, h2⟩
          | true =>
            obtain ⟨od', es, h1, h2⟩ := r
            rw [hH] at h1
            have e3 : u = dN m.w d es := (HO.frz.inj (Option.some.inj h1)).2
            exact ⟨es, by rw [upd_same, e3], h2⟩
        · rw [List.getElem?_set_ne e] at hj
          obtain ⟨a, b, c⟩ := s.live j g hj hg
          have ne : ι j ≠ d := fun z => e (s.inj i j _ g q (fun z => by cases z) hj hg (by rw [hd, z]))
          have e2 : upd B d (.frz od u) (ι j) = B (ι j) := upd_ne ne
          exact ⟨a, ⟨fun hL => e2.symm.trans (b.1 hL), fun hL y => b.2 hL (e2.trans y)⟩, c.mono .refl fun w z => by rw [upd_ne ne]; exact z⟩
      · have back : ∀ (j : Nat) (g : GO), (G.set i (.dic t kvs))[j]? = some g → g ≠ .dead → ∃ g', G[j]? = some g' ∧ g' ≠ .dead := fun j g hj hg => by
          by_cases e : i = j
          · subst e; exact ⟨_, q, fun z => by cases z⟩
          · rw [List.getElem?_set_ne e] at hj; exact ⟨g, hj, hg⟩
        obtain ⟨g', a1, a2⟩ := back j g hj hg
        obtain ⟨g2', b1, b2⟩ := back k g2 hk hg2
        exact s.inj j k g' g2' a1 a2 b1 b2 ee
    | _ => cases e
theorem ps_or {X : Cx} {st : Stmt} {t u : TS} (h : PS X st t) (k : PS X st u) : PS X st (fun D σ H => t D σ H ∨ u D σ H) := ⟨fun pins s σ H D I q => by
  rcases q with q | q
  · exact h.run pins s σ H D I q
  · exact k.run pins s σ H D I q⟩
theorem gs_lock (k : Nat) {X : Cx} {st : Stmt} {g : GS} (h : GJS X st g) : GJS X st (gLock k g) := ⟨fun B F0 wx tk => by
  refine PS.imp (ps_or (h.run B F0 wx tk) (ps_lockX (T := fun wx' D σ H => ∃ B' F0', gTS (gc X B' F0' wx') g D σ H) tk fun wx' tk' => ⟨fun pins s σ H D I ⟨B', F0', q⟩ => (h.run B' F0' wx' tk').run pins s σ H D I q⟩)) fun D σ H ⟨F, ι, ρ, G, s, he, hp⟩ => ?_
  have plain : gLock k g ρ G = g ρ G → gTS (gc X B F0 wx) g D σ H := fun e => ⟨F, ι, ρ, G, s, he, by rw [← e]; exact hp⟩
  cases qk : ρ[k]? with
  | none => exact .inl (plain (by unfold gLock; rw [qk]))
  | some o =>
    cases o with
    | none => exact .inl (plain (by unfold gLock; rw [qk]))
    | some w =>
      cases w with
      | d x => exact .inl (plain (by unfold gLock; rw [qk]))
      | tup ws => exact .inl (plain (by unfold gLock; rw [qk]))
      | ref i =>
        cases qi : G[i]? with
        | none => exact .inl (plain (by unfold gLock; rw [qk]; simp only; rw [qi]))
        | some go =>
          cases go with
          | dic t kvs =>
            refine .inr ?_
            have e : gLock k g ρ G = unlS i (g ρ (G.set i (.lkd t kvs))) := by unfold gLock; rw [qk]; simp only; rw [qi]
            rw [e] at hp
            obtain ⟨u, hu, mu, du, hB, hs⟩ := Sim.lkB (wx' := fun _ _ _ _ => False) s qi
            have hl : i < G.length := by
              rcases Nat.lt_or_ge i G.length with z | z
              · exact z
              · rw [List.getElem?_eq_none z] at qi; cases qi
            refine ⟨ι i, u, hu, mu, fun od => ⟨upd B (ι i) (.frz od u), F0, F, ι, ρ, G.set i (.lkd t kvs), (hs od).wx, by rw [List.length_set]; exact he, ?_⟩⟩
            rw [List.length_set]
            cases r : g ρ (G.set i (.lkd t kvs)) with
            | stuck => rw [r] at hp; exact hp
            | exc x ρ' G2 =>
              rw [r] at hp
              simp only [unlS] at hp
              cases q : unlG i G2 with
              | none => rw [q] at hp; exact hp.elim
              | some G3 =>
                rw [q] at hp
                intro cls dd σ' H' F' ι' e1 s1 he1 xr
                obtain ⟨h1, s2, hl2⟩ := Sim.unlkB (wx := wx) s1 (e1.io i hl) hB du q
                refine ⟨h1, hp cls dd σ' (upd H' (ι i) u) F' ι' ⟨e1.fr, e1.io, by rw [hl2]; exact e1.le⟩ s2 (by rw [hl2]; exact he1) ?_⟩
                obtain ⟨Ca, x1, x2, x3, x4⟩ := xr
                refine ⟨Ca, x1, x2, x3, ?_⟩
                cases dd with
                | none => exact x4
                | some dx =>
                  obtain ⟨es, x5, x6⟩ := x4
                  exact ⟨es, x5, x6⟩
            | nx ρ' G2 =>
              rw [r] at hp
              simp only [unlS] at hp
              cases q : unlG i G2 with
              | none => rw [q] at hp; exact hp.elim
              | some G3 =>
                rw [q] at hp
                rintro σ' H' ⟨F', ι', e1, s1, he1⟩
                obtain ⟨h1, s2, hl2⟩ := Sim.unlkB (wx := wx) s1 (e1.io i hl) hB du q
                exact ⟨h1, hp σ' _ ⟨F', ι', ⟨e1.fr, e1.io, by rw [hl2]; exact e1.le⟩, s2, by rw [hl2]; exact he1⟩⟩
            | bk ρ' G2 =>
              rw [r] at hp
              simp only [unlS] at hp
              cases q : unlG i G2 with
              | none => rw [q] at hp; exact hp.elim
              | some G3 =>
                rw [q] at hp
                rintro σ' H' ⟨F', ι', e1, s1, he1⟩
                obtain ⟨h1, s2, hl2⟩ := Sim.unlkB (wx := wx) s1 (e1.io i hl) hB du q
                exact ⟨h1, hp σ' _ ⟨F', ι', ⟨e1.fr, e1.io, by rw [hl2]; exact e1.le⟩, s2, by rw [hl2]; exact he1⟩⟩
            | ct ρ' G2 =>
              rw [r] at hp
              simp only [unlS] at hp
              cases q : unlG i G2 with
              | none => rw [q] at hp; exact hp.elim
              | some G3 =>
                rw [q] at hp
                rintro σ' H' ⟨F', ι', e1, s1, he1⟩
                obtain ⟨h1, s2, hl2⟩ := Sim.unlkB (wx := wx) s1 (e1.io i hl) hB du q
                exact ⟨h1, hp σ' _ ⟨F', ι', ⟨e1.fr, e1.io, by rw [hl2]; exact e1.le⟩, s2, by rw [hl2]; exact he1⟩⟩
            | ret w G2 =>
              rw [r] at hp
              simp only [unlS] at hp
              cases q : unlG i G2 with
              | none => rw [q] at hp; exact hp.elim
              | some G3 =>
                rw [q] at hp
                rintro v H' ⟨F', ι', e1, s1, r1⟩
                obtain ⟨h1, s2, hl2⟩ := Sim.unlkB (wx := wx) s1 (e1.io i hl) hB du q
                exact ⟨h1, hp v _ ⟨F', ι', ⟨e1.fr, e1.io, by rw [hl2]; exact e1.le⟩, s2, by rw [hl2]; exact r1⟩⟩
          | _ => exact .inl (plain (by unfold gLock; rw [qk]; simp only; rw [qi]))⟩
end Gh

set_option Elab.async false
set_option linter.all false
set_option maxRecDepth 100000
set_option maxHeartbeats 4000000
namespace Gh
open PySem PySem.Spec PyProof.Rows L2

/-! ### locked dicts are walked -/
def lkW : W → Hg → Option (List (D × W))
  | .d (.dic false kvs), _ => some (kvs.map fun p => (p.1, .d p.2))
  | .ref i, G => match G[i]? with
    | some (.lkd false kvs) => some kvs
    | _ => none
  | _, _ => none
/-- where it stands: what stays there as long as B stays -/
theorem Sim.lkAtB {C : GC} {F H : Hp} {ι : Nat → Addr} {G : Hg} {w : W} {kvs : List (D × W)} {v : V} (s : Sim C F H ι G) (e : lkW w G = some kvs) (r : RpW C.m F ι G.length w v) :
    ∃ a od es, v = .ref a ∧ H a = some (.frz od (.dK es)) ∧ (F a = some (.frz od (.dK es)) ∨ C.B a = some (.frz od (.dK es))) ∧ RpWK C.m F ι G.length kvs es := by
  cases w with
  | tup ws => cases e
  | d x =>
    simp only [RpW] at r
    cases x with
    | dic t ks =>
      cases t with
      | true => cases e
      | false =>
        cases e
        simp only [Rp] at r
        obtain ⟨a, od, es, rfl, h1, h2⟩ := r
        exact ⟨a, od, es, rfl, s.fh _ _ h1, .inl h1, h2.wk⟩
    | _ => cases e
  | ref i =>
    simp only [RpW] at r
    obtain ⟨hi, rfl⟩ := r
    simp only [lkW] at e
    cases q : G[i]? with
    | none => rw [q] at e; cases e
    | some o =>
      rw [q] at e
      cases o with
      | lkd t ks =>
        cases t with
        | true => cases e
        | false =>
          cases e
          obtain ⟨_, b, od, es, h1, h2⟩ := s.live i _ q (fun z => by cases z)
          refine ⟨_, od, es, rfl, h1, .inr ?_, h2⟩
          cases hb : C.B (ι i) with
          | none => exact absurd hb (b.2 rfl)
          | some u =>
            have hu := s.bh _ _ hb
            rw [h1] at hu
            exact hu.symm ▸ rfl
      | _ => cases e
theorem RpWK.get {M : Md} {F : Hp} {ι : Nat → Addr} {n : Nat} : ∀ {kvs : List (D × W)} {es : List (Key × V)} {i : Nat} {p : D × W}, RpWK M F ι n kvs es → kvs[i]? = some p → ∃ k v, es[i]? = some (k, v) ∧ keyD p.1 = some k ∧ RpW M F ι n p.2 v
  | [], _, i, p, _, h => by simp at h
  | (k, w) :: kvs, es, 0, p, h, e => by
    simp only [RpWK] at h
    obtain ⟨kk, x, r, rfl, h1, h2, h3⟩ := h
    simp only [List.getElem?_cons_zero, Option.some.injEq] at e
    subst e
    exact ⟨kk, x, rfl, h1, h2⟩
  | (k, w) :: kvs, es, i + 1, p, h, e => by
    simp only [RpWK] at h
    obtain ⟨kk, x, r, rfl, h1, h2, h3⟩ := h
    obtain ⟨k2, v2, e2, e3, e4⟩ := RpWK.get (i := i) h3 (by simpa using e)
    exact ⟨k2, v2, by simpa using e2, e3, e4⟩
theorem key_back {M : Md} {F : Hp} {d : D} {k : Key} (h : keyD d = some k) : Rp M F d (kV k) := by
  cases d with
  | int i => cases h; simp only [Rp]; rfl
  | str i => cases h; simp only [Rp]; rfl
  | _ => cases h
inductive DicK where
  | keys | vals | items
def DicK.of : DicK → List (D × W) → List W
  | .keys, kvs => kvs.map fun p => .d p.1
  | .vals, kvs => kvs.map fun p => p.2
  | .items, kvs => kvs.map fun p => mkTup [.d p.1, p.2]
def DicK.it : DicK → Addr → Obj → List (Key × V) → It
  | .keys, d, o, es => Itk d o es
  | .vals, d, o, es => Itd d o es
  | .items, d, o, es => Iti d o es
theorem DicK.len (k : DicK) (kvs : List (D × W)) : (k.of kvs).length = kvs.length := by cases k <;> simp [DicK.of]
theorem itg_dic (k : DicK) {C0 : GC} {F : Hp} {ι : Nat → Addr} {n : Nat} {kvs : List (D × W)} {es : List (Key × V)} {d : Addr} {od : Obj} (hs : F d = some (.frz od (.dK es)) ∨ C0.B d = some (.frz od (.dK es))) (r : RpWK C0.m F ι n kvs es) :
    ItG C0.m (k.it d od es) F ι n (k.of kvs) (fun _ => true) C0.B := by
  intro C F2 H2 ι2 G2 hm hbb ee s2 _
  have hH : H2 d = some (.frz od (.dK es)) := by
    rcases hs with h | h
    · exact s2.fh _ _ (ee.fr _ _ h)
    · exact s2.bh _ _ (hbb _ _ h)
  have r2 := r.mono ee
  have hl := r.length
  cases k with
  | keys =>
    have wk := walk_keys (d := d) (o := od) (kvs := es)
    refine ⟨fun i w hi => ?_, by rw [DicK.len, hl]; exact wk.stops H2 hH⟩
    simp only [DicK.of, List.getElem?_map] at hi
    obtain ⟨p, hp, rfl⟩ := map_some hi
    obtain ⟨kk, v, e1, e2, e3⟩ := r2.get hp
    have hi' : i < es.length := (List.getElem?_eq_some_iff.mp e1).1
    refine ⟨wk.goes i H2 hi' hH, fun x H3 y => ?_⟩
    obtain ⟨rfl, k2, v2, e4, rfl⟩ := wk.yields i H2 x H3 hi' hH y
    rw [e1] at e4
    cases e4
    exact ⟨F2, .refl, s2, by simp only [RpW]; exact key_back e2⟩
  | vals =>
    have wk := walk_values (d := d) (o := od) (kvs := es)
    refine ⟨fun i w hi => ?_, by rw [DicK.len, hl]; exact wk.stops H2 hH⟩
    simp only [DicK.of, List.getElem?_map] at hi
    obtain ⟨p, hp, rfl⟩ := map_some hi
    obtain ⟨kk, v, e1, e2, e3⟩ := r2.get hp
    have hi' : i < es.length := (List.getElem?_eq_some_iff.mp e1).1
    refine ⟨wk.goes i H2 hi' hH, fun x H3 y => ?_⟩
    obtain ⟨rfl, k2, e4⟩ := wk.yields i H2 x H3 hi' hH y
    rw [e1] at e4
    cases e4
    exact ⟨F2, .refl, s2, e3⟩
  | items =>
    have wk := walk_items (d := d) (o := od) (kvs := es)
    refine ⟨fun i w hi => ?_, by rw [DicK.len, hl]; exact wk.stops H2 hH⟩
    simp only [DicK.of, List.getElem?_map] at hi
    obtain ⟨p, hp, rfl⟩ := map_some hi
    obtain ⟨kk, v, e1, e2, e3⟩ := r2.get hp
    have hi' : i < es.length := (List.getElem?_eq_some_iff.mp e1).1
    refine ⟨wk.goes i H2 hi' hH, fun x H3 y => ?_⟩
    obtain ⟨T, x1, x2, rfl, hT, rfl, h1, h2⟩ := wk.yields i H2 x H3 hi' hH y
    simp only [e1, Option.map_some, Option.some.injEq] at h1 h2
    subst h1 h2
    rw [← hm]
    refine yield_tup (ws := [.d p.1, p.2]) s2 ?_ hT
    rw [← hm] at e3
    simp only [RpWL, RpW]
    exact ⟨_, _, rfl, key_back e2, _, _, rfl, e3, rfl⟩
def gDicI (k : DicK) (a : GE) : GI := fun ρ G => (a ρ G).bind fun w G1 => match lkW w G1 with
  | some kvs => .ok (k.of kvs, fun _ => true) G1
  | none => .stuck
section
variable {X : Cx} {tg e : Expr} {ge : GE} {apos cpos tpos : Pos}
theorem gDicI_ok {k : DicK} {B F0 : Hp} {wx : WX} {σ : L2.St} {H : Hp} {R : It → Hp → Prop} (h : gTI (gc X B F0 wx) (gDicI k ge) σ H R) :
    gTE (gc X B F0 wx) ge σ H fun x H1 => ∃ d o es, x = .ref d ∧ H1 d = some (.frz o (.dK es)) ∧ R (k.it d o es) H1 := by
  obtain ⟨F, ι, ρ, G, s, he, hp⟩ := h
  refine ⟨F, ι, ρ, G, s, he, (PostI.fst hp).imp fun v H1 ⟨F1, ι1, w, G1, e1, s1, r1, p1⟩ => ?_⟩
  cases q : lkW w G1 with
  | none => rw [q] at p1; exact p1.elim
  | some kvs =>
    rw [q] at p1
    obtain ⟨a, od, es, rfl, h1, h2, h3⟩ := s1.lkAtB q r1
    exact ⟨a, od, es, rfl, h1, p1 _ H1 F1 ι1 .refl s1 (itg_dic k h2 h3)⟩
theorem gi_keys (h : GJE X e ge) : GJI X tg e (gDicI .keys ge) := ⟨fun B F0 wx tk => PI.imp (pi_keys (h.run B F0 wx tk)) fun σ H R q => by
  obtain ⟨F, ι, ρ, G, s, he, hp⟩ := gDicI_ok q
  exact ⟨F, ι, ρ, G, s, he, hp.imp fun v H1 ⟨d, o, es, h1, h2, h3⟩ => ⟨d, o, h1, .inl ⟨es, h2, h3⟩⟩⟩⟩
theorem gi_vals (h : GJE X e ge) (hbase : attributeBase e "values" X.env (eval e X.env) = eval e X.env := by rfl) (hline : (apos.endLine == cpos.line) = true := by rfl) : GJI X tg (.Call (.Attribute e "values" apos) [] [] cpos) (gDicI .vals ge) :=
  ⟨fun B F0 wx tk => PI.imp (pi_values (h.run B F0 wx tk) hbase hline) fun σ H R q => gDicI_ok q⟩
theorem gi_items {elts : List Expr} {kk : Nat} (h : GJE X e ge) (hbase : attributeBase e "items" X.env (eval e X.env) = eval e X.env := by rfl) (hline : (apos.endLine == cpos.line) = true := by rfl) : GJI X (.Tuple elts kk tpos) (.Call (.Attribute e "items" apos) [] [] cpos) (gDicI .items ge) :=
  ⟨fun B F0 wx tk => PI.imp (pi_items (h.run B F0 wx tk) hbase hline) fun σ H R q => gDicI_ok q⟩
end

/-! ### d == {}, d != {} -/
def rEqE (neg : Bool) : R2 := fun x y H Q => ∃ a b es, x = .ref a ∧ y = .ref b ∧ Rd H a (.dK es) ∧ Rd H b (.dK []) ∧ Q (.bl (neg ^^ es.isEmpty)) H
theorem op_eqE {X : Cx} (hu : X.A.units + 65 < cLine) : OpR X (compareOp .Eq) (rEqE false) := by
  intro pins s σ H x y v u Q I rx ry h
  obtain ⟨a, b, es, rfl, rfl, ea, eb, q⟩ := h
  obtain rfl : v = Value.ref a := rx
  obtain rfl : u = Value.ref b := ry
  obtain ⟨_, ya, va, ra, da⟩ := dk_rd I.hok ea
  obtain ⟨_, yb, vb, rb, db⟩ := dk_rd I.hok eb
  have hlb : vb.length = 0 := rb.length.symm
  refine PySem.W.keq_eq (knd := mixKind X.prog X.w) (r := true) ya yb da db (by omega) (fun hl => hits_all rb ra fun p hp => ?_) (fin_bl I q ?_)
  · have : es.length = 0 := by rw [ra.length, hl, hlb]
    rw [List.eq_nil_of_length_eq_zero this] at hp
    cases hp
  · have : va.length = es.length := ra.length.symm
    cases es with
    | nil => simp [hlb, this]
    | cons p r => simp [hlb, this]
theorem op_neE {X : Cx} (hu : X.A.units + 65 < cLine) : OpR X (compareOp .NotEq) (rEqE true) := by
  intro pins s σ H x y v u Q I rx ry h
  obtain ⟨a, b, es, rfl, rfl, ea, eb, q⟩ := h
  obtain rfl : v = Value.ref a := rx
  obtain rfl : u = Value.ref b := ry
  obtain ⟨_, ya, va, ra, da⟩ := dk_rd I.hok ea
  obtain ⟨_, yb, vb, rb, db⟩ := dk_rd I.hok eb
  have hlb : vb.length = 0 := rb.length.symm
  refine PySem.W.keq_ne (knd := mixKind X.prog X.w) (r := true) ya yb da db (by omega) (fun hl => hits_all rb ra fun p hp => ?_) (fin_bl I q ?_)
  · have : es.length = 0 := by rw [ra.length, hl, hlb]
    rw [List.eq_nil_of_length_eq_zero this] at hp
    cases hp
  · have : va.length = es.length := ra.length.symm
    cases es with
    | nil => simp [hlb, this]
    | cons p r => simp [hlb, this]
def fEqE (neg : Bool) (w u : W) (G : Hg) : Option (W × Hg) := match dicW w G, dicW u G with
  | some kvs, some [] => some (.d (.bl (neg ^^ kvs.isEmpty)), G)
  | some _, _ => none
  | none, _ => fEq neg w u G
theorem rEqE_of {C : GC} {F H : Hp} {ι : Nat → Addr} {G : Hg} {w u : W} {kvs : List (D × W)} {x y : V} {neg : Bool} {Q : VK} (s : Sim C F H ι G) (q : dicW w G = some kvs) (q2 : dicW u G = some []) (rw_ : RpW C.m F ι G.length w x) (ru : RpW C.m F ι G.length u y)
    (hQ : ∀ v H', Out C F ι G.length (.d (.bl (neg ^^ kvs.isEmpty))) G v H' → Q v H') : rEqE neg x y H Q := by
  obtain ⟨a, es, rfl, h1, h2⟩ := s.dic q rw_
  obtain ⟨b, es2, rfl, h3, h4⟩ := s.dic q2 ru
  simp only [RpWK] at h4
  subst h4
  refine ⟨a, b, es, rfl, rfl, h1, h3, hQ _ _ (out_flat s ?_)⟩
  have : kvs.isEmpty = es.isEmpty := by
    have hl := h2.length
    cases kvs with
    | nil => cases es with
      | nil => rfl
      | cons _ _ => simp at hl
    | cons _ _ => cases es with
      | nil => simp at hl
      | cons _ _ => rfl
  rw [this]
  exact rpB
theorem og_eqE {X : Cx} : OpG X (fun x y H Q => rEqD X.K x y H Q ∨ rEqE false x y H Q) (fEqE false) := by
  intro C F H ι G w u x y z G' Q hK s rw_ ru e hQ
  unfold fEqE at e
  split at e
  · rename_i kvs q q2
    cases e
    exact .inr (rEqE_of s q q2 rw_ ru hQ)
  · cases e
  · exact .inl (og_eq C F H ι G w u x y z G' Q hK s rw_ ru e hQ)
theorem og_neE {X : Cx} : OpG X (fun x y H Q => rNeD X.K x y H Q ∨ rEqE true x y H Q) (fEqE true) := by
  intro C F H ι G w u x y z G' Q hK s rw_ ru e hQ
  unfold fEqE at e
  split at e
  · rename_i kvs q q2
    cases e
    exact .inr (rEqE_of s q q2 rw_ ru hQ)
  · cases e
  · exact .inl (og_ne C F H ι G w u x y z G' Q hK s rw_ ru e hQ)
theorem op_eqA {X : Cx} (hu : X.A.units + 65 < cLine) : OpR X (compareOp .Eq) (fun x y H Q => rEqD X.K x y H Q ∨ rEqE false x y H Q) := (op_eqD (by omega)).or (op_eqE hu)
theorem op_neA {X : Cx} (hu : X.A.units + 65 < cLine) : OpR X (compareOp .NotEq) (fun x y H Q => rNeD X.K x y H Q ∨ rEqE true x y H Q) := (op_neD (by omega)).or (op_neE hu)

/-! ### list(d), list(d.values()) in part -/
def rListA (K : PySem.W.Frag) : List V → Hp → VK → Prop := fun xs H Q => (∃ p ys, xs = [.ref p] ∧ (SqL K H p ys ∨ SqT K H p ys) ∧ ∀ l, H l = none → Q (.ref l) (upd H l (.lst ys))) ∨ ∃ p es, xs = [.ref p] ∧ Rd H p (.dK es) ∧ ∀ l, H l = none → Q (.ref l) (upd H l (.lst (es.map fun kv => kV kv.1)))
theorem call_listD {X : Cx} (hc : X.calm = true) : CallR X (.type "list") (rListA X.K) := by
  intro pins s σ H xs us Q I r h
  rcases h with h | ⟨p, es, rfl, hd, q⟩
  · exact call_list_of pins s σ H xs us Q I r h
  · obtain ⟨u, rfl, rx⟩ := vals1 r
    obtain rfl : u = Value.ref p := rx
    obtain ⟨z, lo, vs, rk, hd'⟩ := dk_rd I.hok hd
    obtain ⟨ep, hat⟩ := hd'.dictAt
    have hl : es.length = vs.length := Paired.length rk
    refine PySem.W.kdl_call (PySem.W.kdl_dict (knd := mixKind X.prog X.w) (kvs := vs) (ep := ep) lo) (I.ok.hd hc) hat (by rw [← hl]; exact z) fun h' tk acc' c' hkeep hS hacc => ?_
    refine ⟨V.ref s.heap.objs.size, upd H s.heap.objs.size (.lst (es.map fun kv => kV kv.1)), I.laid hkeep (Nat.le_refl _) ⟨by rw [List.length_map]; exact z, acc'.toList, c', ?_, by rw [Array.toArray_toList]; exact hS⟩, rfl, q _ (I.hok.fresh (Nat.le_refl _))⟩
    have el : acc'.toList.length = acc'.size := by simp
    refine vals_of_at (by rw [List.length_map, el, hacc.1, hl]) fun j x w h1 h2 => ?_
    obtain ⟨k, y, hky, hi⟩ := hacc.2 j w (by rw [← Array.getElem?_toList]; exact h2)
    have t1 : (es.map (·.1))[j]? = some k := by rw [KV.keys rk, List.getElem?_map, hky]; rfl
    have t2 : (es.map fun kv => kV kv.1)[j]? = some (kV k) := by
      have t3 : (es.map fun kv => kV kv.1) = (es.map (·.1)).map kV := by rw [List.map_map]; rfl
      rw [t3, List.getElem?_map, t1]
      rfl
    rw [t2] at h1
    cases h1
    exact keyIs_rel hi
/-- list(x): new | a tree -/
def itemsW (w : W) (G : Hg) : Option (List W) := match dicW w G with
  | some kvs => some (kvs.map fun p => .d p.1)
  | none => (seqW w G).map (·.2)
def fListDN : List W → Hg → Option (W × Hg)
  | [w], G => (itemsW w G).map fun ws => (.ref G.length, G ++ [.lst ws])
  | _, _ => none
def fListDT : List W → Hg → Option (W × Hg)
  | [w], G => (itemsW w G).bind fun ws => (mkLst ws).map fun z => (z, G)
  | _, _ => none
theorem keys_rp {M : Md} {F : Hp} {ι : Nat → Addr} {n : Nat} : ∀ {kvs : List (D × W)} {es : List (Key × V)}, RpWK M F ι n kvs es → RpWL M F ι n (kvs.map fun p => .d p.1) (es.map fun kv => kV kv.1)
  | [], es, h => by simp only [RpWK] at h; subst h; simp only [List.map_nil, RpWL]
  | (k, w) :: kvs, es, h => by
    simp only [RpWK] at h
    obtain ⟨kk, x, r, rfl, h1, h2, h3⟩ := h
    simp only [List.map_cons, RpWL, RpW]
    exact ⟨_, _, rfl, key_back h1, keys_rp h3⟩
theorem Sim.items {X : Cx} {C : GC} {F H : Hp} {ι : Nat → Addr} {G : Hg} {w : W} {ws : List W} {x : V} {Q : VK} (hK : C.m = md X) (s : Sim C F H ι G) (e : itemsW w G = some ws) (r : RpW C.m F ι G.length w x)
    (h : ∀ ys, RpWL C.m F ι G.length ws ys → ∀ l, H l = none → Q (.ref l) (upd H l (.lst ys))) : rListA X.K [x] H Q := by
  unfold itemsW at e
  cases q : dicW w G with
  | some kvs =>
    rw [q] at e
    cases e
    obtain ⟨a, es, rfl, h1, h2⟩ := s.dic q r
    exact .inr ⟨a, es, rfl, h1, h _ (keys_rp h2)⟩
  | none =>
    rw [q] at e
    obtain ⟨p, q2, rfl⟩ := map_some e
    obtain ⟨b, us⟩ := p
    obtain ⟨a, ys, rfl, h1, h2⟩ := s.seq q2 r
    rw [hK] at h1
    exact .inl ⟨a, ys, rfl, sq_or h1, h _ h2⟩
theorem cg_listDN {X : Cx} : CallG X (rListA X.K) fListDN := by
  intro C F H ι G ws xs z G' Q hK s r e hQ
  unfold fListDN at e
  split at e
  · obtain ⟨us, q, e⟩ := map_some e
    cases e
    obtain ⟨x, rfl, r1⟩ := r.inv1
    exact s.items hK q r1 fun ys ry l hl => hQ _ _ (out_new s ry hl)
  · cases e
theorem cg_listDT {X : Cx} : CallG X (rListA X.K) fListDT := by
  intro C F H ι G ws xs z G' Q hK s r e hQ
  unfold fListDT at e
  split at e
  · rename_i w
    cases q : itemsW w G with
    | none => rw [q] at e; cases e
    | some us =>
      rw [q] at e
      obtain ⟨z', q2, e⟩ := map_some (show (mkLst us).map (fun z => (z, G)) = some (z, G') from e)
      cases e
      obtain ⟨ds, q3, rfl⟩ := map_some q2
      obtain ⟨x, rfl, r1⟩ := r.inv1
      exact s.items hK q r1 fun ys ry l hl => hQ _ _ (out_lst s (allD_rp q3 ry) hl)
  · cases e
end Gh

set_option Elab.async false
set_option linter.all false
set_option maxRecDepth 100000
set_option maxHeartbeats 4000000
namespace Gh
open PySem PySem.Spec PyProof.Rows L2

/-! ### {k: v for .. in ..}, keys ints or texts -/
theorem ps_setDc {X : Cx} {i : Nat} {y : Str} {py : Pos} {kx vx tg iter : Expr} {ifs : List Expr} {scope : Scope} {own : List (Str × Nat)} {pos spos : Pos} {wi : TI} {g : TG} {tt : TT} {tk tv : TE} (hc : X.calm = true) (hN : X.N.Nodup) (hy : X.N[i]? = some y) (hyl : X.env.scope.names.lookup y = some .local)
    (hsw : swapsWith (.DictComp kx vx [⟨tg, iter, ifs, 0⟩] scope pos) (some (.Name y py)) spos.line X.env = pure true) (hi : PI X tg iter wi) (ok : BlkOk X.N X.env.scope scope own)
    (hg : ∀ (s : Shared) (H : Hp) (C : Addr) (cl : List (Str × Addr)) (fp : List Addr), PG (X.blk s H scope (compEnvC scope cl C X.env) fp) tg g) (ht : ∀ (s : Shared) (H : Hp) (C : Addr) (cl : List (Str × Addr)) (fp : List Addr), PTs (X.blk s H scope (compEnvC scope cl C X.env) fp) ifs tt)
    (hk : ∀ (s : Shared) (H : Hp) (C : Addr) (cl : List (Str × Addr)) (fp : List Addr), PE (X.blk s H scope (compEnvC scope cl C X.env) fp) kx tk)
    (he : ∀ (s : Shared) (H : Hp) (C : Addr) (cl : List (Str × Addr)) (fp : List Addr), PE (X.blk s H scope (compEnvC scope cl C X.env) fp) vx tv) (hs : ∀ x, foldedSetIterable iter X.env x = pure x := by intro _; rfl) :
    PS X (.Assign [.Name y py] (.DictComp kx vx [⟨tg, iter, ifs, 0⟩] scope pos) spos) (tAsg (tDc wi g tt tk tv (own.map (·.2))) (gName i)) := by
  refine ⟨fun pins s σ H D I h => ?_⟩
  rw [exec_Assign_Name_used _ _ _ _ hsw]
  refine wpAny_bind (wpAny_standAt (wpAny_bind ?_))
  show wpAny _ X.A (do let _ ← comprehension (.DictComp kx vx [⟨tg, iter, ifs, 0⟩] scope pos) scope X.env (firstIterPos [⟨tg, iter, ifs, 0⟩] pos) newDict false (eval iter X.env) (some (assign (.Name y py) X.env))) _ _ s
  have h : tDc wi g tt tk tv (own.map (·.2)) σ H (fun x H1 => gName i x σ H1 D.nx) := h
  refine wpAny_bind (thn (dc_core (Qf := fun _ s' => SP X pins D .next s') hc hN I hi ok hg ht hk he hs h fun L C s' m H' I' q hn f => ?_) fun _ s' hq => wpAny_pure (wpAny_pure hq))
  show wpAny _ _ (assign (.Name y py) X.env (.ref L)) _ _ _
  refine wpAny_assign_Name (store_ok2 (v := V.ref L) I' hN hy (.inl hyl) rfl (fun s2 I2 ⟨a, sb, ha⟩ => ?_) (.inr hyl))
  obtain ⟨f0, f1, f2, f3, f4, f5⟩ := f
  have haC : C ≠ a := by
    rcases ha with z | z
    · rw [z]; exact f1
    · exact fun e => f4 y a z e.symm
  refine ⟨m, hn.sameBut sb haC, fun h3 sb3 => ?_⟩
  exact ⟨_, H', I2.turned (t' := s2.toks) (fun b o hb e => (sb3.2 b hb).trans e) f0 f1 f3 f4 f5, q⟩
def dcL (t : GTg) (tt : GT) (ek ev : GE) (ck : Hg → Bool) (ρ0 : GEnv) : List W → List (D × W) → Hg → Res (List (D × W))
  | [], acc, G => if ck G then .ok acc G else .stuck
  | w :: ws, acc, G => if ck G then (match t w ρ0 G with
    | none => .stuck
    | some (ρ', G') => match tt ρ' G' with
      | .ok true G2 => (match ek ρ' G2 with
        | .ok kw G3 => (match ev ρ' G3 with
          | .ok z G4 => (match keyW kw with
            | some k => if Nat.blt acc.length 16777216 then dcL t tt ek ev ck ρ0 ws (putW acc k z) G4 else .stuck
            | none => .stuck)
          | _ => .stuck)
        | _ => .stuck)
      | .ok false G2 => dcL t tt ek ev ck ρ0 ws acc G2
      | _ => .stuck) else .stuck
def gDcW (it : GI) (own : List Nat) (t : GTg) (tt : GT) (ek ev : GE) : GEnv → Hg → Res (List (D × W)) := fun ρ G => (it ρ G).bind fun p G1 => dcL t tt ek ev p.2 (wipeG ρ own) p.1 [] G1
/-- the end: a new dict that may be changed -/
def finDN : List (D × W) → Hg → Res W := fun kvs G1 => .ok (.ref G1.length) (G1 ++ [.dic false kvs])
theorem finDN_ok {C : GC} {F H : Hp} {ι : Nat → Addr} {G : Hg} {acc : List (D × W)} {es : List (Key × V)} {D : Addr} {σ : L2.St} {Q : VK} (s : Sim { C with B := upd C.B D (.dK es) } F H ι G) (hB : C.B D = none) (hF : F D = none) (ra : RpWK C.m F ι G.length acc es)
    (p : Post C F ι G.length σ (finDN acc G) Q) : Q (.ref D) H := by
  have hD : H D = some (.dK es) := s.bh D _ upd_same
  have t := s.unkeep hB
  have ext : Ext F ι G.length F (putI ι G.length D) (G ++ [GO.dic false acc]).length := ⟨Same.refl _, fun i hi => putI_lt hi, by simp⟩
  have at_ : ∀ i u, (G ++ [GO.dic false acc])[i]? = some u → (i < G.length ∧ G[i]? = some u) ∨ (i = G.length ∧ u = .dic false acc) := fun i u q => by
    rcases Nat.lt_or_ge i G.length with z | z
    · rw [List.getElem?_append_left z] at q
      exact .inl ⟨z, q⟩
    · rw [List.getElem?_append_right z] at q
      rcases Nat.eq_or_lt_of_le z with e | e
      · rw [← e, Nat.sub_self] at q
        exact .inr ⟨e.symm, (Option.some.inj q).symm⟩
      · rw [List.getElem?_eq_none (by simp; omega)] at q; cases q
  have np : ∀ i g, G[i]? = some g → g ≠ .dead → ι i ≠ D := s.apart (by intro _ _ z; cases z)
  refine p _ _ ⟨F, putI ι G.length D, ext, ⟨t.fh, t.bh, t.ff, t.new, fun i u hi hu => ?_, fun i j u v hi hu hj hv e => ?_⟩, by simp only [RpW]; exact ⟨by simp, by rw [putI_same]⟩⟩
  · rcases at_ i u hi with ⟨z, q⟩ | ⟨z, q⟩
    · rw [putI_lt z]
      obtain ⟨a, b, r⟩ := t.live i u q hu
      exact ⟨a, b, r.mono ext fun w q => q⟩
    · subst z q
      rw [putI_same]
      exact ⟨hF, ⟨fun _ => hB, fun z => by cases z⟩, es, hD, ra.mono ext⟩
  · rcases at_ i u hi with ⟨zi, qi⟩ | ⟨zi, qi⟩ <;> rcases at_ j v hj with ⟨zj, qj⟩ | ⟨zj, qj⟩
    · rw [putI_lt zi, putI_lt zj] at e
      exact t.inj i j u v qi hu qj hv e
    · rw [putI_lt zi, zj, putI_same] at e
      exact absurd e (np i u qi hu)
    · rw [putI_lt zj, zi, putI_same] at e
      exact absurd e.symm (np j v qj hv)
    · rw [zi, zj]
theorem gTE_dc {X : Cx} {own : List (Str × Nat)} {gi : GI} {t : GTg} {tt : GT} {ek ev : GE} {B F0 : Hp} {wx : WX} {σ : L2.St} {H : Hp} {Q : VK}
    (hh : gTE (gc X B F0 wx) (fun ρ G => (gDcW gi (own.map (·.2)) t tt ek ev ρ G).bind finDN) σ H Q) : tDc (gTI (gc X B F0 wx) gi) (lcG X (own.map (·.2)) t) (lcT X tt) (lcE X ek) (lcE X ev) (own.map (·.2)) σ H Q := by
  obtain ⟨F, ι, ρ, G, s, he, hp⟩ := hh
  refine ⟨F, ι, ρ, G, s, he, ?_⟩
  unfold gDcW at hp
  dsimp only at hp
  cases qi : gi ρ G with
  | stuck => rw [qi] at hp; exact hp
  | exc x G' => rw [qi] at hp; exact hp
  | ok p G1 =>
    obtain ⟨ws, ck⟩ := p
    rw [qi] at hp
    intro J H1 F1 ι1 e1 s1 it D hD
    have hp1 : Post (gc X B F0 wx) F1 ι1 G1.length σ ((dcL t tt ek ev ck (wipeG ρ (own.map (·.2))) ws [] G1).bind finDN) Q := Post.base e1 hp
    have hBD : B D = none := s1.freeB hD
    have hFD : F1 D = none := s1.free hD
    have hF0 : F0 D = none := s1.ff.free hFD
    have noF : ∀ {F2 H2 : Hp} {ι2 : Nat → Addr} {G2 : Hg} {o : HO}, Sim (gc X (upd B D o) F0 wx) F2 H2 ι2 G2 → F2 D = none := fun {F2 H2 ι2 G2 o} t => by
      cases q : F2 D with
      | none => rfl
      | some u =>
        rcases t.new D u q with z | z
        · have z' : F0 D = some u := z
          rw [hF0] at z'; cases z'
        · have z' : upd B D o D = none := z
          rw [upd_same] at z'; cases z'
    have he0 := (he.mono e1).wipe (own.map (·.2))
    refine ⟨fun i m H => m = ws.length - i ∧ i ≤ ws.length ∧ ∃ F2 ι2 G2 acc es, Ext F1 ι1 G1.length F2 ι2 G2.length ∧ Sim (gc X (upd B D (.dK es)) F0 wx) F2 H ι2 G2 ∧ RpWK (md X) F2 ι2 G2.length acc es ∧ Post (gc X B F0 wx) F2 ι2 G2.length σ ((dcL t tt ek ev ck (wipeG ρ (own.map (·.2))) (ws.drop i) acc G2).bind finDN) Q,
      ⟨ws.length, by simp, Nat.zero_le _, F1, ι1, G1, [], [], .refl, Sim.keep (C := gc X B F0 wx) (o := .dK []) s1 hD, by simp only [RpWK], hp1⟩, ?_⟩
    rintro i m H2 ⟨rfl, hi, F2, ι2, G2, acc, es, e2, s2, ra, p2⟩
    have hsb : Same B (upd B D (.dK es)) := fun b o q => by rw [upd_ne (ne_of_none q hBD)]; exact q
    rcases Nat.lt_or_ge i ws.length with hlt | hge
    · have hd : ws.drop i = ws[i] :: ws.drop (i + 1) := by rw [List.drop_eq_getElem_cons hlt]
      rw [hd] at p2
      simp only [dcL] at p2
      cases c : ck G2 with
      | false => rw [c] at p2; exact p2.elim
      | true =>
        rw [c, if_pos rfl] at p2
        obtain ⟨it1, it2⟩ := it (gc X (upd B D (.dK es)) F0 wx) F2 H2 ι2 G2 rfl hsb e2 s2 c
        obtain ⟨go, yl⟩ := it1 i ws[i] (List.getElem?_eq_getElem hlt)
        refine .inr ⟨go, fun H' => ∃ F3 ι3 G3 acc es, Ext F1 ι1 G1.length F3 ι3 G3.length ∧ Sim (gc X (upd B D (.dK es)) F0 wx) F3 H' ι3 G3 ∧ RpWK (md X) F3 ι3 G3.length acc es ∧ Post (gc X B F0 wx) F3 ι3 G3.length σ ((dcL t tt ek ev ck (wipeG ρ (own.map (·.2))) (ws.drop (i + 1)) acc G3).bind finDN) Q,
          fun H' h => ⟨_, by omega, rfl, hlt, h⟩, fun x H3 y => ?_⟩
        obtain ⟨F3, e3, s3, r3⟩ := yl x H3 y
        have p3 := Post.base e3 p2
        have e13 := e2.trans e3
        refine ⟨upd B D (.dK es), F0, F3, ι2, wipeG ρ (own.map (·.2)), G2, ws[i], s3.wx, he0.mono e13, r3, ?_⟩
        cases qt : t ws[i] (wipeG ρ (own.map (·.2))) G2 with
        | none => rw [qt] at p3; exact p3.elim
        | some o =>
          obtain ⟨ρ4, G4⟩ := o
          rw [qt] at p3
          rintro σ4 H4 ⟨F4, ι4, e4, s4, he4⟩ wq
          have p4 := Post.base e4 p3
          simp only at p4
          refine ⟨by rw [wq, wipe_twice], upd B D (.dK es), F0, F4, ι4, ρ4, G4, s4, he4, ?_⟩
          cases qtt : tt ρ4 G4 with
          | stuck => rw [qtt] at p4; exact p4
          | exc x G' => rw [qtt] at p4; exact p4.elim
          | ok b G5 =>
            rw [qtt] at p4
            rintro bv H5 ⟨ev', F5, ι5, e5, s5⟩
            rw [ev']
            have p5 := Post.base e5 p4
            have e15 := (e13.trans e4).trans e5
            have s5' : Sim (gc X (upd B D (.dK es)) F0 wx) F5 H5 ι5 G5 := s5.wx
            cases b with
            | false =>
              rw [if_neg Bool.false_ne_true]
              exact ⟨F5, ι5, G5, acc, es, e15, s5', ra.mono ((e3.trans e4).trans e5), p5⟩
            | true =>
              rw [if_pos rfl]
              refine ⟨upd B D (.dK es), F0, F5, ι5, ρ4, G5, s5, he4.mono e5, ?_⟩
              simp only at p5
              cases qe : ek ρ4 G5 with
              | stuck => rw [qe] at p5; exact p5
              | exc x G' => rw [qe] at p5; exact p5.elim
              | ok kw G6 =>
                rw [qe] at p5
                rintro y6 H6 ⟨F6, ι6, e6, s6, r6⟩
                have p6 := Post.base e6 p5
                simp only at p6
                refine ⟨upd B D (.dK es), F0, F6, ι6, ρ4, G6, s6, (he4.mono e5).mono e6, ?_⟩
                cases qv : ev ρ4 G6 with
                | stuck => rw [qv] at p6; exact p6
                | exc x G' => rw [qv] at p6; exact p6.elim
                | ok z G7 =>
                  rw [qv] at p6
                  rintro z7 H7 ⟨F7, ι7, e7, s7, r7⟩
                  have p7 := Post.base e7 p6
                  simp only at p7
                  have s7' : Sim (gc X (upd B D (.dK es)) F0 wx) F7 H7 ι7 G7 := s7.wx
                  cases qk : keyW kw with
                  | none => rw [qk] at p7; exact p7.elim
                  | some k =>
                    rw [qk] at p7
                    simp only at p7
                    obtain ⟨rfl, kk, hk⟩ := keyW_inv qk
                    simp only [RpW] at r6
                    cases cl : Nat.blt acc.length 16777216 with
                    | false => rw [cl] at p7; exact p7.elim
                    | true =>
                      rw [cl, if_pos rfl] at p7
                      have ra7 := ra.mono ((((e3.trans e4).trans e5).trans e6).trans e7)
                      refine ⟨es, kk, key_rp hk r6, s7'.bh D _ upd_same, by rw [sizeLine_eq, ← ra7.length]; exact Nat.le_of_ble_eq_true cl, F7, ι7, G7, putW acc k z, putK es kk z7, (e15.trans e6).trans e7, Sim.rekeep (C := gc X B F0 wx) s7' (noF s7'), ra7.put hk r7, p7⟩
    · have ei : i = ws.length := by omega
      subst ei
      rw [List.drop_length] at p2
      simp only [dcL] at p2
      cases c : ck G2 with
      | false => rw [c] at p2; exact p2.elim
      | true =>
        rw [c, if_pos rfl] at p2
        obtain ⟨_, it2⟩ := it (gc X (upd B D (.dK es)) F0 wx) F2 H2 ι2 G2 rfl hsb e2 s2 c
        exact .inl ⟨it2, finDN_ok (C := gc X B F0 wx) s2 hBD (noF s2) ra p2⟩
section
variable {X : Cx} {scope : Scope} {own : List (Str × Nat)} {tg iter kx vx : Expr} {ifs : List Expr} {pos : Pos} {gi : GI} {t : GTg} {tt : GT} {ek ev : GE}
theorem ge_dc (P : LcParts X scope own tg iter kx ifs gi t tt ek) (P2 : LcParts X scope own tg iter vx ifs gi t tt ev) (hs : ∀ x, foldedSetIterable iter X.env x = pure x := by intro _; rfl) :
    GJE X (.DictComp kx vx [⟨tg, iter, ifs, 0⟩] scope pos) (fun ρ G => (gDcW gi (own.map (·.2)) t tt ek ev ρ G).bind finDN) :=
  ⟨fun B F0 wx tk => PE.imp (pe_dc P.calm P.nd (P.it.run B F0 wx tk) P.ok P.pg P.pts P.pe P2.pe hs) fun σ H Q h => gTE_dc h⟩
theorem gs_setDc {i : Nat} {y : Str} {py spos : Pos} (P : LcParts X scope own tg iter kx ifs gi t tt ek) (P2 : LcParts X scope own tg iter vx ifs gi t tt ev) (hy : X.N[i]? = some y := by rfl) (hyl : X.env.scope.names.lookup y = some .local := by rfl)
    (hsw : swapsWith (.DictComp kx vx [⟨tg, iter, ifs, 0⟩] scope pos) (some (.Name y py)) spos.line X.env = pure true := by rfl) (hs : ∀ x, foldedSetIterable iter X.env x = pure x := by intro _; rfl) :
    GJS X (.Assign [.Name y py] (.DictComp kx vx [⟨tg, iter, ifs, 0⟩] scope pos) spos) (gAsg (fun ρ G => (gDcW gi (own.map (·.2)) t tt ek ev ρ G).bind finDN) (gNm i)) := ⟨fun B F0 wx tk => by
  refine PS.imp (ps_setDc P.calm P.nd hy hyl hsw (P.it.run B F0 wx tk) P.ok P.pg P.pts P.pe P2.pe hs) fun D σ H ⟨F, ι, ρ, G, s, he, hp⟩ => ?_
  refine gTE_dc ⟨F, ι, ρ, G, s, he, (PostS.fst he hp).imp fun v H1 ⟨F1, ι1, w, G1, e1, s1, r1, he1, p1⟩ => ?_⟩
  exact p1 _ H1 ⟨F1, ι1, .refl, s1, he1.set i r1⟩⟩
end
end Gh

set_option Elab.async false
set_option linter.all false
set_option maxRecDepth 100000
set_option maxHeartbeats 4000000
namespace Gh
open PySem PySem.Spec PyProof.Rows L2

/-! ### any, all, sum, min, max, sorted of lists -/
def intsW : List W → Option (List Int)
  | [] => some []
  | .d (.int i) :: r => (intsW r).map (i :: ·)
  | _ :: _ => none
def blsW : List W → Option (List Bool)
  | [] => some []
  | .d (.bl i) :: r => (blsW r).map (i :: ·)
  | _ :: _ => none
theorem intsW_rp {M : Md} {F : Hp} {ι : Nat → Addr} {n : Nat} : ∀ {ws : List W} {ns : List Int} {xs : List V}, intsW ws = some ns → RpWL M F ι n ws xs → xs = ns.map V.int
  | [], ns, xs, h, r => by cases h; simpa only [RpWL, List.map_nil] using r
  | .d (.int i) :: ws, ns, xs, h, r => by
    obtain ⟨ms, q, rfl⟩ := map_some (show (intsW ws).map (i :: ·) = some ns from h)
    simp only [RpWL, RpW, Rp] at r
    obtain ⟨x, t, rfl, h1, h2⟩ := r
    rw [List.map_cons, h1, intsW_rp q h2]
  | .d .non :: _, _, _, h, _ => by cases h
  | .d (.bl _) :: _, _, _, h, _ => by cases h
  | .d (.str _) :: _, _, _, h, _ => by cases h
  | .d (.tup _) :: _, _, _, h, _ => by cases h
  | .d (.lst _) :: _, _, _, h, _ => by cases h
  | .d (.dic _ _) :: _, _, _, h, _ => by cases h
  | .d (.ins _ _) :: _, _, _, h, _ => by cases h
  | .ref _ :: _, _, _, h, _ => by cases h
  | .tup _ :: _, _, _, h, _ => by cases h
theorem blsW_rp {M : Md} {F : Hp} {ι : Nat → Addr} {n : Nat} : ∀ {ws : List W} {ns : List Bool} {xs : List V}, blsW ws = some ns → RpWL M F ι n ws xs → xs = ns.map V.bl
  | [], ns, xs, h, r => by cases h; simpa only [RpWL, List.map_nil] using r
  | .d (.bl i) :: ws, ns, xs, h, r => by
    obtain ⟨ms, q, rfl⟩ := map_some (show (blsW ws).map (i :: ·) = some ns from h)
    simp only [RpWL, RpW, Rp] at r
    obtain ⟨x, t, rfl, h1, h2⟩ := r
    rw [List.map_cons, h1, blsW_rp q h2]
  | .d .non :: _, _, _, h, _ => by cases h
  | .d (.int _) :: _, _, _, h, _ => by cases h
  | .d (.str _) :: _, _, _, h, _ => by cases h
  | .d (.tup _) :: _, _, _, h, _ => by cases h
  | .d (.lst _) :: _, _, _, h, _ => by cases h
  | .d (.dic _ _) :: _, _, _, h, _ => by cases h
  | .d (.ins _ _) :: _, _, _, h, _ => by cases h
  | .ref _ :: _, _, _, h, _ => by cases h
  | .tup _ :: _, _, _, h, _ => by cases h
def lstI (w : W) (G : Hg) : Option (List Int) := match seqW w G with
  | some (true, ws) => intsW ws
  | _ => none
def lstB (w : W) (G : Hg) : Option (List Bool) := match seqW w G with
  | some (true, ws) => blsW ws
  | _ => none
theorem Sim.lstI {C : GC} {F H : Hp} {ι : Nat → Addr} {G : Hg} {w : W} {ns : List Int} {v : V} (s : Sim C F H ι G) (e : lstI w G = some ns) (r : RpW C.m F ι G.length w v) : ∃ a, v = .ref a ∧ SqL C.m.K H a (ns.map V.int) := by
  unfold Gh.lstI at e
  split at e
  · rename_i ws q
    obtain ⟨a, xs, rfl, h1, h2⟩ := s.seq q r
    rw [if_pos rfl, intsW_rp e h2] at h1
    exact ⟨a, rfl, h1⟩
  · cases e
theorem Sim.lstB {C : GC} {F H : Hp} {ι : Nat → Addr} {G : Hg} {w : W} {ns : List Bool} {v : V} (s : Sim C F H ι G) (e : lstB w G = some ns) (r : RpW C.m F ι G.length w v) : ∃ a, v = .ref a ∧ SqL C.m.K H a (ns.map V.bl) := by
  unfold Gh.lstB at e
  split at e
  · rename_i ws q
    obtain ⟨a, xs, rfl, h1, h2⟩ := s.seq q r
    rw [if_pos rfl, blsW_rp e h2] at h1
    exact ⟨a, rfl, h1⟩
  · cases e
def fAny : List W → Hg → Option (W × Hg)
  | [w], G => (lstB w G).map fun bs => (.d (.bl (bs.any id)), G)
  | _, _ => none
def fAll : List W → Hg → Option (W × Hg)
  | [w], G => (lstB w G).map fun bs => (.d (.bl (bs.all id)), G)
  | _, _ => none
def fSum : List W → Hg → Option (W × Hg)
  | [w], G => (lstI w G).map fun bs => (.d (.int bs.sum), G)
  | _, _ => none
def minI : List Int → Int
  | [] => 0
  | x :: xs => xs.foldl (fun a b => if b < a then b else a) x
def maxI : List Int → Int
  | [] => 0
  | x :: xs => xs.foldl (fun a b => if a < b then b else a) x
theorem minI_eq {m : Int} : ∀ {ns : List Int}, m ∈ ns → (∀ y ∈ ns, m ≤ y) → m = minI ns
  | [], h, _ => by cases h
  | x :: xs, h, hl => by
    have gen : ∀ (xs : List Int) (a : Int), (m = a ∨ m ∈ xs) → m ≤ a → (∀ y ∈ xs, m ≤ y) → m = xs.foldl (fun a b => if b < a then b else a) a := by
      intro xs
      induction xs with
      | nil => intro a h _ _; rcases h with h | h <;> first | exact h | cases h
      | cons y ys ih =>
        intro a h ha hy
        rw [List.foldl_cons]
        have y1 := hy y List.mem_cons_self
        have y2 : ∀ z ∈ ys, m ≤ z := fun z hz => hy z (List.mem_cons_of_mem _ hz)
        by_cases c : y < a
        · rw [if_pos c]
          refine ih y ?_ y1 y2
          rcases h with h | h
          · omega
          · rcases List.mem_cons.mp h with h | h
            · exact .inl h
            · exact .inr h
        · rw [if_neg c]
          refine ih a ?_ ha y2
          rcases h with h | h
          · exact .inl h
          · rcases List.mem_cons.mp h with h | h
            · exact .inl (by omega)
            · exact .inr h
    exact gen xs x (List.mem_cons.mp h) (hl x List.mem_cons_self) fun y hy => hl y (List.mem_cons_of_mem _ hy)
theorem maxI_eq {m : Int} : ∀ {ns : List Int}, m ∈ ns → (∀ y ∈ ns, y ≤ m) → m = maxI ns
  | [], h, _ => by cases h
  | x :: xs, h, hl => by
    have gen : ∀ (xs : List Int) (a : Int), (m = a ∨ m ∈ xs) → a ≤ m → (∀ y ∈ xs, y ≤ m) → m = xs.foldl (fun a b => if a < b then b else a) a := by
      intro xs
      induction xs with
      | nil => intro a h _ _; rcases h with h | h <;> first | exact h | cases h
      | cons y ys ih =>
        intro a h ha hy
        rw [List.foldl_cons]
        have y1 := hy y List.mem_cons_self
        have y2 : ∀ z ∈ ys, z ≤ m := fun z hz => hy z (List.mem_cons_of_mem _ hz)
        by_cases c : a < y
        · rw [if_pos c]
          refine ih y ?_ y1 y2
          rcases h with h | h
          · omega
          · rcases List.mem_cons.mp h with h | h
            · exact .inl h
            · exact .inr h
        · rw [if_neg c]
          refine ih a ?_ ha y2
          rcases h with h | h
          · exact .inl h
          · rcases List.mem_cons.mp h with h | h
            · exact .inl (by omega)
            · exact .inr h
    exact gen xs x (List.mem_cons.mp h) (hl x List.mem_cons_self) fun y hy => hl y (List.mem_cons_of_mem _ hy)
def fMin : List W → Hg → Option (W × Hg)
  | [w], G => (lstI w G).bind fun ns => if ns.isEmpty then none else some (.d (.int (minI ns)), G)
  | _, _ => none
def fMax : List W → Hg → Option (W × Hg)
  | [w], G => (lstI w G).bind fun ns => if ns.isEmpty then none else some (.d (.int (maxI ns)), G)
  | _, _ => none
/-! sorted: by insertion -/
def insI (x : Int) : List Int → List Int
  | [] => [x]
  | y :: ys => if x ≤ y then x :: y :: ys else y :: insI x ys
def sortI : List Int → List Int
  | [] => []
  | x :: xs => insI x (sortI xs)
theorem insI_perm (x : Int) : ∀ ys : List Int, (insI x ys).Perm (x :: ys)
  | [] => .refl _
  | y :: ys => by
    unfold insI
    split
    · exact .refl _
    · exact ((insI_perm x ys).cons y).trans (.swap x y ys)
theorem sortI_perm : ∀ xs : List Int, (sortI xs).Perm xs
  | [] => .refl _
  | x :: xs => (insI_perm x _).trans ((sortI_perm xs).cons x)
theorem insI_sorted (x : Int) : ∀ {ys : List Int}, ys.Pairwise (· ≤ ·) → (insI x ys).Pairwise (· ≤ ·)
  | [], _ => List.pairwise_singleton _ _
  | y :: ys, h => by
    obtain ⟨h1, h2⟩ := List.pairwise_cons.mp h
    unfold insI
    split
    · rename_i c
      refine List.pairwise_cons.mpr ⟨fun z hz => ?_, h⟩
      rcases List.mem_cons.mp hz with e | e
      · rw [e]; exact c
      · exact Int.le_trans c (h1 z e)
    · rename_i c
      refine List.pairwise_cons.mpr ⟨fun z hz => ?_, insI_sorted x h2⟩
      rcases List.mem_cons.mp ((insI_perm x ys).mem_iff.mp hz) with e | e
      · rw [e]; omega
      · exact h1 z e
theorem sortI_sorted : ∀ xs : List Int, (sortI xs).Pairwise (· ≤ ·)
  | [] => .nil
  | x :: xs => insI_sorted x (sortI_sorted xs)
theorem sorted_one : ∀ {l m : List Int}, l.Perm m → l.Pairwise (· ≤ ·) → m.Pairwise (· ≤ ·) → l = m
  | [], m, p, _, _ => (p.symm.eq_nil).symm
  | a :: l, [], p, _, _ => by cases p.eq_nil
  | a :: l, b :: m, p, h, k => by
    obtain ⟨h1, h2⟩ := List.pairwise_cons.mp h
    obtain ⟨k1, k2⟩ := List.pairwise_cons.mp k
    have e : a = b := by
      have x1 : a ≤ b := by
        rcases List.mem_cons.mp (p.mem_iff.mpr (List.mem_cons_self : b ∈ b :: m)) with z | z
        · exact Int.le_of_eq z.symm
        · exact h1 b z
      have x2 : b ≤ a := by
        rcases List.mem_cons.mp (p.mem_iff.mp (List.mem_cons_self : a ∈ a :: l)) with z | z
        · exact Int.le_of_eq z.symm
        · exact k1 a z
      omega
    subst e
    rw [sorted_one (List.Perm.cons_inv p) h2 k2]
def fSorted : List W → Hg → Option (W × Hg)
  | [w], G => (lstI w G).map fun ns => (.d (.lst ((sortI ns).map .int)), G)
  | _, _ => none
section
variable {X : Cx}
theorem cg_any : CallG X (rAny X.K) fAny := by
  intro C F H ι G ws xs z G' Q hK s r e hQ
  unfold fAny at e
  split at e
  · obtain ⟨bs, q, e⟩ := map_some e
    cases e
    obtain ⟨x, rfl, r1⟩ := r.inv1
    obtain ⟨a, rfl, h⟩ := s.lstB q r1
    rw [hK] at h
    exact ⟨a, bs, rfl, h, hQ _ _ (out_flat s rpB)⟩
  · cases e
theorem cg_all : CallG X (rAll X.K) fAll := by
  intro C F H ι G ws xs z G' Q hK s r e hQ
  unfold fAll at e
  split at e
  · obtain ⟨bs, q, e⟩ := map_some e
    cases e
    obtain ⟨x, rfl, r1⟩ := r.inv1
    obtain ⟨a, rfl, h⟩ := s.lstB q r1
    rw [hK] at h
    exact ⟨a, bs, rfl, h, hQ _ _ (out_flat s rpB)⟩
  · cases e
theorem cg_sum : CallG X (rSum X.K) fSum := by
  intro C F H ι G ws xs z G' Q hK s r e hQ
  unfold fSum at e
  split at e
  · obtain ⟨bs, q, e⟩ := map_some e
    cases e
    obtain ⟨x, rfl, r1⟩ := r.inv1
    obtain ⟨a, rfl, h⟩ := s.lstI q r1
    rw [hK] at h
    exact ⟨a, bs, rfl, h, hQ _ _ (out_flat s rpI)⟩
  · cases e
theorem cg_min : CallG X (rMin X.K) fMin := by
  intro C F H ι G ws xs z G' Q hK s r e hQ
  unfold fMin at e
  split at e
  · rename_i w
    cases q : lstI w G with
    | none => rw [q] at e; cases e
    | some ns =>
      rw [q] at e
      simp only [Option.bind_some] at e
      by_cases c : ns.isEmpty = true
      · rw [if_pos c] at e; cases e
      · rw [if_neg c] at e
        cases e
        obtain ⟨x, rfl, r1⟩ := r.inv1
        obtain ⟨a, rfl, h⟩ := s.lstI q r1
        rw [hK] at h
        refine ⟨a, ns, rfl, h, ?_, fun m h1 h2 => ?_⟩
        · cases ns with
          | nil => exact absurd rfl c
          | cons _ _ => simp
        · rw [minI_eq h1 h2]
          exact hQ _ _ (out_flat s rpI)
  · cases e
theorem cg_max : CallG X (rMax X.K) fMax := by
  intro C F H ι G ws xs z G' Q hK s r e hQ
  unfold fMax at e
  split at e
  · rename_i w
    cases q : lstI w G with
    | none => rw [q] at e; cases e
    | some ns =>
      rw [q] at e
      simp only [Option.bind_some] at e
      by_cases c : ns.isEmpty = true
      · rw [if_pos c] at e; cases e
      · rw [if_neg c] at e
        cases e
        obtain ⟨x, rfl, r1⟩ := r.inv1
        obtain ⟨a, rfl, h⟩ := s.lstI q r1
        rw [hK] at h
        refine ⟨a, ns, rfl, h, ?_, fun m h1 h2 => ?_⟩
        · cases ns with
          | nil => exact absurd rfl c
          | cons _ _ => simp
        · rw [maxI_eq h1 h2]
          exact hQ _ _ (out_flat s rpI)
  · cases e
theorem cg_sorted : CallG X (rSortedI X.K) fSorted := by
  intro C F H ι G ws xs z G' Q hK s r e hQ
  unfold fSorted at e
  split at e
  · obtain ⟨ns, q, e⟩ := map_some e
    cases e
    obtain ⟨x, rfl, r1⟩ := r.inv1
    obtain ⟨a, rfl, h⟩ := s.lstI q r1
    rw [hK] at h
    refine ⟨a, ns, rfl, h, fun ns' p hp hs hn => ?_⟩
    have e1 : ns' = sortI ns := sorted_one (hp.trans (sortI_perm ns).symm) hs (sortI_sorted ns)
    subst e1
    have gen : ∀ l : List Int, RpL C.m F (l.map D.int) (l.map V.int) := by
      intro l
      induction l with
      | nil => simp only [List.map_nil, RpL]
      | cons i l ih => simp only [List.map_cons, RpL, Rp]; exact ⟨_, _, rfl, rfl, ih⟩
    exact hQ _ _ (out_lst s (gen _) hn)
  · cases e
end
end Gh

set_option Elab.async false
set_option linter.all false
set_option maxRecDepth 100000
set_option maxHeartbeats 4000000
namespace Gh
open PySem PySem.Spec PyProof.Rows L2

/-! ### list(d.values()) -/
theorem pe_listVals {X : Cx} {e : Expr} {te : TE} {p pos apos cpos : Pos} (hc : X.calm = true) (he : PE X e te) (hg : Gl X "list") (hm : X.mg "list" = none) (hv : bootBuiltins "list" = some (.type "list")) (hbase : attributeBase e "values" X.env (eval e X.env) = eval e X.env := by rfl) (hline : (apos.endLine == cpos.line) = true := by rfl)
    (hs : starEach [.Call (.Attribute e "values" apos) [] [] cpos] X.env = (false, eval (.Call (.Attribute e "values" apos) [] [] cpos) X.env) :: starEach [] X.env := by rfl) :
    PE X (.Call (.Name "list" p) [.Call (.Attribute e "values" apos) [] [] cpos] [] pos) (fun σ H Q => te σ H fun x H1 => ∃ d es, x = .ref d ∧ Rd H1 d (.dK es) ∧ ∀ q, H1 q = none → Q (.ref q) (upd H1 q (.lst (es.map (·.2))))) := by
  refine ⟨fun pins s σ H Q I hq => ?_⟩
  refine wpAny_Call_Name_kw (ld_blt I hg hm hv ?_)
  refine PyProof.Rows.callWith_type1 ?_ hs rfl
  rw [hs]
  show wpAny _ _ (spliced ((false, eval (.Call (.Attribute e "values" apos) [] [] cpos) X.env) :: backTo pos (starEach [] X.env))) _ _ s
  refine Calls.spliced_cons ?_
  refine wpAny_Call_method (T := "dict") (id := "dict.values") hbase rfl hline PySem.F.plainAttrs_dict PySem.F.slot_dict_values PySem.F.type_dict_values (thn (he.run pins s σ H _ I hq) fun u s1 ⟨x, H1, I1, rx, d, es, ex, hd, q⟩ => ?_)
  subst ex
  obtain rfl : u = Value.ref d := rx
  obtain ⟨hz, hs0, vs, kv, hdo⟩ := dk_rd I1.hok hd
  obtain ⟨ep, hat⟩ := hdo.dictAt
  have lk : es.length = vs.length := Paired.length kv
  have I2 : Inv X pins σ H1 { s1 with heap := s1.heap.push { cls := .type "dict_values", data := .fields #[.ref d] } } := I1.kept (t' := s1.toks) fun b ob q => Heap.get?_push_of_some _ q
  refine ⟨hdo.typeIs, hdo.mapOf.noDict, ?_⟩
  show wpAny _ _ (callWith cpos (.builtin "dict.values") [.ref d] [] []) _ X.xe s1
  refine method_meetsIn PySem.F.slot_dict_values PySem.F.entry_dict_values rfl (PySem.evalArgs_none ⟨rfl, hdo.typeIs, PySem.F.args_dict_values_1 _, _, meets_dict_values (mixKind X.prog X.w) d hs0, ⟨vs, hdo⟩, ?_⟩)
  refine Calls.spliced_nil ?_
  refine PySem.W.kdl_call (PySem.W.kdl_values (knd := mixKind X.prog X.w) (kvs := vs) (ep := ep)) (I1.ok.hd hc) ⟨⟨_, Heap.get?_push_size _ rfl, rfl, rfl⟩, hat.push _⟩ (by rw [← lk]; exact hz) fun h' tk acc' c' hkeep hS hacc => ?_
  refine ⟨V.ref _, upd H1 _ (.lst (es.map (·.2))), I2.laid hkeep (Nat.le_refl _) ⟨by rw [List.length_map]; exact hz, acc'.toList, c', ?_, by rw [Array.toArray_toList]; exact hS⟩, rfl, q _ (I2.hok.fresh (Nat.le_refl _))⟩
  have el : acc'.toList.length = acc'.size := by simp
  refine vals_of_at (by rw [List.length_map, el, hacc.1, lk]) fun j x w h1 h2 => ?_
  obtain ⟨k, hky⟩ := hacc.2 j w (by rw [← Array.getElem?_toList]; exact h2)
  rw [List.getElem?_map] at h1
  obtain ⟨pr, h3, rfl⟩ := map_some h1
  obtain ⟨y, h4, h5⟩ := paired_get kv h3
  rw [hky] at h4
  cases h4
  exact h5.2
def gValsL (o : GE) (new : Bool) : GE := fun ρ G => (o ρ G).bind fun w G1 => match dicW w G1 with
  | some kvs => if new then .ok (.ref G1.length) (G1 ++ [.lst (kvs.map (·.2))]) else (match mkLst (kvs.map (·.2)) with
    | some z => .ok z G1
    | none => .stuck)
  | none => .stuck
theorem vals_rp {M : Md} {F : Hp} {ι : Nat → Addr} {n : Nat} : ∀ {kvs : List (D × W)} {es : List (Key × V)}, RpWK M F ι n kvs es → RpWL M F ι n (kvs.map (·.2)) (es.map (·.2))
  | [], es, h => by simp only [RpWK] at h; subst h; simp only [List.map_nil, RpWL]
  | (k, w) :: kvs, es, h => by
    simp only [RpWK] at h
    obtain ⟨kk, x, r, rfl, h1, h2, h3⟩ := h
    simp only [List.map_cons, RpWL]
    exact ⟨_, _, rfl, h2, vals_rp h3⟩
section
variable {X : Cx} {e : Expr} {ge : GE} {p pos apos cpos : Pos}
theorem ge_listVals (new : Bool) (hm : X.mg "list" = none) (hc : X.calm = true) (he : GJE X e ge) (hg : Gl X "list" := by rfl) (hbase : attributeBase e "values" X.env (eval e X.env) = eval e X.env := by rfl) (hline : (apos.endLine == cpos.line) = true := by rfl)
    (hs : starEach [.Call (.Attribute e "values" apos) [] [] cpos] X.env = (false, eval (.Call (.Attribute e "values" apos) [] [] cpos) X.env) :: starEach [] X.env := by rfl) :
    GJE X (.Call (.Name "list" p) [.Call (.Attribute e "values" apos) [] [] cpos] [] pos) (gValsL ge new) := ⟨fun B F0 wx tk => by
  refine PE.imp (pe_listVals hc (he.run B F0 wx tk) hg hm (by decide +kernel) hbase hline hs) fun σ H Q ⟨F, ι, ρ, G, s, hr, hp⟩ => ?_
  refine ⟨F, ι, ρ, G, s, hr, (Post.fst hp).imp fun x H1 ⟨F1, ι1, w, G1, e1, s1, r1, p1⟩ => ?_⟩
  cases q : dicW w G1 with
  | none => rw [q] at p1; exact p1.elim
  | some kvs =>
    rw [q] at p1
    simp only at p1
    obtain ⟨a, es, rfl, h1, h2⟩ := s1.dic q r1
    refine ⟨a, es, rfl, h1, fun l hl => ?_⟩
    cases new with
    | true => exact p1 _ _ (out_new s1 (vals_rp h2) hl)
    | false =>
      rw [if_neg Bool.false_ne_true] at p1
      cases q2 : mkLst (kvs.map (·.2)) with
      | none => rw [q2] at p1; exact p1.elim
      | some z =>
        rw [q2] at p1
        obtain ⟨ds, q3, rfl⟩ := map_some q2
        exact p1 _ _ (out_lst s1 (allD_rp q3 (vals_rp h2)) hl)⟩
end

/-! ### tests by None -/
section
variable {X : Cx} {a : Expr} {ga : GE} {pos : Pos}
theorem gt_isN {j pos'} (ha : GJE X a ga) : GJT X (.Compare a [.Is] [.Constant .none j pos'] pos) (gTst (gIsN false ga)) := ⟨fun B F0 wx tk => by
  refine PT.imp (pt_cmp (pc_isN (ha.run B F0 wx tk)) rfl) fun σ H Q h => ?_
  obtain ⟨F, ι, ρ, G, hs, he, hp⟩ := gTT_tst h
  refine ⟨F, ι, ρ, G, hs, he, (Post.fst hp).imp fun x H1 ⟨F1, ι1, w, G1, e1, s1, r1, p1⟩ => ?_⟩
  refine p1 _ _ (out_flat s1 ?_)
  rw [isN_v r1, Bool.false_xor]
  exact rpB⟩
theorem gt_notN {j pos'} (ha : GJE X a ga) : GJT X (.Compare a [.IsNot] [.Constant .none j pos'] pos) (gTst (gIsN true ga)) := ⟨fun B F0 wx tk => by
  refine PT.imp (pt_cmp (pc_notN (ha.run B F0 wx tk)) rfl) fun σ H Q h => ?_
  obtain ⟨F, ι, ρ, G, hs, he, hp⟩ := gTT_tst h
  refine ⟨F, ι, ρ, G, hs, he, (Post.fst hp).imp fun x H1 ⟨F1, ι1, w, G1, e1, s1, r1, p1⟩ => ?_⟩
  refine p1 _ _ (out_flat s1 ?_)
  rw [isN_v r1, Bool.true_xor]
  exact rpB⟩
/-! ### min(d) of a dict that may be changed, its keys ints -/
def keysI : List (D × W) → Option (List Int)
  | [] => some []
  | (.int i, _) :: r => (keysI r).map (i :: ·)
  | _ :: _ => none
theorem keysI_rp {M : Md} {F : Hp} {ι : Nat → Addr} {n : Nat} : ∀ {kvs : List (D × W)} {is : List Int} {es : List (Key × V)}, keysI kvs = some is → RpWK M F ι n kvs es → es.map (·.1) = is.map Sum.inl
  | [], is, es, h, r => by cases h; simp only [RpWK] at r; subst r; rfl
  | (k, w) :: kvs, is, es, h, r => by
    cases k with
    | int i =>
      obtain ⟨js, q, rfl⟩ := map_some (show (keysI kvs).map (i :: ·) = some is from h)
      simp only [RpWK] at r
      obtain ⟨kk, x, t, rfl, h1, h2, h3⟩ := r
      cases h1
      rw [List.map_cons, List.map_cons, keysI_rp q h3]
    | _ => cases h
def fMinD : List W → Hg → Option (W × Hg)
  | [w], G => match getDm w G with
    | some (_, kvs) => (keysI kvs).bind fun is => if is.isEmpty then none else some (.d (.int (minI is)), G)
    | none => fMin [w] G
  | _, _ => none
theorem cr_minD (hc : X.calm = true) : CallR X (.builtin "min") (fun xs H Q => rMin X.K xs H Q ∨ rMinK xs H Q) := by
  intro pins s σ H xs us Q I r h
  rcases h with h | h
  · exact cr_min hc pins s σ H xs us Q I r h
  · exact cr_minK hc pins s σ H xs us Q I r h
theorem cg_minD : CallG X (fun xs H Q => rMin X.K xs H Q ∨ rMinK xs H Q) fMinD := by
  intro C F H ι G ws xs z G' Q hK s r e hQ
  unfold fMinD at e
  split at e
  · rename_i w
    cases q : getDm w G with
    | none => rw [q] at e; exact .inl (cg_min C F H ι G [w] xs z G' Q hK s r e hQ)
    | some p =>
      obtain ⟨i, kvs⟩ := p
      rw [q] at e
      simp only at e
      cases q2 : keysI kvs with
      | none => rw [q2] at e; cases e
      | some is =>
        rw [q2] at e
        simp only [Option.bind_some] at e
        by_cases c : is.isEmpty = true
        · rw [if_pos c] at e; cases e
        · rw [if_neg c] at e
          cases e
          obtain ⟨rfl, hj⟩ := getDm_inv q
          obtain ⟨x, rfl, r1⟩ := r.inv1
          simp only [RpW] at r1
          obtain ⟨hl, rfl⟩ := r1
          obtain ⟨es, h1, h2⟩ := s.dicm hj
          refine .inr ⟨_, es, is, rfl, h1, keysI_rp q2 h2, fun z => c (by rw [z]; rfl), fun m h3 h4 => ?_⟩
          rw [minI_eq h3 h4]
          exact hQ _ _ (out_flat s rpI)
  · cases e
end
end Gh

set_option Elab.async false
set_option linter.all false
set_option maxRecDepth 100000
set_option maxHeartbeats 4000000
namespace Gh
open PySem PySem.Spec PyProof.Rows L2

/-! ### try .. except (several clauses, with and without names); what leaves a clause by an exception is not served -/
structure Hdl where
  k : Str → Option Bool
  i : Option Nat
  g : GS
def unS (o : Option Nat) : SRes → SRes
  | .stuck => .stuck
  | .exc _ _ _ => .stuck
  | .nx ρ G => .nx (match o with | none => ρ | some i => ρ.set i none) G
  | .bk ρ G => .bk (match o with | none => ρ | some i => ρ.set i none) G
  | .ct ρ G => .ct (match o with | none => ρ | some i => ρ.set i none) G
  | .ret w G => .ret w G
def gHds : List Hdl → Exc → GEnv → Hg → SRes
  | [], e, ρ, G => .exc e ρ G
  | h :: r, e, ρ, G => match h.k e.c with
    | none => .stuck
    | some true => unS h.i (h.g (match h.i with | none => ρ | some i => ρ.set i (some (.d (.ins e.c e.fs)))) G)
    | some false => gHds r e ρ G
def gTry (b : GS) (hs : List Hdl) : GS := fun ρ G => match b ρ G with
  | .exc e ρ' G' => gHds hs e ρ' G'
  | r => r
theorem REnv.gone {C : Md} {F : Hp} {ι : Nat → Addr} {n : Nat} {ρ : GEnv} {σ : L2.St} (h : REnv C F ι n ρ σ) (i : Nat) : REnv C F ι n (ρ.set i none) (σ.set i none) := by
  refine ⟨by simp [h.1], fun j u hj => ?_⟩
  by_cases e : i = j
  · subst e
    rw [List.getElem?_set] at hj
    split at hj
    · split at hj <;> cases hj
    · exact absurd rfl ‹_›
  · rw [List.getElem?_set_ne e] at hj
    obtain ⟨x, h1, h2⟩ := h.2 j u hj
    exact ⟨x, by rw [List.getElem?_set_ne e]; exact h1, h2⟩
/-- the class that a clause names, and which of our classes it catches -/
structure NamesK (X : Cx) (x : Str) (k : Str → Option Bool) : Prop where
  ex : ∃ c, Names X x c ∧ ∀ cl b Ca, k cl = some b → X.mg cl = some (.ref Ca) → PySem.W.exmOne X.K (.ref Ca) c = some b
inductive HdsG (X : Cx) : List ExceptHandler → List Hdl → Prop
  | nil : HdsG X [] []
  | one {x : Str} {k : Str → Option Bool} {g : GS} {b₀ : Stmt} {su : List Stmt} {np pos' : Pos} {hds : List ExceptHandler} {l : List Hdl} (hc : NamesK X x k) (hsu : ∀ a pn, GJSs (X.suite a pn) (b₀ :: su) g) (r : HdsG X hds l) :
      HdsG X (.ExceptHandler (some (.Name x np)) none (b₀ :: su) pos' :: hds) (⟨k, none, g⟩ :: l)
  | as (i : Nat) {x n : Str} {k : Str → Option Bool} {g : GS} {b₀ : Stmt} {su : List Stmt} {np pos' : Pos} {hds : List ExceptHandler} {l : List Hdl} (hN : X.N.Nodup) (hc : NamesK X x k) (hsu : ∀ a pn, GJSs (X.suite a pn) (b₀ :: su) g) (r : HdsG X hds l)
      (hi : X.N[i]? = some n := by rfl) (hl : X.env.kindOf n = some .local := by rfl) :
      HdsG X (.ExceptHandler (some (.Name x np)) (some n) (b₀ :: su) pos' :: hds) (⟨k, some i, g⟩ :: l)
theorem exh_ok {P : Program} {w : World} {H : Hp} {h : Heap} {a C : Addr} {d : Option Addr} {oe : Obj} {vs : Array Value} (h1 : h.get? a = some oe) (h2 : oe.cls = .ref C) (h3 : oe.dict = d) (h4 : oe.data = .fields vs) : ObjOk P w H h a (exh a C d) :=
  ⟨⟨oe, vs, h1, h2, h3, h4⟩, ⟨oe, h1⟩, fun _ _ ⟨o, v, q, r⟩ k => ⟨o, v, k o q, r⟩⟩
section
variable {X : Cx} {pins pn : List (Addr × Obj)} {σ : L2.St} {H : Hp} {s : Shared} {a C : Addr} {d : Option Addr} {oe : Obj}
/-- the pinned exception is tracked -/
theorem Inv.track (I : Inv (X.suite a ((a, oe) :: pn)) [] σ H s) (h2 : oe.cls = .ref C) (h3 : oe.dict = d) (h4 : ∃ vs, oe.data = .fields vs) (n0 : X.s_0.heap.get? a = none) (np : ∀ p ∈ pn, p.1 ≠ a) :
    Inv (X.suite a pn) [] σ (upd H a (exh a C d)) s := by
  obtain ⟨vs, h4⟩ := h4
  obtain ⟨at1, na, nL, nF, nc⟩ := I.pin (a, oe) (List.mem_append_left _ List.mem_cons_self)
  have ne0 : ∀ b o, X.s_0.heap.get? b = some o → b ≠ a := fun b o e z => by rw [z] at e; exact absurd (n0.symm.trans e) (by intro q; cases q)
  have neH : ∀ b o, H b = some o → b ≠ a := fun b o e z => by rw [z] at e; exact absurd (na.symm.trans e) (by intro q; cases q)
  refine ⟨⟨I.ok.mod, I.ok.kind, I.ok.glob, I.ok.blt, I.ok.above, I.ok.inj, I.ok.has, I.ok.cab, I.ok.hd, I.ok.frames, I.ok.stk, I.ok.exf, I.ok.bs, I.ok.bsz, I.ok.noex, I.ok.exfs, I.ok.funs, I.ok.frf⟩, I.os, I.bare,
    ⟨I.base.keep, I.base.slot, fun b o e n hx => ?_, I.base.there, fun b xs e => ?_, fun b o u e => ?_, fun b ps e => ?_⟩, I.loc, I.cell, ?_, fun x c e => ?_, fun p hp => ?_, ?_, I.len⟩
  · rw [upd_ne (ne0 b o e)]; exact I.base.free b o e n hx
  · have q := I.base.tups b xs e
    rw [upd_ne (neH b _ q)]; exact q
  · have q := I.base.frzs b o u e
    rw [upd_ne (neH b _ q)]; exact q
  · obtain ⟨m, q⟩ := I.base.tbls b ps e
    exact ⟨m, by rw [upd_ne (neH b _ q)]; exact q⟩
  · rw [upd_ne (fun z => nL z.symm)]; exact I.free
  · have ne : c ≠ a := fun z => by
      obtain ⟨v, o, ho, hd⟩ := I.cell x c e
      rw [z] at ho
      have at2 : s.heap.get? a = some oe := at1
      rw [at2] at ho
      cases ho
      rw [h4] at hd
      cases hd
    rw [upd_ne ne]; exact I.freeC x c e
  · have hp' : p ∈ pn := by rw [List.append_nil] at hp; exact hp
    obtain ⟨p1, p2, p3, p4, p5⟩ := I.pin p (List.mem_append_left _ (List.mem_cons_of_mem _ hp'))
    exact ⟨p1, by rw [upd_ne (np p hp')]; exact p2, p3, p4, p5⟩
  · exact I.hok.laidN (fun _ _ q => q) na (exh_ok at1 h2 h3 h4)
/-- out of a clause -/
theorem Inv.outS (I : Inv (X.suite a (X.pn ++ pins)) [] σ H s) (ok : X.Ok) : Inv X pins σ H s :=
  ⟨ok, I.os, I.bare, I.base, I.loc, I.cell, I.free, I.freeC, fun p hp => I.pin p (by rw [List.append_nil]; exact hp), I.hok, I.len⟩
end
section
variable {X : Cx} {body : List Stmt} {hds : List ExceptHandler} {l : List Hdl} {gb : GS} {pos : Pos}
def noX : WX := fun _ _ _ _ => False
theorem takes_noX {a : Addr} {pn : List (Addr × Obj)} : Takes (X.suite a pn) noX := fun u s' ⟨_, _, _, _, _, _, _, _, _, _, _, _, _, _, _, _, w⟩ => w.elim
/-- what the body's exception brings -/
def wTry (C : GC) (F : Hp) (ι : Nat → Addr) (n : Nat) (r : SRes) : WX := fun cls d σ' H' => ∃ e ρ' G' F' ι', r = .exc e ρ' G' ∧ Ext F ι n F' ι' G'.length ∧ Sim C F' H' ι' G' ∧ REnv C.m F' ι' G'.length ρ' σ' ∧ XR C F' H' e cls d
def endU (D : Ends) : Option Nat → Ends
  | none => D
  | some i => { nx := fun σ' H' => D.nx (σ'.set i none) H', rt := D.rt, bk := fun σ' H' => D.bk (σ'.set i none) H', ct := fun σ' H' => D.ct (σ'.set i none) H' }
theorem postU {C : GC} {F : Hp} {ι : Nat → Addr} {n : Nat} {r : SRes} {D : Ends} (o : Option Nat) (h : PostS C F ι n (unS o r) D) : PostS { C with wx := noX } F ι n r (endU D o) := by
  cases r with
  | stuck => exact h
  | exc e ρ G => exact h.elim
  | ret w G => cases o <;> exact fun v H' q => h v H' q.wx
  | nx ρ G =>
    cases o with
    | none => exact fun σ' H' ⟨F', ι', a, b, c⟩ => h σ' H' ⟨F', ι', a, b.wx, c⟩
    | some i => exact fun σ' H' ⟨F', ι', a, b, c⟩ => h _ H' ⟨F', ι', a, b.wx, c.gone i⟩
  | bk ρ G =>
    cases o with
    | none => exact fun σ' H' ⟨F', ι', a, b, c⟩ => h σ' H' ⟨F', ι', a, b.wx, c⟩
    | some i => exact fun σ' H' ⟨F', ι', a, b, c⟩ => h _ H' ⟨F', ι', a, b.wx, c.gone i⟩
  | ct ρ G =>
    cases o with
    | none => exact fun σ' H' ⟨F', ι', a, b, c⟩ => h σ' H' ⟨F', ι', a, b.wx, c⟩
    | some i => exact fun σ' H' ⟨F', ι', a, b, c⟩ => h _ H' ⟨F', ι', a, b.wx, c.gone i⟩
/-- the caught exception, tracked, as a tree -/
theorem rp_hot {C : GC} {F H : Hp} {e : Exc} {cls : Value} {d : Option Addr} {a Ca : Addr} (x : XR C F H e cls d) (hc : cls = .ref Ca) (na : F a = none) : Rp C.m (upd F a (exh a Ca d)) (.ins e.c e.fs) (.ref a) := by
  obtain ⟨Cb, h1, h2, h3, h4⟩ := x
  rw [hc] at h3
  cases h3
  simp only [Rp]
  cases d with
  | none => exact ⟨a, Ca, [], rfl, h1, .hot0 h2 upd_same rfl, by rw [h4]; simp only [RpF]⟩
  | some dx =>
    obtain ⟨es, h5, h6⟩ := h4
    have ne : dx ≠ a := fun z => by rw [z, na] at h5; cases h5
    exact ⟨a, Ca, es, rfl, h1, .hot dx h2 upd_same (by rw [upd_ne ne]; exact h5), h6.mono fun b o q => by rw [upd_ne (fun z => by rw [z, na] at q; cases q)]; exact q⟩
theorem gs_try {h₀ : ExceptHandler} (hs : X.stack = X.env :: X.outer) (hf : X.env.frame = some X.env.locals) (hex : X.ex = []) (hb : ∀ pn xe, PassesOwn (model X.prog X.w) X.A X.env xe → GJSs (X.tr pn xe) body gb) (hh : HdsG X (h₀ :: hds) l) :
    GJS X (.Try body (h₀ :: hds) [] [] pos) (gTry gb l) := ⟨fun B F0 wx tk => by
  refine ⟨fun pins s σ H D I ⟨F, ι, ρ, G, sm, he, hp⟩ => ?_⟩
  have ok := I.ok
  have hfr : X.A.frames = some (X.env :: X.outer) := by rw [ok.frames, hs]
  -- what is wanted of the body
  have hbody : ∀ xe, Takes (X.tr (X.pn ++ pins) xe) (wTry (gc X B F0 wx) F ι G.length (gb ρ G)) → PassesOwn (model X.prog X.w) X.A X.env xe → wpAny (model X.prog X.w) X.A (execs body X.env) (SP (X.tr (X.pn ++ pins) xe) [] D) xe s := fun xe tkx po => by
    refine ((hb _ xe po).run B F0 _ tkx).run [] s σ H D (I.toTry _) ⟨F, ι, ρ, G, sm.wx, he, ?_⟩
    unfold gTry at hp
    cases q : gb ρ G with
    | exc e ρ' G' => exact fun cls d σ' H' F' ι' a b c x => ⟨e, ρ', G', F', ι', rfl, a, b.wx, c, x⟩
    | stuck => rw [q] at hp; exact hp
    | nx ρ' G' => rw [q] at hp; exact fun σ' H' ⟨F', ι', a, b, c⟩ => hp σ' H' ⟨F', ι', a, b.wx, c⟩
    | bk ρ' G' => rw [q] at hp; exact fun σ' H' ⟨F', ι', a, b, c⟩ => hp σ' H' ⟨F', ι', a, b.wx, c⟩
    | ct ρ' G' => rw [q] at hp; exact fun σ' H' ⟨F', ι', a, b, c⟩ => hp σ' H' ⟨F', ι', a, b.wx, c⟩
    | ret w G' => rw [q] at hp; exact fun v H' q => hp v H' q.wx
  refine wpAny_Try_except ?_
  refine wpAny_mono (hbody (fun e s₁ => wpAny (model X.prog X.w) X.A (noteFrame e X.env) (fun _ s₂ => wpAny (model X.prog X.w) X.A (setFlight e none) (fun _ s₃ => wpAny (model X.prog X.w) X.A (handleBy e X.env (h₀ :: hds)) (SP X pins D) X.xe s₃) X.xe s₂) X.xe s₁) (fun u s' xx => ?_) PassesOwn.looking) (fun f s1 hsp => ?_) (fun e s1 he => he)
  · -- an exception arrives
    obtain ⟨a, Bg, sI, pins', σ', H', cls, d, rfl, J', nb, up, sky, na, os, ag, wt⟩ := xx
    have J : Inv X pins σ' H' sI := J'.ofTry ok
    have sky1 : Sky Bg (X.env :: X.outer) a (Zc cls d) X.env.locals s'.heap := by rw [← hs]; exact sky
    obtain ⟨e, ρ', G', F', ι', qe, ee, s1, re, xr⟩ := wt
    unfold gTry at hp
    rw [qe] at hp
    have hp1 : PostS (gc X B F0 wx) F' ι' G'.length (gHds l e ρ' G') D := PostS.base ee hp
    show wpAny (model X.prog X.w) X.A (noteFrame (.ref a) X.env) _ _ _
    refine Sky.land Zc.steady hfr hf sky1 fun h3 fl3 up3 => ?_
    have J3 : Inv X pins σ' H' { s' with heap := h3 } := J.landed nb fl3.1 (up.trans up3) os ag
    obtain ⟨oe3, vs3, he3, hz3, hd3⟩ := fl3.there
    have notFr : ∀ {h : Heap} {o : Obj} {vs : Array Value}, h.FunFrames Bg (X.env :: X.outer) → h.get? a = some o → o.data = .fields vs → a ∉ frs (X.env :: X.outer) := fun {h o vs} ff q1 dd hm => by
      obtain ⟨_, o2, q2, hnf⟩ := ff.mem hm
      exact hnf vs (by rw [q1] at q2; cases q2; exact dd)
    have nfr := notFr fl3.2.2.1 he3 hd3
    have nL : a ≠ X.env.locals := fun z => nfr (List.mem_filterMap.mpr ⟨X.env, List.mem_cons_self, by rw [hf, ← z]⟩)
    have nF : a ∉ X.fs := fun hm => by
      obtain ⟨e', h1, h2⟩ := List.mem_filterMap.mp hm
      exact nfr (List.mem_filterMap.mpr ⟨e', List.mem_cons_of_mem _ h1, h2⟩)
    have nB : Bg.get? a = none := fl3.2.1
    have noI : ∀ o, sI.heap.get? a = some o → False := fun o q => by
      have z := nb a o q (by rw [hs]; exact nfr)
      exact absurd (nB.symm.trans z) (by intro q; cases q)
    have n0 : X.s_0.heap.get? a = none := by
      cases q : X.s_0.heap.get? a with
      | none => rfl
      | some o =>
        obtain ⟨o', q'⟩ := J.base.there a o q (by rw [hex]; exact fun z => nomatch z)
        exact (noI o' q').elim
    have np : ∀ p ∈ X.pn ++ pins, p.1 ≠ a := fun p hm z => by
      have q := (J.pin p hm).1
      rw [z] at q
      exact noI _ q
    obtain ⟨Ca, x1, x2, x3, x4⟩ := id xr
    have S3 := J3.suite he3 hd3 na nL nF
    have go : ∀ {hds' : List ExceptHandler} {l' : List Hdl}, HdsG X hds' l' → PostS (gc X B F0 wx) F' ι' G'.length (gHds l' e ρ' G') D → wpAny (model X.prog X.w) X.A (handleBy (.ref a) X.env hds') (SP X pins D) X.xe { s' with heap := h3 } := by
      intro hds' l' hk
      -- a clause's suite, its name stored
      have run : ∀ {g : GS} {su : List Stmt} (o : Option Nat) (σ5 : L2.St) (s5 : Shared) (ρ5 : GEnv) (oe5 : Obj), Zc cls d oe5 → (∃ vs, oe5.data = .fields vs) → Inv (X.suite a ((a, oe5) :: (X.pn ++ pins))) [] σ5 H' s5 →
          REnv (md X) (upd F' a (exh a Ca d)) ι' G'.length ρ5 σ5 → (∀ a pn, GJSs (X.suite a pn) su g) → PostS (gc X B F0 wx) F' ι' G'.length (unS o (g ρ5 G')) D →
          wpAny (model X.prog X.w) (X.suite a (X.pn ++ pins)).A (execs su X.env) (SP (X.suite a (X.pn ++ pins)) [] (endU D o)) (fun _ _ => False) s5 := by
        intro g su o σ5 s5 ρ5 oe5 z5 d5 I5 r5 hsu p5
        have I6 := Inv.track (C := Ca) (d := d) I5 (by rw [z5.1, x3]) z5.2 d5 n0 np
        obtain ⟨s6, e6⟩ := s1.lay (o := exh a Ca d) na
        exact ((hsu a _).run B F0 noX takes_noX).run [] s5 σ5 _ (endU D o) I6 ⟨_, ι', ρ5, G', s6.wx, r5, postU o (PostS.base e6 p5)⟩
      induction hk with
      | nil =>
        intro w
        refine wpAny_handleBy_nil ?_
        obtain ⟨k1, k2, k3, oe, vs, T, oT, ts', q1, q2, q3, q4, q5⟩ := id fl3
        unfold PySem.passOn
        refine wpAny_bind (wpAny_field q1 q3 q4 ?_)
        rw [if_neg (show ¬ ((Value.ref T == Value.none) = true) from by simp)]
        have fin : wpAny (model X.prog X.w) X.A (setFlight (.ref a) X.env.frame) (fun _ s4 => wpAny (model X.prog X.w) X.A (throw (.ref a) : Sem Flow) (SP X pins D) X.xe s4) X.xe { s' with heap := h3 } := by
          rw [hf]
          refine HandSPX.setFlight_upZ fl3 fun h4 hh4 up4 => wpAny_throw (tk _ _ ?_)
          exact ⟨a, Bg, sI, pins, σ', H', cls, d, rfl, J, nb, (up.trans up3).trans up4, .inr (.inr (by rw [hs]; exact hh4)), na, os, ag, w cls d σ' H' F' ι' .refl s1 re xr⟩
        first | exact wpAny_bind (wpAny_pure (wpAny_bind fin)) | exact wpAny_bind fin
      | @one x k g b₀ su np' pos' hds2 l2 hc hsu r ih =>
        intro w
        obtain ⟨c, hn, hk⟩ := hc.ex
        unfold gHds at w
        cases qk : k e.c with
        | none => simp only [qk] at w; exact w.elim
        | some b =>
          simp only [qk] at w
          have hb1 := hk _ _ _ qk x1
          refine wpAny_handleBy_cons (codeAny_handlers_test ?_) (by intro q; cases q)
          have LT : PySem.W.Looks (model X.prog X.w) h3 (typeOf (.ref a)) (.ref Ca) := fun A Q E s k q => wpAny_typeOf_ref (k _ _ he3) (by rw [hz3.1, x3]; exact q)
          have LM := PySem.W.exm_one (M := model X.prog X.w) (J3.kIn) LT hb1
          have test : ∀ {Q : Value → Shared → Prop} {E : Value → Shared → Prop}, Q c { s' with heap := h3 } → wpAny (model X.prog X.w) (X.A.mark (some (.ref a))) (eval (.Name x np') X.env) Q E { s' with heap := h3 } := fun {Q E} q => by
            obtain ⟨hg, hdbg, hm | ⟨hm, hv, hnn⟩⟩ := hn
            · exact ld_glob (X := X.suite a ((a, oe3) :: (X.pn ++ pins))) S3 hg hm q hdbg
            · exact ld_blt (X := X.suite a ((a, oe3) :: (X.pn ++ pins))) S3 hg hm hv q hnn hdbg
          refine test (LM.here ?_)
          cases b with
          | false => exact ih w
          | true =>
            refine codeAny_handlers_suite ?_
            refine HandSPX.lands_againZ fl3 fun h4 fl4 up4 => ?_
            have J4 : Inv X pins σ' H' { s' with heap := h4 } := J.landed nb fl4.1 ((up.trans up3).trans up4) os ag
            obtain ⟨oe4, vs4, he4, hz4, hd4⟩ := fl4.there
            refine wpAny_mono (run (su := b₀ :: su) none σ' _ ρ' oe4 hz4 ⟨_, hd4⟩ (J4.suite he4 hd4 na nL nF) (re.mono (s1.lay (o := exh a Ca d) na).2) hsu w) (fun f s6 hsp => ?_) (fun _ _ z => z.elim)
            cases f with
            | next => obtain ⟨σ6, H6, S6, q6⟩ := hsp; exact ⟨_, _, Inv.outS S6 ok, q6⟩
            | brk => obtain ⟨σ6, H6, S6, q6⟩ := hsp; exact ⟨_, _, Inv.outS S6 ok, q6⟩
            | cont => obtain ⟨σ6, H6, S6, q6⟩ := hsp; exact ⟨_, _, Inv.outS S6 ok, q6⟩
            | ret u => obtain ⟨v6, σ6, H6, S6, r6, q6⟩ := hsp; exact ⟨_, _, _, Inv.outS S6 ok, r6, q6⟩
      | @as i x n k g b₀ su np' pos' hds2 l2 hN hc hsu r hi hln ih =>
        intro w
        obtain ⟨c, hn, hk⟩ := hc.ex
        unfold gHds at w
        cases qk : k e.c with
        | none => simp only [qk] at w; exact w.elim
        | some b =>
          simp only [qk] at w
          have hb1 := hk _ _ _ qk x1
          refine wpAny_handleBy_cons (codeAny_handlers_test ?_) (by intro q; cases q)
          have LT : PySem.W.Looks (model X.prog X.w) h3 (typeOf (.ref a)) (.ref Ca) := fun A Q E s k q => wpAny_typeOf_ref (k _ _ he3) (by rw [hz3.1, x3]; exact q)
          have LM := PySem.W.exm_one (M := model X.prog X.w) (J3.kIn) LT hb1
          have test : ∀ {Q : Value → Shared → Prop} {E : Value → Shared → Prop}, Q c { s' with heap := h3 } → wpAny (model X.prog X.w) (X.A.mark (some (.ref a))) (eval (.Name x np') X.env) Q E { s' with heap := h3 } := fun {Q E} q => by
            obtain ⟨hg, hdbg, hm | ⟨hm, hv, hnn⟩⟩ := hn
            · exact ld_glob (X := X.suite a ((a, oe3) :: (X.pn ++ pins))) S3 hg hm q hdbg
            · exact ld_blt (X := X.suite a ((a, oe3) :: (X.pn ++ pins))) S3 hg hm hv q hnn hdbg
          refine test (LM.here ?_)
          cases b with
          | false => exact ih w
          | true =>
            refine codeAny_handlers_suite_as ?_
            refine HandSPX.lands_againZ fl3 fun h4 fl4 up4 => ?_
            have J4 : Inv X pins σ' H' { s' with heap := h4 } := J.landed nb fl4.1 ((up.trans up3).trans up4) os ag
            obtain ⟨oe4, vs4, he4, hz4, hd4⟩ := fl4.there
            have S4 := J4.suite he4 hd4 na nL nF
            have hloc : Loc X.env.scope n := .inl hln
            refine store_ok (X := X.suite a ((a, oe4) :: (X.pn ++ pins))) (v := .ref a) S4 hN hi hloc rfl (fun s5 S5 => ?_) (.inr hln)
            have r5 : REnv (md X) (upd F' a (exh a Ca d)) ι' G'.length (ρ'.set i (some (.d (.ins e.c e.fs)))) (σ'.set i (some (.ref a))) :=
              (re.mono (s1.lay (o := exh a Ca d) na).2).set i (by simp only [RpW]; exact rp_hot xr x3 (s1.free na))
            have gone : ∀ {σ6 : L2.St} {H6 : Hp} {s6 : Shared} {Q : Shared → Prop}, Inv (X.suite a (X.pn ++ pins)) [] σ6 H6 s6 → (∀ s7, Inv X pins (σ6.set i none) H6 s7 → Q s7) →
                wpAny (model X.prog X.w) X.A (do bindName X.env n .none; unbindBehindTheSuite X.env n pos') (fun _ s7 => Q s7) X.xe s6 := fun {σ6 H6 s6 Q} S6 hq => gone_ok (Inv.outS S6 ok) hN hi hln hq
            refine wpAny_mono (run (su := b₀ :: su) (some i) _ s5 _ oe4 hz4 ⟨_, hd4⟩ S5 r5 hsu w) (fun f s6 hsp => ?_) (fun _ _ z => z.elim)
            cases f with
            | next => obtain ⟨σ6, H6, S6, q6⟩ := hsp; exact gone S6 fun s7 J7 => ⟨_, _, J7, q6⟩
            | brk => obtain ⟨σ6, H6, S6, q6⟩ := hsp; exact gone S6 fun s7 J7 => ⟨_, _, J7, q6⟩
            | cont => obtain ⟨σ6, H6, S6, q6⟩ := hsp; exact gone S6 fun s7 J7 => ⟨_, _, J7, q6⟩
            | ret u => obtain ⟨v6, σ6, H6, S6, r6, q6⟩ := hsp; exact gone S6 fun s7 J7 => ⟨_, _, _, J7, r6, q6⟩
    exact go hh hp1
  · cases f with
    | next => obtain ⟨σ6, H6, J6, q6⟩ := hsp; exact wpAny_execs_nil ⟨σ6, H6, J6.ofTry ok, q6⟩
    | brk => obtain ⟨σ6, H6, J6, q6⟩ := hsp; exact ⟨σ6, H6, J6.ofTry ok, q6⟩
    | cont => obtain ⟨σ6, H6, J6, q6⟩ := hsp; exact ⟨σ6, H6, J6.ofTry ok, q6⟩
    | ret u => obtain ⟨v6, σ6, H6, J6, r6, q6⟩ := hsp; exact ⟨v6, σ6, H6, J6.ofTry ok, r6, q6⟩⟩
end
end Gh

set_option Elab.async false
set_option linter.all false
set_option maxRecDepth 100000
set_option maxHeartbeats 4000000
namespace Gh
open PySem PySem.Spec PyProof.Rows L2

/-! ### repr -/
def okR (d : PyData) : Bool := SeqAt.shaped d && (d.showable && small d.shown.length)
def rRepr (K : PySem.W.Frag) : List V → Hp → VK → Prop := fun xs H Q => ∃ x d, xs = [x] ∧ Q (.str d.shown) H ∧ ((Dp K H x d ∧ okR d = true) ∨ (d = .dict [] ∧ ∃ a, x = .ref a ∧ Rd H a (.dK [])))
theorem lay_noDict : ∀ d : PyData, d.canLay0 = true → d.hasDict = false
  | .none, _ => rfl
  | .bool _, _ => rfl
  | .int _, _ => rfl
  | .str _, _ => rfl
  | .list xs, h => by simp only [PyData.canLay0] at h; simp only [PyData.hasDict]; exact go xs h
  | .tuple xs, h => by simp only [PyData.canLay0] at h; simp only [PyData.hasDict]; exact go xs h
  | .dict _, h => by simp [PyData.canLay0] at h
where go : ∀ xs : List PyData, PyData.canLayAll0 xs = true → PyData.hasDictAll xs = false
  | [], _ => rfl
  | x :: xs, h => by
    simp only [PyData.canLayAll0, Bool.and_eq_true] at h
    simp only [PyData.hasDictAll, lay_noDict x h.1, go xs h.2, Bool.or_false]
theorem call_reprA {X : Cx} (hg : X.A.guards = some []) (hu : X.A.units + 65 < cLine) : CallR X (.builtin "repr") (rRepr X.K) := by
  intro pins s σ H xs us Q I r h
  obtain ⟨x, d, rfl, q, h⟩ := h
  obtain ⟨u, rfl, rx⟩ := vals1 r
  have fin : ∀ {h' : Heap} {u' : Tok} {tk : Nat}, (∀ b o, s.heap.get? b = some o → h'.get? b = some o) → EP X pins σ Q (.str d.shown u') { s with heap := h', toks := tk } := fun {h' u' tk} k => ⟨.str d.shown, H, I.kept k, ⟨_, rfl⟩, q⟩
  rcases h with ⟨hd, ok⟩ | ⟨rfl, a, rfl, hd⟩
  · unfold okR at ok
    simp only [Bool.and_eq_true] at ok
    obtain ⟨o1, o2, o3⟩ := ok
    have dp := SeqAt.depth_of_shaped o1
    have nd := lay_noDict d (SeqAt.canLay_of_shaped o1)
    obtain ⟨as, rd⟩ := Dp.reads I d x u hd rx
    have heap : ∀ a, u = .ref a → wpAny (model X.prog X.w) X.A (call (.builtin "repr") [u]) (EP X pins σ Q) X.xe s := fun a e => by
      subst e
      exact repr_of_reads' rd o2 (fun z => by rw [nd] at z; cases z) hg (by omega) (fun _ _ z => z) (fun h' u' tk k => fin k) (small_le o3)
    cases rd with
    | none => exact PySem.P.repr_of_none (fin fun _ _ z => z)
    | bool b => exact PySem.P.repr_of_bool (fin fun _ _ z => z)
    | int i t => exact PySem.P.repr_of_int (by simpa [PyData.showable] using o2) (fin fun _ _ z => z)
    | str i t => exact PySem.P.repr_of_str (fin fun _ _ z => z) (small_le o3)
    | list h1 h2 h3 h4 => exact heap _ rfl
    | tuple h1 h2 h3 h4 => exact heap _ rfl
    | dict h1 h2 h3 h4 h5 => exact heap _ rfl
  · obtain rfl : u = Value.ref a := rx
    obtain ⟨z, lo, vs, rk, o, es, ep, ho, ex, hdat, ko, pr, nd⟩ := dk_rd I.hok hd
    cases rk
    have ees : es.toList = [] := by
      cases hl : es.toList with
      | nil => rfl
      | cons e l => rw [hl] at pr; cases pr
    have rd : Reads s.heap (.ref a) (.dict []) (a :: [] ++ []) := .dict ho ex.1 hdat (by rw [ees]; exact .nil) (by rw [ees]; exact .nil)
    exact repr_of_reads' rd rfl (fun _ hm => by simp only [List.append_nil, List.mem_singleton] at hm; rw [← hm] at lo; simp at lo) hg (by simp only [PyData.depth, PyData.depthKv]; omega) (fun _ _ z => z) (fun h' u' tk k => fin k) (by decide +kernel)
def fRepr : List W → Hg → Option (W × Hg) := fun ws G => match ws with
  | [w] => match snap w G with
    | some (.dic false []) => some (.d (.str "{}"), G)
    | some d => if okR (toPy d) then some (.d (.str (toPy d).shown), G) else none
    | none => none
  | _ => none
theorem shown_e : PyData.shown (.dict []) = "{}" := by decide +kernel
theorem cg_repr {X : Cx} : CallG X (rRepr X.K) fRepr := by
  intro C F H ι G ws xs z G' Q hK s rw_ e hQ
  unfold fRepr at e
  split at e
  · rename_i w
    simp only [RpWL] at rw_
    obtain ⟨x, r, rfl, h1, rfl⟩ := rw_
    split at e
    · rename_i q
      cases e
      have hr := s.snap q h1
      simp only [Rp] at hr
      obtain ⟨a, od, es, rfl, h2, h3⟩ := hr
      simp only [RpK] at h3
      subst h3
      exact ⟨_, .dict [], rfl, hQ _ _ (out_flat s (by rw [shown_e]; exact rpS)), .inr ⟨rfl, a, rfl, .inr ⟨od, h2⟩⟩⟩
    · rename_i d hne q
      by_cases c : okR (toPy d) = true
      · rw [if_pos c] at e
        cases e
        have c1 : SeqAt.shaped (toPy d) = true := by unfold okR at c; exact (band c).1
        have e1 := Rp.dp (SeqAt.canLay_of_shaped c1) (s.snap q h1)
        rw [hK] at e1
        exact ⟨_, toPy d, rfl, hQ _ _ (out_flat s rpS), .inl ⟨e1, c⟩⟩
      · rw [if_neg c] at e; cases e
    · cases e
  · cases e

/-! ### == of two texts, without a look at their form -/
def fEqS (neg : Bool) (w u : W) (G : Hg) : Option (W × Hg) := match w, u with
  | .d (.str x), .d (.str y) => some (.d (.bl (neg ^^ decide (x = y))), G)
  | _, _ => fEqE neg w u G
theorem dec_strV {i j : Str} : decide (V.str i = V.str j) = decide (i = j) := by
  rw [Bool.eq_iff_iff]
  simp
theorem og_eqS {X : Cx} : OpG X (fun x y H Q => (rEqD X.K x y H Q ∨ rEqE false x y H Q) ∨ rEq x y H Q) (fEqS false) := by
  intro C F H ι G w u x y z G' Q hK s rw_ ru e hQ
  unfold fEqS at e
  split at e
  · rename_i a b
    cases e
    simp only [RpW, Rp] at rw_ ru
    subst rw_ ru
    exact .inr ⟨rfl, hQ _ _ (out_flat s (by rw [dec_strV, Bool.false_xor]; exact rpB))⟩
  · exact .inl (og_eqE C F H ι G _ _ x y z G' Q hK s rw_ ru e hQ)
theorem og_neS {X : Cx} : OpG X (fun x y H Q => (rNeD X.K x y H Q ∨ rEqE true x y H Q) ∨ rNe x y H Q) (fEqS true) := by
  intro C F H ι G w u x y z G' Q hK s rw_ ru e hQ
  unfold fEqS at e
  split at e
  · rename_i a b
    cases e
    simp only [RpW, Rp] at rw_ ru
    subst rw_ ru
    exact .inr ⟨rfl, hQ _ _ (out_flat s (by rw [dec_strV, Bool.true_xor]; exact rpB))⟩
  · exact .inl (og_neE C F H ι G _ _ x y z G' Q hK s rw_ ru e hQ)
theorem op_eqS {X : Cx} (hu : X.A.units + 65 < cLine) : OpR X (compareOp .Eq) (fun x y H Q => (rEqD X.K x y H Q ∨ rEqE false x y H Q) ∨ rEq x y H Q) := (op_eqA hu).or op_eq
theorem op_neS {X : Cx} (hu : X.A.units + 65 < cLine) : OpR X (compareOp .NotEq) (fun x y H Q => (rNeD X.K x y H Q ∨ rEqE true x y H Q) ∨ rNe x y H Q) := (op_neA hu).or op_ne

/-! ### dict(pairs), dict(d) -/
def pairW (G : Hg) (w : W) : Option (D × W) := match seqW w G with
  | some (false, [k, v]) => (keyW k).map fun d => (d, v)
  | _ => none
def mergeW (kvs more : List (D × W)) : List (D × W) := more.foldl (fun acc p => putW acc p.1 p.2) kvs
def pairsW (w : W) (G : Hg) : Option (List (D × W)) := match dicW w G with
  | some kvs => some kvs
  | none => match seqW w G with
    | some (true, ws) => (mapO (pairW G) ws).map (mergeW [])
    | _ => none
def rDictC (K : PySem.W.Frag) : List V → Hp → VK → Prop := fun xs H Q => (∃ (a : Addr) (ps : List Addr) (kvs : List (Key × V)), xs = [.ref a] ∧ SqL K H a (ps.map V.ref) ∧ Paired (fun p kv => SqT K H p [kV kv.1, kv.2]) ps kvs ∧ ∀ p, H p = none → Q (.ref p) (upd H p (.dK (mergeK [] kvs)))) ∨
  ∃ (a : Addr) (kvs : List (Key × V)), xs = [.ref a] ∧ Rd H a (.dK kvs) ∧ ∀ p, H p = none → Q (.ref p) (upd H p (.dK kvs))
theorem call_dictC {X : Cx} (hc : X.calm = true) : CallR X (.type "dict") (rDictC X.K) := by
  intro pins s σ H xs us Q I r h
  rcases h with h | h
  · exact call_dictP hc pins s σ H xs us Q I r h
  · exact call_dictD pins s σ H xs us Q I r h
theorem merge_rp {M : Md} {F : Hp} {ι : Nat → Addr} {n : Nat} : ∀ {more : List (D × W)} {ms : List (Key × V)} {kvs : List (D × W)} {es : List (Key × V)}, RpWK M F ι n more ms → RpWK M F ι n kvs es → RpWK M F ι n (mergeW kvs more) (mergeK es ms)
  | [], ms, kvs, es, h, k => by simp only [RpWK] at h; subst h; exact k
  | (d, w) :: more, ms, kvs, es, h, k => by
    simp only [RpWK] at h
    obtain ⟨kk, x, r, rfl, h1, h2, h3⟩ := h
    exact merge_rp (kvs := putW kvs d w) (es := putK es kk x) h3 (k.put h1 h2)
theorem Sim.pairs {C : GC} {F H : Hp} {ι : Nat → Addr} {G : Hg} (s : Sim C F H ι G) : ∀ {ws : List W} {ps : List (D × W)} {xs : List V}, mapO (pairW G) ws = some ps → RpWL C.m F ι G.length ws xs →
    ∃ (as : List Addr) (kvs : List (Key × V)), xs = as.map V.ref ∧ Paired (fun p kv => SqT C.m.K H p [kV kv.1, kv.2]) as kvs ∧ RpWK C.m F ι G.length ps kvs
  | [], ps, xs, h, r => by
    cases h
    simp only [RpWL] at r
    exact ⟨[], [], r, .nil, by simp only [RpWK]⟩
  | w :: ws, ps, xs, h, r => by
    obtain ⟨p, ps', h1, h2, rfl⟩ := mapO_cons h
    simp only [RpWL] at r
    obtain ⟨x, r', rfl, r1, r2⟩ := r
    obtain ⟨as, kvs, rfl, pr, rk⟩ := s.pairs h2 r2
    unfold pairW at h1
    split at h1
    · rename_i k v q
      obtain ⟨d, q2, rfl⟩ := map_some h1
      obtain ⟨a, ys, rfl, hq, rq⟩ := s.seq q r1
      rw [if_neg Bool.false_ne_true] at hq
      obtain ⟨rfl, kk, q3⟩ := keyW_inv q2
      simp only [RpWL, RpW] at rq
      obtain ⟨y1, _, rfl, rk1, y2, _, rfl, rk2, rfl⟩ := rq
      have e1 := key_rp q3 rk1
      subst e1
      exact ⟨a :: as, (kk, y2) :: kvs, rfl, .cons hq pr, by simp only [RpWK]; exact ⟨kk, y2, kvs, rfl, q3, rk2, rk⟩⟩
    · cases h1
def gDictC (new : Bool) (a : GE) : GE := fun ρ G => (a ρ G).bind fun w G1 => match pairsW w G1 with
  | some kvs => if new then .ok (.ref G1.length) (G1 ++ [.dic false kvs]) else (match allKD kvs with
    | some ds => .ok (.d (.dic false ds)) G1
    | none => .stuck)
  | none => .stuck
section
variable {X : Cx} {e : Expr} {ge : GE} {p pos : Pos}
theorem dictC_end {C : GC} {F H : Hp} {ι : Nat → Addr} {G : Hg} {kvs : List (D × W)} {es : List (Key × V)} {σ : L2.St} {Q : VK} {new : Bool} (s : Sim C F H ι G) (r : RpWK C.m F ι G.length kvs es)
    (p : Post C F ι G.length σ (if new then .ok (.ref G.length) (G ++ [.dic false kvs]) else (match allKD kvs with | some ds => .ok (.d (.dic false ds)) G | none => .stuck) : Res W) Q) :
    ∀ l, H l = none → Q (.ref l) (upd H l (.dK es)) ∨ ∃ d u, V.ref l = .ref d ∧ upd H l (.dK es) d = some u ∧ Mut (some u) ∧ ∀ od, Q (.ref l) (upd (upd H l (.dK es)) d (.frz od u)) := fun l hl => by
  cases new with
  | true => rw [if_pos rfl] at p; exact .inl (p _ _ (out_newD s r hl))
  | false =>
    rw [if_neg Bool.false_ne_true] at p
    cases q : allKD kvs with
    | none => rw [q] at p; exact p.elim
    | some ds =>
      rw [q] at p
      exact .inr ⟨l, _, rfl, upd_same, trivial, fun od => by rw [upd_upd]; exact p _ _ (out_dic s (allKD_rp q r) hl od)⟩
theorem ge_dictC (new : Bool) (hm : X.mg "dict" = none) (hc : X.calm = true) (he : GJE X e ge) (hg : Gl X "dict" := by rfl) (hs : starEach [e] X.env = (false, eval e X.env) :: starEach [] X.env := by rfl) (hpl : (backTo pos (starEach [] X.env)).any (·.1) = false := by rfl) :
    GJE X (.Call (.Name "dict" p) [e] [] pos) (gDictC new ge) := ⟨fun B F0 wx tk => by
  refine PE.imp (pe_lockRes (pe_callTy (call_dictC hc) hg hm (by decide +kernel) (pa_cons (he.run B F0 wx tk) pa_nil hs) (by decide) (by decide) hs hpl)) fun σ H Q ⟨F, ι, ρ, G, s, hr, hp⟩ => ?_
  refine ⟨F, ι, ρ, G, s, hr, (Post.fst hp).imp fun x H1 ⟨F1, ι1, w, G1, e1, s1, r1, p1⟩ => ?_⟩
  cases q : pairsW w G1 with
  | none => rw [q] at p1; exact p1.elim
  | some kvs =>
    rw [q] at p1
    simp only at p1
    unfold pairsW at q
    split at q
    · rename_i kvs' q2
      cases q
      obtain ⟨a, es, rfl, h1, h2⟩ := s1.dic q2 r1
      exact .inr ⟨a, es, rfl, h1, dictC_end s1 h2 p1⟩
    · split at q
      · rename_i ws q2
        obtain ⟨ps, q3, rfl⟩ := map_some q
        obtain ⟨a, xs, rfl, h1, h2⟩ := s1.seq q2 r1
        rw [if_pos rfl] at h1
        obtain ⟨as, ms, rfl, h3, h4⟩ := s1.pairs q3 h2
        exact .inl ⟨a, as, ms, rfl, h1, h3, dictC_end s1 (merge_rp h4 (by simp only [RpWK])) p1⟩
      · cases q⟩
end
end Gh

set_option Elab.async false
set_option linter.all false
set_option maxRecDepth 100000
set_option maxHeartbeats 4000000
namespace Gh
open PySem PySem.Spec PyProof.Rows L2

/-! ### list(range(..)) -/
def rgD (a b : Int) : List D := (List.range (b - a).toNat).map fun (i : Nat) => D.int (a + (i : Int))
def rgOk (a b : Int) : Bool := decide (-(2 ^ 62) ≤ a) && (decide (a < 2 ^ 62) && (decide (-(2 ^ 62) ≤ b) && (decide (b < 2 ^ 62) && Nat.ble (b - a).toNat 16777216)))
theorem rgOk_ok {a b : Int} (h : rgOk a b = true) : RgOk a b := by
  unfold rgOk at h
  simp only [Bool.and_eq_true, decide_eq_true_eq] at h
  exact ⟨h.1, h.2.1, h.2.2.1, h.2.2.2.1, Nat.le_of_ble_eq_true h.2.2.2.2⟩
theorem rpL_ints {M : Md} {F : Hp} (f : Nat → Int) : ∀ l : List Nat, RpL M F (l.map fun i => D.int (f i)) (l.map fun i => V.int (f i))
  | [] => by simp only [List.map_nil, RpL]
  | i :: l => by simp only [List.map_cons, RpL, Rp]; exact ⟨_, _, rfl, rfl, rpL_ints f l⟩
def lstRg (new : Bool) (a b : Int) (G : Hg) : Res W := if rgOk a b then (if new then .ok (.ref G.length) (G ++ [.lst ((rgD a b).map .d)]) else .ok (.d (.lst (rgD a b))) G) else .stuck
def gListRg1 (new : Bool) (a : GE) : GE := fun ρ G => (a ρ G).bind fun w G1 => match w with
  | .d (.int n) => lstRg new 0 n G1
  | _ => .stuck
def gListRg2 (new : Bool) (a b : GE) : GE := fun ρ G => (a ρ G).bind fun w G1 => (b ρ G1).bind fun u G2 => match w, u with
  | .d (.int m), .d (.int n) => lstRg new m n G2
  | _, _ => .stuck
theorem lstRg_ok {C : GC} {F H : Hp} {ι : Nat → Addr} {G : Hg} {new : Bool} {a b : Int} {σ : L2.St} {Q : VK} (s : Sim C F H ι G) (p : Post C F ι G.length σ (lstRg new a b G) Q) : RgOk a b ∧ ∀ q, H q = none → Q (.ref q) (upd H q (.lst (rgV a b))) := by
  unfold lstRg at p
  cases c : rgOk a b with
  | false => rw [c] at p; exact p.elim
  | true =>
    rw [c, if_pos rfl] at p
    refine ⟨rgOk_ok c, fun q hq => ?_⟩
    have r : RpL C.m F (rgD a b) (rgV a b) := rpL_ints (fun i => a + (i : Int)) _
    cases new with
    | true => rw [if_pos rfl] at p; exact p _ _ (out_new s r.wl hq)
    | false => rw [if_neg Bool.false_ne_true] at p; exact p _ _ (out_lst s r hq)
section
variable {X : Cx} {e f : Expr} {ge gf : GE} {p p2 pos pos2 : Pos}
theorem ge_listRg1 (new : Bool) (hm : X.mg "list" = none) (hm2 : X.mg "range" = none) (hc : X.calm = true) (he : GJE X e ge) (hg : Gl X "list" := by rfl) (hg2 : Gl X "range" := by rfl) (na : starEach [e] X.env = (false, eval e X.env) :: starEach [] X.env := by rfl)
    (nb : starEach [.Call (.Name "range" p2) [e] [] pos2] X.env = (false, eval (.Call (.Name "range" p2) [e] [] pos2) X.env) :: starEach [] X.env := by rfl) :
    GJE X (.Call (.Name "list" p) [.Call (.Name "range" p2) [e] [] pos2] [] pos) (gListRg1 new ge) := ⟨fun B F0 wx tk => by
  refine PE.imp (pe_listRg hc hg hm (prg_1 hg2 hm2 (he.run B F0 wx tk) na) nb) fun σ H Q ⟨F, ι, ρ, G, s, hr, hp⟩ => ?_
  refine ⟨F, ι, ρ, G, s, hr, (Post.fst hp).imp fun x H1 ⟨F1, ι1, w, G1, e1, s1, r1, p1⟩ => ?_⟩
  split at p1
  · simp only [RpW, Rp] at r1
    exact ⟨_, r1, lstRg_ok s1 p1⟩
  · exact p1.elim⟩
theorem ge_listRg2 (new : Bool) (hm : X.mg "list" = none) (hm2 : X.mg "range" = none) (hc : X.calm = true) (he : GJE X e ge) (hf : GJE X f gf) (hg : Gl X "list" := by rfl) (hg2 : Gl X "range" := by rfl)
    (na : starEach [e, f] X.env = (false, eval e X.env) :: starEach [f] X.env := by rfl) (nf : starEach [f] X.env = (false, eval f X.env) :: starEach [] X.env := by rfl) (hpl : (backTo pos2 (starEach [f] X.env)).any (·.1) = false := by rfl)
    (nb : starEach [.Call (.Name "range" p2) [e, f] [] pos2] X.env = (false, eval (.Call (.Name "range" p2) [e, f] [] pos2) X.env) :: starEach [] X.env := by rfl) :
    GJE X (.Call (.Name "list" p) [.Call (.Name "range" p2) [e, f] [] pos2] [] pos) (gListRg2 new ge gf) := ⟨fun B F0 wx tk => by
  refine PE.imp (pe_listRg hc hg hm (prg_2 hg2 hm2 (he.run B F0 wx tk) (hf.run B F0 wx tk) na nf hpl) nb) fun σ H Q ⟨F, ι, ρ, G, s, hr, hp⟩ => ?_
  refine ⟨F, ι, ρ, G, s, hr, (Post.fst hp).imp fun x H1 ⟨F1, ι1, w, G1, e1, s1, r1, p1⟩ => ⟨F1, ι1, ρ, G1, s1, hr.mono e1, (Post.fst p1).imp fun y H2 ⟨F2, ι2, u, G2, e2, s2, r2, p2⟩ => ?_⟩⟩
  split at p2
  · simp only [RpW, Rp] at r1 r2
    exact ⟨_, _, r1, r2, lstRg_ok s2 p2⟩
  · exact p2.elim⟩
end

/-! ### the classes that except clauses name: facts of the text -/
structure NamesF (K : PySem.W.Frag) (mg : Str → Option Value) (x : Str) (k : Str → Option Bool) : Prop where
  ex : ∃ c, (mg x = some c ∨ (mg x = none ∧ bootBuiltins x = some c ∧ x ≠ "__name__")) ∧ ∀ cl b Ca, k cl = some b → mg cl = some (.ref Ca) → PySem.W.exmOne K (.ref Ca) c = some b
theorem NamesF.k {X : Cx} {x : Str} {k : Str → Option Bool} (n : NamesF X.K X.mg x k) (hg : Gl X x := by rfl) (hd : (x == ("__debug__" : Str)) = false := by decide) : NamesK X x k := by
  obtain ⟨c, h1, h2⟩ := n.ex
  exact ⟨⟨c, ⟨hg, hd, h1⟩, h2⟩⟩
def namesb (K : PySem.W.Frag) (x : Str) (l : List (Str × Bool)) : Bool := He.eqO (PySem.W.nsIn K mainGlobals x) (some (some (.ref (He.ga K x)))) &&
  (l.all fun p => He.eqO (PySem.W.nsIn K mainGlobals p.1) (some (some (.ref (He.ga K p.1)))) && decide (PySem.W.exmOne K (.ref (He.ga K p.1)) (.ref (He.ga K x)) = some p.2))
theorem namesb_ok {K : PySem.W.Frag} {h : Heap} {mg : Str → Option Value} (X : K.In h) (G : h.Ns mainGlobals mg) {x : Str} {l : List (Str × Bool)} (b : namesb K x l = true) : NamesF K mg x (fun c => l.lookup c) := by
  obtain ⟨h1, h2⟩ := band b
  refine ⟨⟨_, .inl (PySem.W.mg_of X G (He.eqO_ok h1)), fun cl b Ca hl hc => ?_⟩⟩
  have z := List.all_eq_true.mp h2 _ (look_mem hl)
  obtain ⟨z1, z2⟩ := band z
  have e := PySem.W.mg_of X G (He.eqO_ok z1)
  rw [e] at hc
  cases hc
  exact of_decide_eq_true z2
end Gh

set_option Elab.async false
set_option linter.all false
set_option maxRecDepth 100000
set_option maxHeartbeats 4000000
namespace Gh
open PySem PySem.Spec PyProof.Rows L2
/-! ### the module's constants: flat ones, tuples and lists of such -/
def constV (K : PySem.W.Frag) : Nat → D → Value → Bool
  | 0, _, _ => false
  | k + 1, d, u => match d, u with
    | .non, .none => true
    | .bl b, .bool c => b == c
    | .int i, .int j _ => decide (i = j)
    | .str x, .str y _ => decide (x = y)
    | .tup ds, .ref a => (match K.lookup a with
      | some ⟨.type "tuple", _, .seq its _, _⟩ => Nat.ble its.size 16777216 && (ds.length == its.toList.length && (ds.zip its.toList).all fun p => constV K k p.1 p.2)
      | _ => false)
    | .lst ds, .ref a => (match K.lookup a with
      | some ⟨.type "list", none, .seq its _, _⟩ => Nat.ble its.size 16777216 && (ds.length == its.toList.length && (ds.zip its.toList).all fun p => constV K k p.1 p.2)
      | _ => false)
    | _, _ => false
theorem constL_ok {K : PySem.W.Frag} {mg : Str → Option Value} {f : D → Value → Bool} (h : ∀ d u, f d u = true → ∃ v, RelV v u ∧ ∀ w F, Rp ⟨K, mg, w⟩ F d v) : ∀ (ds : List D) (us : List Value), ds.length = us.length → (ds.zip us).all (fun p => f p.1 p.2) = true → ∃ xs, Vals xs us ∧ ∀ w F, RpL ⟨K, mg, w⟩ F ds xs
  | [], [], _, _ => ⟨[], .nil, fun w F => by simp only [RpL]⟩
  | [], _ :: _, e, _ => by simp at e
  | _ :: _, [], e, _ => by simp at e
  | d :: ds, u :: us, e, a => by
    simp only [List.zip_cons_cons, List.all_cons, Bool.and_eq_true] at a
    obtain ⟨v, r, p⟩ := h d u a.1
    obtain ⟨xs, rs, ps⟩ := constL_ok h ds us (by simpa using e) a.2
    exact ⟨v :: xs, .cons r rs, fun w F => by simp only [RpL]; exact ⟨v, xs, rfl, p w F, ps w F⟩⟩
theorem constV_ok {K : PySem.W.Frag} {mg : Str → Option Value} : ∀ (k : Nat) (d : D) (u : Value), constV K k d u = true → ∃ v, RelV v u ∧ ∀ w F, Rp ⟨K, mg, w⟩ F d v
  | 0, _, _, h => by cases h
  | k + 1, d, u, h => by
    unfold constV at h
    split at h
    · exact ⟨.non, rfl, fun w F => by simp only [Rp]⟩
    · rename_i b c
      have e : b = c := by simpa using h
      subst e
      exact ⟨.bl b, rfl, fun w F => by simp only [Rp]⟩
    · rename_i i j t
      have e : i = j := of_decide_eq_true h
      subst e
      exact ⟨.int i, ⟨t, rfl⟩, fun w F => by simp only [Rp]⟩
    · rename_i i j t
      have e : i = j := of_decide_eq_true h
      subst e
      exact ⟨.str i, ⟨t, rfl⟩, fun w F => by simp only [Rp]⟩
    · rename_i ds a
      split at h
      · rename_i dd its n sl q
        simp only [Bool.and_eq_true] at h
        obtain ⟨h1, h2, h3⟩ := h
        obtain ⟨xs, rs, ps⟩ := constL_ok (constV_ok k) ds its.toList (by simpa using h2) h3
        exact ⟨.ref a, rfl, fun w F => by
          simp only [Rp]
          exact ⟨a, xs, rfl, .inr ⟨_, its, n, q, rfl, rfl, by rw [sizeLine_eq]; exact Nat.le_of_ble_eq_true h1, rs⟩, ps w F⟩⟩
      · cases h
    · rename_i ds a
      split at h
      · rename_i its n sl q
        simp only [Bool.and_eq_true] at h
        obtain ⟨h1, h2, h3⟩ := h
        obtain ⟨xs, rs, ps⟩ := constL_ok (constV_ok k) ds its.toList (by simpa using h2) h3
        exact ⟨.ref a, rfl, fun w F => by
          simp only [Rp]
          exact ⟨a, xs, rfl, .inr ⟨_, its, n, q, rfl, rfl, rfl, by rw [sizeLine_eq]; exact Nat.le_of_ble_eq_true h1, rs⟩, ps w F⟩⟩
      · cases h
    · cases h
def globb (K : PySem.W.Frag) (x : Str) (d : D) : Bool := match PySem.W.nsIn K mainGlobals x with
  | some (some u) => constV K 9 d u
  | _ => false
theorem globb_ok {K : PySem.W.Frag} {h : Heap} {mg : Str → Option Value} (X : K.In h) (G : h.Ns mainGlobals mg) {x : Str} {d : D} (b : globb K x d = true) : GlobD K mg x d := by
  unfold globb at b
  split at b
  · rename_i u e
    obtain ⟨v, r, p⟩ := constV_ok (mg := mg) 9 d u b
    exact ⟨⟨u, v, PySem.W.mg_of X G e, r, p⟩⟩
  · cases b
end Gh

set_option Elab.async false
set_option linter.all false
set_option maxRecDepth 100000
set_option maxHeartbeats 4000000
namespace Gh
open PySem PySem.Spec PyProof.Rows L2

/-! ### denotations stepped by simp, from left to right -/
theorem bind_ok {α β : Type} {a : α} {G : Hg} {k : α → Hg → Res β} : (Res.ok a G).bind k = k a G := rfl
theorem bind_exc {α β : Type} {e : Exc} {G : Hg} {k : α → Hg → Res β} : (Res.exc e G : Res α).bind k = .exc e G := rfl
theorem bind_cong {α β : Type} {r r' : Res α} {k : α → Hg → Res β} (h : r = r') : r.bind k = r'.bind k := by rw [h]
theorem toS_ok {α : Type} {ρ : GEnv} {a : α} {G : Hg} {k : α → Hg → SRes} : (Res.ok a G).toS ρ k = k a G := rfl
theorem toS_exc {α : Type} {ρ : GEnv} {e : Exc} {G : Hg} {k : α → Hg → SRes} : (Res.exc e G : Res α).toS ρ k = .exc e ρ G := rfl
theorem toS_cong {α : Type} {ρ : GEnv} {r r' : Res α} {k : α → Hg → SRes} (h : r = r') : r.toS ρ k = r'.toS ρ k := by rw [h]
def optR {α : Type} : Option (α × Hg) → Res α
  | none => .stuck
  | some (a, G) => .ok a G
theorem optR_some {α : Type} {a : α} {G : Hg} : optR (some (a, G)) = .ok a G := rfl
theorem lift_eq {α : Type} {o : Option (α × Hg)} : lift o = optR o := by cases o <;> rfl
def optP {α : Type} (G : Hg) : Option α → Res α
  | none => .stuck
  | some a => .ok a G
theorem optP_some {α : Type} {a : α} {G : Hg} : optP G (some a) = .ok a G := rfl
theorem liftP_eq {α : Type} {o : Option α} {G : Hg} : liftP o G = optP G o := by cases o <;> rfl
def optS : Option (GEnv × Hg) → SRes
  | none => .stuck
  | some (ρ, G) => .nx ρ G
theorem optS_some {ρ : GEnv} {G : Hg} : optS (some (ρ, G)) = .nx ρ G := rfl
def ooW (G : Hg) : Option (Option W) → Res W
  | some (some w) => .ok w G
  | _ => .stuck
theorem oo_some {G : Hg} {w : W} : ooW G (some (some w)) = .ok w G := rfl
def seqS (b : GS) : SRes → SRes
  | .nx ρ G => b ρ G
  | r => r
theorem seqS_nx {b : GS} {ρ : GEnv} {G : Hg} : seqS b (.nx ρ G) = b ρ G := rfl
theorem seqS_ret {b : GS} {w : W} {G : Hg} : seqS b (.ret w G) = .ret w G := rfl
theorem seqS_exc {b : GS} {e : Exc} {ρ : GEnv} {G : Hg} : seqS b (.exc e ρ G) = .exc e ρ G := rfl
theorem seqS_cong {b : GS} {r r' : SRes} (h : r = r') : seqS b r = seqS b r' := by rw [h]
section
variable {ρ : GEnv} {G : Hg} {a b c o : GE} {s t : GS} {as : GEs} {tt uu : GT}
theorem e_var {i : Nat} : gVar i ρ G = ooW G ρ[i]? := by unfold gVar ooW; rfl
theorem e_C {x : D} : gC x ρ G = .ok (.d x) G := rfl
theorem e_bin {f : W → W → Hg → Option (W × Hg)} : gBin f a b ρ G = (a ρ G).bind fun x G1 => (b ρ G1).bind fun y G2 => optR (f x y G2) := by unfold gBin; simp only [lift_eq]
theorem e_call {f : List W → Hg → Option (W × Hg)} : gCall f as ρ G = (as ρ G).bind fun xs G1 => optR (f xs G1) := by unfold gCall; simp only [lift_eq]
theorem e_nilA : gNilA ρ G = .ok [] G := rfl
theorem e_consA : gConsA a as ρ G = (a ρ G).bind fun x G1 => (as ρ G1).bind fun xs G2 => .ok (x :: xs) G2 := rfl
theorem e_tst : gTst a ρ G = (a ρ G).bind fun x G1 => optP G1 (asB x) := by unfold gTst; simp only [liftP_eq]
theorem e_and : gAnd tt uu ρ G = (tt ρ G).bind fun x G1 => bif x then uu ρ G1 else .ok false G1 := by unfold gAnd; congr; funext x G1; cases x <;> rfl
theorem e_or : gOr tt uu ρ G = (tt ρ G).bind fun x G1 => bif x then .ok true G1 else uu ρ G1 := by unfold gOr; congr; funext x G1; cases x <;> rfl
theorem e_not : gNot tt ρ G = (tt ρ G).bind fun x G1 => .ok (!x) G1 := rfl
def oB (r : Bool → Res W) : Option Bool → Res W
  | none => .stuck
  | some k => r k
theorem oB_some {r : Bool → Res W} {k : Bool} : oB r (some k) = r k := rfl
theorem e_andV : gAndV a b ρ G = (a ρ G).bind fun x G1 => oB (fun k => bif k then b ρ G1 else .ok (.d (.bl false)) G1) (asB x) := by
  unfold gAndV; congr; funext x G1; cases asB x with | none => rfl | some k => cases k <;> rfl
theorem e_orV : gOrV a b ρ G = (a ρ G).bind fun x G1 => oB (fun k => bif k then .ok (.d (.bl true)) G1 else b ρ G1) (asB x) := by
  unfold gOrV; congr; funext x G1; cases asB x with | none => rfl | some k => cases k <;> rfl
theorem e_notV : gNotV a ρ G = (a ρ G).bind fun x G1 => oB (fun k => .ok (.d (.bl (!k))) G1) (asB x) := by
  unfold gNotV; refine congrArg _ (funext fun x => funext fun G1 => ?_); cases asB x with | none => rfl | some k => rfl
theorem e_ifE : gIfE tt a b ρ G = (tt ρ G).bind fun x G1 => bif x then a ρ G1 else b ρ G1 := by unfold gIfE; congr; funext x G1; cases x <;> rfl
theorem e_seq : gSeq s t ρ G = seqS t (s ρ G) := by unfold gSeq seqS; cases s ρ G <;> rfl
theorem e_nil : gNil ρ G = .nx ρ G := rfl
theorem e_expr : gExpr a ρ G = (a ρ G).toS ρ fun _ G' => .nx ρ G' := rfl
theorem e_ret : gRet a ρ G = (a ρ G).toS ρ fun w G' => .ret w G' := rfl
theorem e_retN : gRetN ρ G = .ret (.d .non) G := rfl
theorem e_if : gIf tt s t ρ G = (tt ρ G).toS ρ fun k G' => bif k then s ρ G' else t ρ G' := by unfold gIf; congr; funext x G1; cases x <;> rfl
theorem e_asg {tg : GTg} : gAsg a tg ρ G = (a ρ G).toS ρ fun w G' => optS (tg w ρ G') := by
  unfold gAsg; refine congrArg _ (funext fun w => funext fun G1 => ?_); cases tg w ρ G1 <;> rfl
theorem e_nm {i : Nat} {w : W} : gNm i w ρ G = some (ρ.set i (some w), G) := rfl
def sb2 (f : W → W → W → Hg → Option Hg) (wo v : W) (ρ : GEnv) : Res W → Option (GEnv × Hg)
  | .ok wi G2 => (f wo wi v G2).map fun G3 => (ρ, G3)
  | _ => none
theorem sb2_ok {f : W → W → W → Hg → Option Hg} {wo v wi : W} : sb2 f wo v ρ (.ok wi G) = (f wo wi v G).map fun G3 => (ρ, G3) := rfl
def sb1 (k : W → Hg → Option (GEnv × Hg)) : Res W → Option (GEnv × Hg)
  | .ok wo G1 => k wo G1
  | _ => none
theorem sb1_ok {k : W → Hg → Option (GEnv × Hg)} {w : W} : sb1 k (.ok w G) = k w G := rfl
theorem sb1_cong {k : W → Hg → Option (GEnv × Hg)} {r r' : Res W} (h : r = r') : sb1 k r = sb1 k r' := by rw [h]
theorem e_sb {f : W → W → W → Hg → Option Hg} {v : W} : gSb o a f v ρ G = sb1 (fun wo G1 => sb2 f wo v ρ (a ρ G1)) (o ρ G) := by
  unfold gSb sb1
  cases o ρ G with
  | ok wo G1 => (simp only [sb2]) <;> (cases a ρ G1 <;> rfl)
  | _ => rfl
theorem e_fnS {n : Nat} {f : List W → Hg → Res W} : gFnS n f as ρ G = (as ρ G).bind fun ws G1 => bif ws.length == n then f ws G1 else .stuck := by
  unfold gFnS; congr; funext ws G1
  by_cases h : ws.length = n
  · rw [if_pos h, h, beq_self_eq_true, cond_true]
  · rw [if_neg h, beq_eq_false_iff_ne.mpr h, cond_false]
theorem e_fI {f : Int → Int → Option D} {i j : Int} : fI f (.d (.int i)) (.d (.int j)) G = (f i j).map fun d => (.d d, G) := by unfold fI; rfl
theorem e_add {i j : Int} : fAdd (.d (.int i)) (.d (.int j)) G = some (.d (.int (i + j)), G) := rfl
theorem e_int {i : Int} : fInt [.d (.int i)] G = some (.d (.int i), G) := rfl
theorem e_intb {i : Bool} : fInt [.d (.bl i)] G = some (.d (.int (if i then 1 else 0)), G) := by cases i <;> rfl
/-- what is done with the object at i -/
def ixO (k : Int) (G : Hg) : Option GO → Option (W × Hg)
  | some (.lst ws) => (atI ws k).map fun z => (z, G)
  | some (.dic false kvs) => (lookK kvs (.int k)).map fun z => (z, G)
  | some (.lkd false kvs) => (lookK kvs (.int k)).map fun z => (z, G)
  | _ => none
theorem e_ixR {i : Nat} {k : Int} : fIxD (.ref i) (.d (.int k)) G = ixO k G G[i]? := by
  unfold fIxD dicW fIx seqW ixO keyW
  cases q : G[i]? with
  | none => simp only [q]
  | some o => cases o with
    | dic t kvs => cases t <;> (simp only [q]; try rfl)
    | lkd t kvs => cases t <;> (simp only [q]; try rfl)
    | _ => simp only [q]
theorem ixO_lst {k : Int} {ws : List W} : ixO k G (some (.lst ws)) = (atI ws k).map fun z => (z, G) := rfl
theorem e_ixL {ds : List D} {k : Int} : fIxD (.d (.lst ds)) (.d (.int k)) G = (atI (ds.map .d) k).map fun z => (z, G) := rfl
theorem e_ixT {ds : List D} {k : Int} : fIxD (.d (.tup ds)) (.d (.int k)) G = (atI (ds.map .d) k).map fun z => (z, G) := rfl
theorem e_ixTW {ws : List W} {k : Int} : fIxD (.tup ws) (.d (.int k)) G = (atI ws k).map fun z => (z, G) := rfl
def setO (i : Nat) (k : Int) (v : W) (G : Hg) : Option GO → Option Hg
  | some (.lst ws) => (ixN ws.length k).map fun j => G.set i (.lst (ws.set j v))
  | some (.dic false kvs) => if Nat.blt kvs.length 16777216 then some (G.set i (.dic false (putW kvs (.int k) v))) else none
  | _ => none
theorem e_setR {i : Nat} {k : Int} {v : W} : fSetD (.ref i) (.d (.int k)) v G = setO i k v G G[i]? := by
  unfold fSetD getDm fSetL getL setO keyW
  cases q : G[i]? with
  | none => simp only [q]
  | some o => cases o with
    | dic t kvs => cases t <;> (simp only [q]; try rfl)
    | _ => simp only [q]
theorem setO_lst {i : Nat} {k : Int} {v : W} {ws : List W} : setO i k v G (some (.lst ws)) = (ixN ws.length k).map fun j => G.set i (.lst (ws.set j v)) := rfl
end
theorem atI_0 {α : Type} {x : α} {l : List α} : atI (x :: l) 0 = some x := by simp [atI, ixN]
theorem atI_1 {α : Type} {x y : α} {l : List α} : atI (x :: y :: l) 1 = some y := by
  have h : ixN (x :: y :: l).length 1 = some 1 := by
    unfold ixN
    rw [if_pos (by decide), if_pos (by simp only [List.length_cons]; omega)]
    rfl
  unfold atI
  rw [h]
  rfl
theorem atI_2 {α : Type} {x y z : α} {l : List α} : atI (x :: y :: z :: l) 2 = some z := by
  have h : ixN (x :: y :: z :: l).length 2 = some 2 := by
    unfold ixN
    rw [if_pos (by decide), if_pos (by simp only [List.length_cons]; omega)]
    rfl
  unfold atI
  rw [h]
  rfl
theorem ixN0 {n : Nat} : ixN (n + 1) 0 = some 0 := by
  unfold ixN
  rw [if_pos (by decide), if_pos (by omega)]
  rfl
theorem ixN1 {n : Nat} : ixN (n + 1 + 1) 1 = some 1 := by
  unfold ixN
  rw [if_pos (by decide), if_pos (by omega)]
  rfl
theorem ixN2 {n : Nat} : ixN (n + 1 + 1 + 1) 2 = some 2 := by
  unfold ixN
  rw [if_pos (by decide), if_pos (by omega)]
  rfl
theorem endS_same {n : Nat} {w : W} {G : Hg} (h : G.length = n) : endS n w G = .ok w G := by
  unfold endS cutG
  split
  · subst h
    rw [List.take_length]
    split
    · rename_i q
      split at q
      · cases q; rfl
      · cases q
    · rfl
  · rfl
local macro_rules | `(tactic| walk_at "gs") => `(tactic| simp only [*, e_ixR, ixO_lst, e_setR, setO_lst, decide_true, decide_false, ixN0, ixN2, List.length_cons, List.length_nil, List.length_set, List.getElem?_set, if_true, bind_ok, bind_exc, toS_ok, toS_exc, optR_some, optP_some, optS_some, oo_some, seqS_nx, seqS_ret, seqS_exc, e_var, e_C, e_bin, e_call, e_nilA, e_consA, e_tst, e_and, e_or, e_not, oB_some, e_andV, e_orV, e_notV, e_ifE, e_seq, e_nil, e_expr, e_ret, e_retN, e_if,
  e_asg, e_nm, sb2_ok, sb1_ok, e_sb, e_fnS, e_fI, e_add, e_int, e_intb, e_ixL, e_ixT, e_ixTW, atI_0, atI_1, atI_2, ixN1, asB, iSub, iAdd, iCmp, List.getElem?_cons_zero, List.getElem?_cons_succ, List.set_cons_zero, List.set_cons_succ, List.map_cons, List.map_nil, Option.map_some, Option.bind_some, cond_true, cond_false])

/-! ### the laws' source of draws -/
structure SrcOk (ws : List W) : Prop where
  ex : ∃ a b c : Int, ws = [.d (.int a), .d (.int b), .d (.int c)] ∧ 0 ≤ a ∧ 0 ≤ b ∧ b < 2147483647 ∧ 0 ≤ c
def gsSource : GS := gSeq (gAsg (gIfE (gTst (gBin (fI (iCmp fun i j => decide (j ≤ i))) (gVar 0) (gC (.int 0)))) (gVar 0) (gBin (fI iSub) (gBin (fI iSub) (gC (.int 0)) (gBin (fI iMul) (gC (.int 3)) (gVar 0))) (gC (.int 1)))) (gNm 0)) (gRet (gNew (gConsA (gBin (fI iMul) (gVar 0) (gCall fInt (gConsA (gBin (fI (iCmp fun i j => decide (j ≤ i))) (gVar 0) (gBin (fI iPow) (gC (.int 10)) (gC (.int 18)))) (gNilA)))) (gConsA (gBin (fI iMod) (gCall fInt (gConsA (gVar 0) (gNilA))) (gC (.int 2147483647))) (gConsA (gC (.int 0)) (gNilA))))))
def gsNext : GS := gSeq (gIf (gTst (gBin (fI (iCmp fun i j => decide (j < i))) (gBin fIxD (gVar 0) (gC (.int 0))) (gC (.int 0)))) (gSeq (gAsg (gBin (fI iMod) (gCall fInt (gConsA (gBin fIxD (gVar 0) (gC (.int 0))) (gNilA))) (gVar 1)) (gNm 4)) (gSeq (gAsg (gBin (fI iDiv) (gBin fIxD (gVar 0) (gC (.int 0))) (gVar 1)) (gSb (gVar 0) (gC (.int 0)) fSetD)) (gRet (gVar 4)))) (gNil)) (gSeq (gAsg (gBin fAdd (gBin fIxD (gVar 0) (gC (.int 2))) (gC (.int 1))) (gSb (gVar 0) (gC (.int 2)) fSetD)) (gSeq (gAsg (gC (.int 2147483647)) (gNm 2)) (gSeq (gAsg (gBin (fI iMod) (gCall fInt (gConsA (gBin fAdd (gBin fAdd (gBin fIxD (gVar 0) (gC (.int 1))) (gBin (fI iMul) (gC (.int 104729)) (gBin fIxD (gVar 0) (gC (.int 2))))) (gC (.int 7919))) (gNilA))) (gVar 2)) (gNm 3)) (gSeq (gAsg (gBin (fI iMod) (gCall fInt (gConsA (gBin (fI iMul) (gVar 3) (gC (.int 48271))) (gNilA))) (gVar 2)) (gNm 3)) (gSeq (gAsg (gBin (fI iMod) (gCall fInt (gConsA (gBin (fI iMul) (gVar 3) (gBin fAdd (gBin (fI iDiv) (gVar 3) (gC (.int 1009))) (gC (.int 69621)))) (gNilA))) (gVar 2)) (gNm 3)) (gSeq (gAsg (gBin (fI iMod) (gCall fInt (gConsA (gBin (fI iMul) (gVar 3) (gBin fAdd (gBin (fI iDiv) (gVar 3) (gC (.int 2003))) (gC (.int 40692)))) (gNilA))) (gC (.int 2147483399))) (gNm 3)) (gRet (gBin (fI iMod) (gCall fInt (gConsA (gBin (fI iDiv) (gVar 3) (gC (.int 7))) (gNilA))) (gVar 1)))))))))
def fNext : List W → Hg → Res W := runS 5 gsNext
theorem iMod_ok {i j : Int} (h : 0 < j) : iMod i j = some (.int (i % j)) := if_pos h
theorem iDiv_ok {i j : Int} (h : 0 < j) (h2 : j < 1073741824) : iDiv i j = some (.int (i / j)) := if_pos ⟨h, h2⟩
theorem iMul_okL {i j : Int} (h : -(2 ^ 64) < i ∧ i < 2 ^ 64) : iMul i j = some (.int (i * j)) := if_pos (.inl h)
theorem iMul_okR {i j : Int} (h : -(2 ^ 64) < j ∧ j < 2 ^ 64) : iMul i j = some (.int (i * j)) := if_pos (.inr h)
theorem runS_ret {N : Nat} {g : GS} {ws : List W} {G G' : Hg} {w : W} (h : g (envS N ws) G = .ret w G') (hl : G'.length = G.length) : runS N g ws G = .ok w G' := by
  unfold runS
  rw [h]
  exact endS_same hl
theorem next_ok {G : Hg} {i : Nat} {src : List W} {m : Int} (h : G[i]? = some (.lst src)) (hs : SrcOk src) (h0 : 0 < m) (h1 : m < 1073741824) :
    ∃ r src', 0 ≤ r ∧ r < m ∧ SrcOk src' ∧ fNext [.ref i, .d (.int m)] G = .ok (.d (.int r)) (G.set i (.lst src')) := by
  obtain ⟨a, b, c, rfl, ha, hb, hb2, hc⟩ := hs.ex
  have hi : i < G.length := (List.getElem?_eq_some_iff.mp h).1
  have e : envS 5 [.ref i, .d (.int m)] = [some (.ref i), some (.d (.int m)), none, none, none] := rfl
  have m1 : ∀ j, iMod j m = some (.int (j % m)) := fun j => iMod_ok h0
  have m2 : ∀ j, iDiv j m = some (.int (j / m)) := fun j => iDiv_ok h0 h1
  by_cases h2 : 0 < a
  · refine ⟨a % m, [.d (.int (a / m)), .d (.int b), .d (.int c)], Int.emod_nonneg _ (by omega), Int.emod_lt_of_pos _ h0, ⟨_, _, _, rfl, Int.ediv_nonneg ha (by omega), hb, hb2, hc⟩, ?_⟩
    refine runS_ret ?_ (by simp)
    unfold gsNext
    walk_at "gs"
  · have k1 : ∀ j, iMul 104729 j = some (.int (104729 * j)) := fun j => iMul_okL (by decide)
    have k2 : ∀ j, iMul j 48271 = some (.int (j * 48271)) := fun j => iMul_okR (by decide)
    have k3 : ∀ j, iMod j 2147483647 = some (.int (j % 2147483647)) := fun j => iMod_ok (by decide)
    have k4 : ∀ j, iMod j 2147483399 = some (.int (j % 2147483399)) := fun j => iMod_ok (by decide)
    have k5 : ∀ j, iDiv j 1009 = some (.int (j / 1009)) := fun j => iDiv_ok (by decide) (by decide)
    have k6 : ∀ j, iDiv j 2003 = some (.int (j / 2003)) := fun j => iDiv_ok (by decide) (by decide)
    have k7 : ∀ j, iDiv j 7 = some (.int (j / 7)) := fun j => iDiv_ok (by decide) (by decide)
    have k8 : ∀ j k, iMul (j % 2147483647) k = some (.int (j % 2147483647 * k)) := fun j k => iMul_okL ⟨by omega, by omega⟩
    have key : ∃ z : Int, gsNext (envS 5 [.ref i, .d (.int m)]) G = .ret (.d (.int (z % m))) (G.set i (.lst [.d (.int a), .d (.int b), .d (.int (c + 1))])) := ⟨_, by
      unfold gsNext
      walk_at "gs"
      rfl⟩
    obtain ⟨z, hz⟩ := key
    exact ⟨z % m, [.d (.int a), .d (.int b), .d (.int (c + 1))], Int.emod_nonneg _ (by omega), Int.emod_lt_of_pos _ h0, ⟨_, _, _, rfl, ha, hb, hb2, by omega⟩, runS_ret hz (by simp)⟩
end Gh

set_option Elab.async false
set_option linter.all false
set_option maxRecDepth 100000
set_option maxHeartbeats 4000000
namespace Gh
open PySem PySem.Spec PyProof.Rows L2
/-! ### more steps -/
def iffR {α : Type} (r : Res α) (b : Bool) : Res α := bif b then r else .stuck
theorem iffR_t {α : Type} {r : Res α} : iffR r true = r := rfl
section
variable {ρ : GEnv} {G : Hg} {a b c o : GE} {s t : GS} {as : GEs} {tt uu : GT}
theorem e_new : gNew as ρ G = (as ρ G).bind fun ws G1 => iffR (.ok (.ref G1.length) (G1 ++ [.lst ws])) (small ws.length) := by
  unfold gNew iffR; refine congrArg _ (funext fun w => funext fun G1 => ?_); cases small w.length <;> rfl
def lstW (G : Hg) : Option (List D) → Res W
  | some ds => .ok (.d (.lst ds)) G
  | none => .stuck
theorem lstW_some {ds : List D} : lstW G (some ds) = .ok (.d (.lst ds)) G := rfl
theorem e_lst : gLst as ρ G = (as ρ G).bind fun ws G1 => iffR (lstW G1 (allD ws)) (small ws.length) := by
  unfold gLst iffR lstW; refine congrArg _ (funext fun w => funext fun G1 => ?_); cases small w.length <;> cases allD w <;> rfl
theorem e_tup : gTup as ρ G = (as ρ G).bind fun ws G1 => iffR (.ok (mkTup ws) G1) (small ws.length) := by
  unfold gTup iffR; refine congrArg _ (funext fun w => funext fun G1 => ?_); cases small w.length <;> rfl
theorem e_mt {t : Ty} {f : W → List W → Hg → Option (W × Hg)} : gMt t f o as ρ G = (o ρ G).bind fun w G1 => iffR ((as ρ G1).bind fun ws G2 => optR (f w ws G2)) (decide (tyW w G1 = some t) && noDic w G1) := by
  unfold gMt iffR; refine congrArg _ (funext fun w => funext fun G1 => ?_)
  by_cases h : tyW w G1 = some t
  · by_cases h2 : noDic w G1 = true
    · rw [if_pos ⟨h, h2⟩, decide_eq_true h, h2]; simp only [lift_eq, Bool.and_self, cond_true]
    · rw [if_neg (fun z => h2 z.2), Bool.eq_false_iff.mpr h2, Bool.and_false, cond_false]
  · rw [if_neg (fun z => h z.1), decide_eq_false h, Bool.false_and, cond_false]
end
theorem allD_nil : allD [] = some [] := rfl
theorem allD_cons {x : D} {r : List W} : allD (.d x :: r) = (allD r).map (x :: ·) := rfl
theorem allD_map : ∀ ds : List D, allD (ds.map .d) = some ds
  | [] => rfl
  | d :: ds => by rw [List.map_cons, allD_cons, allD_map ds]; rfl
theorem mkTup_d {ds : List D} : mkTup (ds.map .d) = .d (.tup ds) := by unfold mkTup; rw [allD_map]
theorem sml {n : Nat} (h : n ≤ 16777216) : small n = true := Nat.ble_eq_true_of_le h
/-! ### lists on the heap -/
section
variable {G : Hg} {i : Nat} {ws : List W}
theorem ty_lst (h : G[i]? = some (.lst ws)) : tyW (.ref i) G = some .lst := by unfold tyW; simp only [h]
theorem noDic_lst (h : G[i]? = some (.lst ws)) : noDic (.ref i) G = true := by unfold noDic; simp only [h]
theorem app_ok {u : W} (h : G[i]? = some (.lst ws)) (hl : ws.length < 16777216) : fAppend (.ref i) [u] G = some (.d .non, G.set i (.lst (ws ++ [u]))) := by
  unfold fAppend getL
  simp only [h]
  rw [if_pos (Nat.blt_eq.mpr hl)]
theorem popAt_ok {k : Int} {w : W} (h : G[i]? = some (.lst ws)) (h0 : 0 ≤ k) (h1 : k < ws.length) (hl : ws.length ≤ 16777216) (hw : ws[k.toNat]? = some w) : fPop (.ref i) [.d (.int k)] G = some (w, G.set i (.lst (ws.eraseIdx k.toNat))) := by
  unfold fPop getL
  have f : fit62 k = true := by unfold fit62; simp only [Bool.and_eq_true, decide_eq_true_eq]; omega
  have s : seqIndex? k ws.length = some k.toNat := by
    unfold seqIndex?
    have e : ¬ k < 0 := by omega
    simp only [e, if_false]
    rw [if_pos (by simp only [Bool.and_eq_true, decide_eq_true_eq]; omega)]
  simp only [h, f, if_true, s, hw, Option.map_some]
end
/-! ### == with [] -/
structure OkE (d : D) : Prop where
  c : (toPy d).canLay0 = true
  p : (toPy d).depth ≤ 60
theorem okE_int {i : Int} : OkE (.int i) := ⟨by simp [toPy, PyData.canLay0], by simp [toPy, PyData.depth]⟩
theorem okE_non : OkE .non := ⟨by simp [toPy, PyData.canLay0], by simp [toPy, PyData.depth]⟩
theorem okE_bl {i : Bool} : OkE (.bl i) := ⟨by simp [toPy, PyData.canLay0], by simp [toPy, PyData.depth]⟩
theorem lay_all : ∀ {ds : List D}, (∀ d ∈ ds, OkE d) → PyData.canLayAll0 (toPyL ds) = true
  | [], _ => rfl
  | d :: ds, h => by
    simp only [toPyL, PyData.canLayAll0, Bool.and_eq_true]
    exact ⟨(h d List.mem_cons_self).c, lay_all fun x hx => h x (List.mem_cons_of_mem _ hx)⟩
theorem dep_all : ∀ {ds : List D}, (∀ d ∈ ds, OkE d) → PyData.depthAll (toPyL ds) ≤ 60
  | [], _ => by simp [toPyL, PyData.depthAll]
  | d :: ds, h => by
    have h1 := (h d List.mem_cons_self).p
    have h2 := dep_all fun x hx => h x (List.mem_cons_of_mem d hx)
    simp only [toPyL, PyData.depthAll]
    omega
theorem okD_lst {ds : List D} (h : ∀ d ∈ ds, OkE d) : okD (.lst ds) = true := by
  unfold okD SeqAt.shaped
  have := dep_all h
  simp only [toPy, PyData.canLay0, PyData.depth, Bool.and_eq_true, decide_eq_true_eq]
  exact ⟨lay_all h, by omega⟩
theorem okD_tup {ds : List D} (h : ∀ d ∈ ds, OkE d) : okD (.tup ds) = true := by
  unfold okD SeqAt.shaped
  have := dep_all h
  simp only [toPy, PyData.canLay0, PyData.depth, Bool.and_eq_true, decide_eq_true_eq]
  exact ⟨lay_all h, by omega⟩
theorem eqD_nil {ds : List D} : eqD (.lst ds) (.lst []) = ds.isEmpty := by
  unfold eqD
  cases ds with
  | nil => simp [toPy, toPyL, PyData.eqv, PyData.eqvAll]
  | cons d ds => simp [toPy, toPyL, PyData.eqv, PyData.eqvAll]
theorem neNil_ok {G : Hg} {i : Nat} {ds : List D} (h : G[i]? = some (.lst (ds.map .d))) (hd : ∀ d ∈ ds, OkE d) : fEqS true (.ref i) (.d (.lst [])) G = some (.d (.bl (!ds.isEmpty)), G) := by
  unfold fEqS fEqE dicW fEq Gh.snap
  simp only [h, allD_map, Option.map_some, okD_lst hd, okD_lst (ds := []) (by simp), eqD_nil, Bool.and_self, if_true, Bool.true_xor]
/-! ### what stays -/
/-- no dict is locked -/
def NoL (G : Hg) : Prop := G.any GO.isL = false
theorem NoL.set {G : Hg} (h : NoL G) (i : Nat) {o : GO} (ho : o.isL = false) : NoL (G.set i o) := by
  unfold NoL at h ⊢
  rw [List.any_eq_false] at h ⊢
  intro x hx
  rcases List.mem_or_eq_of_mem_set hx with z | rfl
  · exact h x z
  · simp [ho]
theorem NoL.app {G : Hg} (h : NoL G) {o : GO} (ho : o.isL = false) : NoL (G ++ [o]) := by
  unfold NoL at h ⊢
  rw [List.any_append, h]
  simp [ho]
structure Fr (m : List Nat) (G G' : Hg) : Prop where
  le : G.length ≤ G'.length
  eq : ∀ j, j < G.length → j ∉ m → G'[j]? = G[j]?
  nl : NoL G → NoL G'
theorem Fr.refl {m : List Nat} {G : Hg} : Fr m G G := ⟨Nat.le_refl _, fun _ _ _ => rfl, id⟩
theorem Fr.trans {m : List Nat} {G G' G'' : Hg} (a : Fr m G G') (b : Fr m G' G'') : Fr m G G'' := ⟨Nat.le_trans a.le b.le, fun j h1 h2 => (b.eq j (Nat.lt_of_lt_of_le h1 a.le) h2).trans (a.eq j h1 h2), fun h => b.nl (a.nl h)⟩
theorem Fr.set {m : List Nat} {G : Hg} {i : Nat} {o : GO} (h : i ∈ m) (ho : o.isL = false := by rfl) : Fr m G (G.set i o) := ⟨by simp, fun j h1 h2 => List.getElem?_set_ne fun e => h2 (by rw [← e]; exact h), fun z => z.set i ho⟩
theorem Fr.mono {m m' : List Nat} {G G' : Hg} (a : Fr m G G') (h : ∀ i ∈ m, i ∈ m') : Fr m' G G' := ⟨a.le, fun j h1 h2 => a.eq j h1 fun z => h2 (h j z), a.nl⟩
theorem Fr.app {m : List Nat} {G : Hg} {o : GO} (ho : o.isL = false := by rfl) : Fr m G (G ++ [o]) := ⟨by simp, fun j h1 _ => List.getElem?_append_left h1, fun z => z.app ho⟩
theorem Fr.at {m : List Nat} {G G' : Hg} {i : Nat} {o : GO} (a : Fr m G G') (h : G[i]? = some o) (n : i ∉ m) : G'[i]? = some o := (a.eq i (List.getElem?_eq_some_iff.mp h).1 n).trans h
/-- outside what is new -/
theorem Fr.newOnly {m m' : List Nat} {G G' : Hg} (a : Fr m G G') (h : ∀ i ∈ m, i ∈ m' ∨ G.length ≤ i) : Fr m' G G' := ⟨a.le, fun j h1 h2 => a.eq j h1 fun z => by
  rcases h j z with q | q
  · exact h2 q
  · omega, a.nl⟩

/-! ### _law_one, _law_mixed -/
local macro_rules | `(tactic| walk_at "gs") => `(tactic| simp only [*, e_ixR, ixO_lst, e_setR, setO_lst, decide_true, decide_false, ixN0, ixN2, List.length_cons, List.length_nil, List.length_set, List.getElem?_set, if_true, bind_ok, bind_exc, toS_ok, toS_exc, optR_some, optP_some, optS_some, oo_some, seqS_nx, seqS_ret, seqS_exc, e_var, e_C, e_bin, e_call, e_nilA, e_consA, e_tst, e_and, e_or, e_not, oB_some, e_andV, e_orV, e_notV, e_ifE, e_seq, e_nil, e_expr, e_ret, e_retN, e_if,
  e_asg, e_nm, sb2_ok, sb1_ok, e_sb, e_fnS, e_fI, e_add, e_int, e_intb, e_ixL, e_ixT, e_ixTW, atI_0, atI_1, atI_2, ixN1, asB, iSub, iAdd, iCmp, List.getElem?_cons_zero, List.getElem?_cons_succ, List.set_cons_zero, List.set_cons_succ, List.map_cons, List.map_nil, Option.map_some, Option.bind_some, cond_true, cond_false,
  e_new, e_lst, lstW_some, e_tup, e_mt, iffR_t, allD_nil, allD_cons, beq_self_eq_true, Bool.and_self])
theorem whileN_t {c : GT} {body : GS} {n : Nat} {ρ ρ2 : GEnv} {G G1 G2 : Hg} (hc : c ρ G = .ok true G1) (hb : body ρ G1 = .nx ρ2 G2) : whileN c body (n + 1) ρ G = whileN c body n ρ2 G2 := by
  conv => lhs; unfold whileN
  rw [hc, toS_ok, if_pos rfl]
  simp only [hb]
theorem whileN_f {c : GT} {body : GS} {n : Nat} {ρ : GEnv} {G G1 : Hg} (hc : c ρ G = .ok false G1) : whileN c body (n + 1) ρ G = .nx ρ G1 := by
  conv => lhs; unfold whileN
  rw [hc, toS_ok, if_neg Bool.false_ne_true]
def gsMixC : GT := gTst (gBin (fEqS true) (gVar 2) (gLst (gNilA)))
def gsMixB : GS := gExpr (gMt .lst fAppend (gVar 3) (gConsA (gMt .lst fPop (gVar 2) (gConsA (gFnS 2 fNext (gConsA (gVar 0) (gConsA (gCall fLenD (gConsA (gVar 2) (gNilA))) (gNilA)))) (gNilA))) (gNilA)))
def gsMixed : GS := gSeq (gAsg (gCall fListDN (gConsA (gVar 1) (gNilA))) (gNm 2)) (gSeq (gAsg (gNew (gNilA)) (gNm 3)) (gSeq (whileN (gsMixC) (gsMixB) 1000000) (gRet (gVar 3))))
def fMixed : List W → Hg → Res W := runS 4 gsMixed
theorem lenR_ok {G : Hg} {i : Nat} {ws : List W} (h : G[i]? = some (.lst ws)) : fLenD [.ref i] G = some (.d (.int ws.length), G) := by
  unfold fLenD dicW fLen fLen1 strOf
  simp only [h]
  simp [fLen, fLen1, strOf, seqW, h]
theorem erase_map {α β : Type} (f : α → β) : ∀ (l : List α) (k : Nat), (l.map f).eraseIdx k = (l.eraseIdx k).map f
  | [], _ => rfl
  | _ :: _, 0 => rfl
  | x :: l, k + 1 => by simp [erase_map f l k]
theorem erase_perm {α : Type} : ∀ {l : List α} {k : Nat} (h : k < l.length), (l[k] :: l.eraseIdx k).Perm l
  | [], _, h => by simp at h
  | x :: l, 0, _ => by simp
  | x :: l, k + 1, h => by
    have ih := erase_perm (l := l) (k := k) (by simpa using h)
    simp only [List.getElem_cons_succ, List.eraseIdx_cons_succ]
    exact (List.Perm.swap _ _ _).trans (ih.cons x)
theorem mixB_ok {i l f : Nat} {k r : Int} {z w0 : W} {G G1 G2 G3 : Hg} (t5 : fLenD [.ref l] G = some (.d (.int k), G)) (hn : fNext [.ref i, .d (.int k)] G = .ok (.d (.int r)) G1) (hp : fPop (.ref l) [.d (.int r)] G1 = some (z, G2)) (ha : fAppend (.ref f) [z] G2 = some (.d .non, G3))
    (t1 : tyW (.ref f) G = some Ty.lst) (t2 : noDic (.ref f) G = true) (t3 : tyW (.ref l) G = some Ty.lst) (t4 : noDic (.ref l) G = true) : gsMixB [some (.ref i), some w0, some (.ref l), some (.ref f)] G = .nx [some (.ref i), some w0, some (.ref l), some (.ref f)] G3 := by
  unfold gsMixB
  walk_at "gs"
theorem mixW {w0 : W} {i l f : Nat} (hil : i ≠ l) (hif : i ≠ f) (hlf : l ≠ f) : ∀ (n : Nat) (left : List D) (found : List W) (src : List W) (G : Hg), left.length < n → left.length + found.length ≤ 16777216 → (∀ d ∈ left, OkE d) → G[i]? = some (.lst src) → SrcOk src →
    G[l]? = some (.lst (left.map .d)) → G[f]? = some (.lst found) → left.length < 1073741824 →
    ∃ (src' : List W) (p : List D) (G' : Hg), SrcOk src' ∧ p.Perm left ∧ whileN gsMixC gsMixB n [some (.ref i), some w0, some (.ref l), some (.ref f)] G = .nx [some (.ref i), some w0, some (.ref l), some (.ref f)] G' ∧
      G'[i]? = some (.lst src') ∧ G'[l]? = some (.lst []) ∧ G'[f]? = some (.lst (found ++ p.map .d)) ∧ Fr [i, l, f] G G' ∧ G'.length = G.length
  | 0, left, found, src, G, hn, _, _, _, _, _, _, _ => by omega
  | n + 1, left, found, src, G, hn, hsz, hok, hi, hs, hl, hf, hbig => by
    have hc : gsMixC [some (.ref i), some w0, some (.ref l), some (.ref f)] G = .ok (!left.isEmpty) G := by
      have e := neNil_ok hl hok
      have s0 : small 0 = true := rfl
      unfold gsMixC
      walk_at "gs"
    cases left with
    | nil => exact ⟨src, [], G, hs, .nil, whileN_f hc, hi, hl, by simpa using hf, .refl, rfl⟩
    | cons d0 rest =>
      obtain ⟨r, src1, r0, r1, hs1, hnx⟩ := next_ok (m := ((d0 :: rest).length : Nat)) hi hs (by simp only [List.length_cons]; omega) (by omega)
      have hl1 : (G.set i (.lst src1))[l]? = some (.lst ((d0 :: rest).map .d)) := by rw [List.getElem?_set_ne hil]; exact hl
      have hf1 : (G.set i (.lst src1))[f]? = some (.lst found) := by rw [List.getElem?_set_ne hif]; exact hf
      have hlt : r.toNat < (d0 :: rest).length := by omega
      have hget : ((d0 :: rest).map W.d)[r.toNat]? = some (.d ((d0 :: rest)[r.toNat]'hlt)) := by rw [List.getElem?_map, List.getElem?_eq_getElem hlt]; rfl
      have hpop := popAt_ok hl1 r0 (by rw [List.length_map]; exact r1) (by rw [List.length_map]; omega) hget
      have hf2 : ((G.set i (.lst src1)).set l (.lst (((d0 :: rest).map W.d).eraseIdx r.toNat)))[f]? = some (.lst found) := by rw [List.getElem?_set_ne hlf]; exact hf1
      have happ := app_ok (u := .d ((d0 :: rest)[r.toNat]'hlt)) hf2 (by simp only [List.length_cons] at hsz; omega)
      have t1 := ty_lst hf
      have t2 := noDic_lst hf
      have t3 := ty_lst hl
      have t4 := noDic_lst hl
      have t5 := lenR_ok hl
      rw [List.length_map] at t5
      have hb : gsMixB [some (.ref i), some w0, some (.ref l), some (.ref f)] G = .nx [some (.ref i), some w0, some (.ref l), some (.ref f)] (((G.set i (.lst src1)).set l (.lst (((d0 :: rest).map W.d).eraseIdx r.toNat))).set f (.lst (found ++ [.d ((d0 :: rest)[r.toNat]'hlt)]))) := mixB_ok t5 hnx hpop happ t1 t2 t3 t4
      have hlen : ((d0 :: rest).eraseIdx r.toNat).length = rest.length := by rw [List.length_eraseIdx_of_lt hlt]; rfl
      have hi2 : i < G.length := (List.getElem?_eq_some_iff.mp hi).1
      have hl2 : l < G.length := (List.getElem?_eq_some_iff.mp hl).1
      have hf3 : f < G.length := (List.getElem?_eq_some_iff.mp hf).1
      obtain ⟨src', p, G', a1, a2, a3, a4, a5, a6, a7, a8⟩ := mixW hil hif hlf n ((d0 :: rest).eraseIdx r.toNat) (found ++ [.d ((d0 :: rest)[r.toNat]'hlt)]) src1 (((G.set i (.lst src1)).set l (.lst (((d0 :: rest).map W.d).eraseIdx r.toNat))).set f (.lst (found ++ [.d ((d0 :: rest)[r.toNat]'hlt)]))) (by simp only [List.length_cons] at hn; omega)
        (by rw [hlen, List.length_append]; simp only [List.length_cons] at hsz; simp only [List.length_cons, List.length_nil]; omega) (fun d hd => hok d (List.mem_of_mem_eraseIdx hd))
        (by rw [List.getElem?_set_ne (Ne.symm hif), List.getElem?_set_ne (Ne.symm hil), List.getElem?_set_self hi2]) hs1 
        (by rw [List.getElem?_set_ne (Ne.symm hlf), List.getElem?_set_self (by simpa using hl2), erase_map]) (by rw [List.getElem?_set_self (by simpa using hf3)]) (by rw [hlen]; simp only [List.length_cons] at hbig; omega)
      refine ⟨src', (d0 :: rest)[r.toNat]'hlt :: p, G', a1, ?_, (whileN_t hc hb).trans a3, a4, a5, ?_, ?_, ?_⟩
      · exact (List.Perm.cons _ a2).trans (erase_perm hlt)
      · rw [a6, List.map_cons, List.append_assoc]; rfl
      · exact ((Fr.set (by simp)).trans ((Fr.set (by simp)).trans (Fr.set (by simp)))).trans a7
      · rw [a8]; simp
/-- the items of a list that is read: a tree or a list on the heap -/
theorem mixed_ok {G : Hg} {i : Nat} {w : W} {ds : List D} {src : List W} (h : G[i]? = some (.lst src)) (hs : SrcOk src) (hw : itemsW w G = some (ds.map .d)) (hok : ∀ d ∈ ds, OkE d) (hn : ds.length < 1000000) :
    ∃ (src' : List W) (p : List D) (G' : Hg), SrcOk src' ∧ p.Perm ds ∧ fMixed [.ref i, w] G = .ok (.ref (G.length + 1)) G' ∧ G'[i]? = some (.lst src') ∧ G'[G.length + 1]? = some (.lst (p.map .d)) ∧ Fr [i] G G' ∧ G'.length = G.length + 2 := by
  have hi : i < G.length := (List.getElem?_eq_some_iff.mp h).1
  obtain ⟨src', p, G', a1, a2, a3, a4, a5, a6, a7, a8⟩ := mixW (w0 := w) (i := i) (l := G.length) (f := G.length + 1) (by omega) (by omega) (by omega) 1000000 ds [] src (G ++ [.lst (ds.map .d)] ++ [.lst []]) hn (by simp only [List.length_nil]; omega) hok
    (by rw [List.getElem?_append_left (by simp; omega), List.getElem?_append_left hi]; exact h) hs (by rw [List.getElem?_append_left (by simp), List.getElem?_append_right (Nat.le_refl _), Nat.sub_self]; rfl)
    (by rw [List.getElem?_append_right (by simp)]; simp) (by omega)
  have fr : Fr [i] G G' := (((Fr.app (o := .lst (ds.map .d))).trans (Fr.app (o := .lst []))).trans (a7.mono (m' := [i, G.length, G.length + 1]) fun j hj => hj)).newOnly fun j hj => by
    simp only [List.mem_cons, List.not_mem_nil, or_false] at hj
    rcases hj with rfl | rfl | rfl
    · exact .inl (by simp)
    · exact .inr (Nat.le_refl _)
    · exact .inr (by omega)
  have e : envS 4 [.ref i, w] = [some (.ref i), some w, none, none] := rfl
  have e2 : fListDN [w] G = some (.ref G.length, G ++ [.lst (ds.map .d)]) := by
    show (itemsW w G).map _ = _
    rw [hw]
    rfl
  have s0 : small 0 = true := rfl
  have hl : (G ++ [GO.lst (ds.map .d)]).length = G.length + 1 := by simp
  have key : gsMixed (envS 4 [.ref i, w]) G = .ret (.ref (G.length + 1)) G' := by
    unfold gsMixed
    walk_at "gs"
  refine ⟨src', p, G', a1, a2, ?_, a4, by simpa using a6, fr, by rw [a8]; simp⟩
  show runS 4 gsMixed _ _ = _
  unfold runS
  rw [key]
  unfold endS
  have nb : belowW G.length (.ref (G.length + 1)) = false := by simp [belowW]
  simp only [nb, Bool.false_eq_true, if_false]
/-! ### the cell's source -/
def fSource : List W → Hg → Res W := runS 1 gsSource
theorem source_ok {G : Hg} (n : Int) : ∃ src : List W, SrcOk src ∧ fSource [.d (.int n)] G = .ok (.ref G.length) (G ++ [.lst src]) := by
  have p1 : iPow 10 18 = some (.int 1000000000000000000) := by
    unfold iPow
    rw [if_pos (by decide)]
    rfl
  have p2 : ∀ j, iMul 3 j = some (.int (3 * j)) := fun j => iMul_okL (by decide)
  have p3 : ∀ j, iMod j 2147483647 = some (.int (j % 2147483647)) := fun j => iMod_ok (by decide)
  have p4 : ∀ (j : Int) (b : Bool), iMul j (if b = true then 1 else 0) = some (.int (j * if b = true then 1 else 0)) := fun j b => iMul_okR (by cases b <;> decide)
  have s3 : small (0 + 1 + 1 + 1) = true := rfl
  have nb : belowW G.length (.ref G.length) = false := by simp [belowW]
  by_cases h : 0 ≤ n
  · have e : envS 1 [.d (.int n)] = [some (.d (.int n))] := rfl
    have key : gsSource (envS 1 [.d (.int n)]) G = .ret (.ref G.length) (G ++ [.lst [.d (.int (n * if decide (1000000000000000000 ≤ n) = true then 1 else 0)), .d (.int (n % 2147483647)), .d (.int 0)]]) := by
      unfold gsSource
      walk_at "gs"
    refine ⟨[.d (.int (n * if decide (1000000000000000000 ≤ n) = true then 1 else 0)), .d (.int (n % 2147483647)), .d (.int 0)], ⟨_, _, _, rfl, ?_, by omega, by omega, Int.le_refl _⟩, ?_⟩
    rotate_left
    · show runS 1 gsSource _ _ = _
      unfold runS
      rw [key]
      unfold endS
      simp only [nb, Bool.false_eq_true, if_false]
    · split <;> omega
  · have e : envS 1 [.d (.int n)] = [some (.d (.int n))] := rfl
    have key : gsSource (envS 1 [.d (.int n)]) G = .ret (.ref G.length) (G ++ [.lst [.d (.int ((0 - 3 * n - 1) * if decide (1000000000000000000 ≤ 0 - 3 * n - 1) = true then 1 else 0)), .d (.int ((0 - 3 * n - 1) % 2147483647)), .d (.int 0)]]) := by
      unfold gsSource
      walk_at "gs"
    refine ⟨[.d (.int ((0 - 3 * n - 1) * if decide (1000000000000000000 ≤ 0 - 3 * n - 1) = true then 1 else 0)), .d (.int ((0 - 3 * n - 1) % 2147483647)), .d (.int 0)], ⟨_, _, _, rfl, ?_, by omega, by omega, Int.le_refl _⟩, ?_⟩
    rotate_left
    · show runS 1 gsSource _ _ = _
      unfold runS
      rw [key]
      unfold endS
      simp only [nb, Bool.false_eq_true, if_false]
    · split <;> omega
/-! ### _law_one -/
def gsOne : GS := gRet (gBin fIxD (gVar 1) (gFnS 2 fNext (gConsA (gVar 0) (gConsA (gCall fLenD (gConsA (gVar 1) (gNilA))) (gNilA)))))
def fOne : List W → Hg → Res W := runS 2 gsOne
theorem lenL_ok {G : Hg} {ds : List D} : fLenD [.d (.lst ds)] G = some (.d (.int ds.length), G) := by
  unfold fLenD dicW fLen fLen1 strOf
  simp [fLen1, strOf, seqW]
theorem atI_nat {α : Type} {l : List α} {k : Int} {x : α} (h0 : 0 ≤ k) (h : l[k.toNat]? = some x) : atI l k = some x := by
  have hl : k.toNat < l.length := (List.getElem?_eq_some_iff.mp h).1
  unfold atI ixN
  rw [if_pos h0, if_pos (by omega)]
  exact h
theorem one_ok {G : Hg} {i : Nat} {ds : List D} {src : List W} (h : G[i]? = some (.lst src)) (hs : SrcOk src) (h0 : ds ≠ []) (h1 : ds.length < 1073741824) :
    ∃ src' d, d ∈ ds ∧ SrcOk src' ∧ fOne [.ref i, .d (.lst ds)] G = .ok (.d d) (G.set i (.lst src')) := by
  have hl : 0 < ds.length := List.length_pos_iff.mpr h0
  obtain ⟨r, src', r0, r1, hs1, hnx⟩ := next_ok (m := (ds.length : Nat)) h hs (by omega) (by omega)
  have hlt : r.toNat < ds.length := by omega
  refine ⟨src', ds[r.toNat], List.getElem_mem hlt, hs1, runS_ret ?_ (by simp)⟩
  have e : envS 2 [.ref i, .d (.lst ds)] = [some (.ref i), some (.d (.lst ds))] := rfl
  have t := lenL_ok (G := G) (ds := ds)
  have a : atI (ds.map W.d) r = some (.d ds[r.toNat]) := atI_nat r0 (by rw [List.getElem?_map, List.getElem?_eq_getElem hlt]; rfl)
  unfold gsOne
  walk_at "gs"
end Gh

set_option Elab.async false
set_option linter.all false
set_option maxRecDepth 100000
set_option maxHeartbeats 4000000
namespace Gh
open PySem PySem.Spec PyProof.Rows L2
/-! ### loops over lists -/
section
variable {t : GTg} {b : GS} {ck : Hg → Bool} {w : W} {ws : List W} {ρ ρ1 ρ2 : GEnv} {G G1 G2 : Hg}
theorem forL_t (h : ck G = true) (ht : t w ρ G = some (ρ1, G1)) (hb : b ρ1 G1 = .nx ρ2 G2) : forL t b ck (w :: ws) ρ G = forL t b ck ws ρ2 G2 := by
  conv => lhs; unfold forL
  rw [h, if_pos rfl, ht]
  simp only [hb]
theorem forL_c (h : ck G = true) (ht : t w ρ G = some (ρ1, G1)) (hb : b ρ1 G1 = .ct ρ2 G2) : forL t b ck (w :: ws) ρ G = forL t b ck ws ρ2 G2 := by
  conv => lhs; unfold forL
  rw [h, if_pos rfl, ht]
  simp only [hb]
theorem forL_b (h : ck G = true) (ht : t w ρ G = some (ρ1, G1)) (hb : b ρ1 G1 = .bk ρ2 G2) : forL t b ck (w :: ws) ρ G = .nx ρ2 G2 := by
  conv => lhs; unfold forL
  rw [h, if_pos rfl, ht]
  simp only [hb]
theorem forL_x {e : Exc} (h : ck G = true) (ht : t w ρ G = some (ρ1, G1)) (hb : b ρ1 G1 = .exc e ρ2 G2) : forL t b ck (w :: ws) ρ G = .exc e ρ2 G2 := by
  conv => lhs; unfold forL
  rw [h, if_pos rfl, ht]
  simp only [hb]
theorem forL_r {z : W} (h : ck G = true) (ht : t w ρ G = some (ρ1, G1)) (hb : b ρ1 G1 = .ret z G2) : forL t b ck (w :: ws) ρ G = .ret z G2 := by
  conv => lhs; unfold forL
  rw [h, if_pos rfl, ht]
  simp only [hb]
theorem forL_nil (h : ck G = true) : forL t b ck [] ρ G = .nx ρ G := by unfold forL; rw [h, if_pos rfl]
theorem forL_inv {I : GEnv → Hg → Prop} {P : W → Prop} (hck : ∀ ρ G, I ρ G → ck G = true) (hs : ∀ w ρ G, P w → I ρ G → ∃ ρ1 G1 ρ2 G2, t w ρ G = some (ρ1, G1) ∧ b ρ1 G1 = .nx ρ2 G2 ∧ I ρ2 G2) :
    ∀ (ws : List W) (ρ : GEnv) (G : Hg), (∀ w ∈ ws, P w) → I ρ G → ∃ ρ2 G2, forL t b ck ws ρ G = .nx ρ2 G2 ∧ I ρ2 G2
  | [], ρ, G, _, i => ⟨ρ, G, forL_nil (hck _ _ i), i⟩
  | w :: ws, ρ, G, hp, i => by
    obtain ⟨ρ1, G1, ρ2, G2, h1, h2, h3⟩ := hs w ρ G (hp w List.mem_cons_self) i
    obtain ⟨ρ3, G3, h4, h5⟩ := forL_inv hck hs ws ρ2 G2 (fun x hx => hp x (List.mem_cons_of_mem _ hx)) h3
    exact ⟨ρ3, G3, (forL_t (hck _ _ i) h1 h2).trans h4, h5⟩
end
/-! ### comprehensions -/
section
variable {t : GTg} {tt : GT} {e : GE} {ck : Hg → Bool} {ρ0 : GEnv}
theorem lcL_inv {I : Hg → Prop} {P : W → Prop} {R : W → W → Prop} (hck : ∀ G, I G → ck G = true) (hs : ∀ w G, P w → I G → ∃ ρ' z G3, t w ρ0 G = some (ρ', G) ∧ tt ρ' G = .ok true G ∧ e ρ' G = .ok z G3 ∧ R w z ∧ I G3) :
    ∀ (ws acc : List W) (G : Hg), (∀ w ∈ ws, P w) → I G → acc.length + ws.length ≤ 16777216 → ∃ zs G', lcL t tt e ck ρ0 ws acc G = .ok (acc ++ zs) G' ∧ Paired R ws zs ∧ I G'
  | [], acc, G, _, i, _ => ⟨[], G, by unfold lcL; rw [hck _ i, if_pos rfl, List.append_nil], .nil, i⟩
  | w :: ws, acc, G, hp, i, hl => by
    obtain ⟨ρ', z, G3, h1, h2, h3, h4, h5⟩ := hs w G (hp w List.mem_cons_self) i
    simp only [List.length_cons] at hl
    obtain ⟨zs, G', h6, h7, h8⟩ := lcL_inv hck hs ws (acc ++ [z]) G3 (fun x hx => hp x (List.mem_cons_of_mem _ hx)) h5 (by rw [List.length_append]; simp only [List.length_cons, List.length_nil]; omega)
    refine ⟨z :: zs, G', ?_, .cons h4 h7, h8⟩
    conv => lhs; unfold lcL
    rw [hck _ i, if_pos rfl, h1]
    simp only [h2, h3]
    rw [if_pos (Nat.blt_eq.mpr (by omega)), h6, List.append_assoc]
    rfl
/-- elements that change nothing -/
theorem lcL_pure {G : Hg} (f : W → Option W) (hck : ck G = true) (hs : ∀ w, ∃ ρ', t w ρ0 G = some (ρ', G) ∧ ((f w = none ∧ tt ρ' G = .ok false G) ∨ ∃ z, f w = some z ∧ tt ρ' G = .ok true G ∧ e ρ' G = .ok z G)) :
    ∀ (ws acc : List W), acc.length + ws.length ≤ 16777216 → lcL t tt e ck ρ0 ws acc G = .ok (acc ++ ws.filterMap f) G
  | [], acc, _ => by unfold lcL; rw [hck, if_pos rfl]; simp
  | w :: ws, acc, hl => by
    simp only [List.length_cons] at hl
    obtain ⟨ρ', h1, h⟩ := hs w
    conv => lhs; unfold lcL
    rw [hck, if_pos rfl, h1]
    rcases h with ⟨h2, h3⟩ | ⟨z, h2, h3, h4⟩
    · simp only [h3]
      rw [lcL_pure f hck hs ws acc (by omega), List.filterMap_cons, h2]
    · simp only [h3, h4]
      rw [if_pos (Nat.blt_eq.mpr (by omega)), lcL_pure f hck hs ws (acc ++ [z]) (by rw [List.length_append]; simp only [List.length_cons, List.length_nil]; omega), List.filterMap_cons, h2, List.append_assoc]
      rfl
/-- the same where only the items at hand are known -/
theorem lcL_on {G : Hg} (f : W → Option W) (hck : ck G = true) : ∀ (ws acc : List W), (∀ w ∈ ws, ∃ ρ', t w ρ0 G = some (ρ', G) ∧ ((f w = none ∧ tt ρ' G = .ok false G) ∨ ∃ z, f w = some z ∧ tt ρ' G = .ok true G ∧ e ρ' G = .ok z G)) →
    acc.length + ws.length ≤ 16777216 → lcL t tt e ck ρ0 ws acc G = .ok (acc ++ ws.filterMap f) G
  | [], acc, _, _ => by unfold lcL; rw [hck, if_pos rfl]; simp
  | w :: ws, acc, hs, hl => by
    simp only [List.length_cons] at hl
    obtain ⟨ρ', h1, h⟩ := hs w List.mem_cons_self
    have hs' := fun x hx => hs x (List.mem_cons_of_mem _ hx)
    conv => lhs; unfold lcL
    rw [hck, if_pos rfl, h1]
    rcases h with ⟨h2, h3⟩ | ⟨z, h2, h3, h4⟩
    · simp only [h3]
      rw [lcL_on f hck ws acc hs' (by omega), List.filterMap_cons, h2]
    · simp only [h3, h4]
      rw [if_pos (Nat.blt_eq.mpr (by omega)), lcL_on f hck ws (acc ++ [z]) hs' (by rw [List.length_append]; simp only [List.length_cons, List.length_nil]; omega), List.filterMap_cons, h2, List.append_assoc]
      rfl
end
/-! ### repr -/
structure OkR (d : D) : Prop extends OkE d where
  s : (toPy d).showable = true
  l : (toPy d).leavesShort 13 = true
  b : (toPy d).bulk ≤ 1000
theorem okR_all : ∀ {ds : List D}, (∀ d ∈ ds, OkR d) → PyData.showableAll (toPyL ds) = true ∧ PyData.leavesShortAll 13 (toPyL ds) = true ∧ PyData.bulkAll (toPyL ds) ≤ 1001 * ds.length
  | [], _ => ⟨rfl, rfl, by simp [toPyL, PyData.bulkAll]⟩
  | d :: ds, h => by
    have h1 := h d List.mem_cons_self
    obtain ⟨a, b, c⟩ := okR_all fun x hx => h x (List.mem_cons_of_mem d hx)
    have h2 := h1.b
    simp only [toPyL, PyData.showableAll, PyData.leavesShortAll, PyData.bulkAll, Bool.and_eq_true, List.length_cons]
    exact ⟨⟨h1.s, a⟩, ⟨h1.l, b⟩, by omega⟩
theorem okR_of {d : D} (h : OkE d) (s : (toPy d).showable = true) (l : (toPy d).leavesShort 13 = true) (b : (toPy d).bulk ≤ 1048576) : okR (toPy d) = true := by
  have z := PyData.shown_fits_bulk (B := 13) (by decide) (by decide) l (Nat.le_trans b (by decide))
  rw [sizeLine_eq] at z
  unfold okR SeqAt.shaped
  simp only [Bool.and_eq_true, decide_eq_true_eq]
  exact ⟨⟨h.c, by have := h.p; omega⟩, s, sml (by omega)⟩
theorem okR_lst {ds : List D} (h : ∀ d ∈ ds, OkR d) (hl : ds.length ≤ 1000) : okR (toPy (.lst ds)) = true := by
  obtain ⟨a, b, c⟩ := okR_all h
  have z := PyData.shown_fits_bulk (B := 13) (d := toPy (.lst ds)) (by decide) (by decide) (by simpa only [toPy, PyData.leavesShort] using b) (Nat.le_trans (by simpa only [toPy, PyData.bulk] using c) (Nat.le_trans (Nat.mul_le_mul_left 1001 hl) (by decide)))
  rw [sizeLine_eq] at z
  have o := okD_lst (ds := ds) fun d hd => (h d hd).toOkE
  unfold okR
  unfold okD at o
  simp only [Bool.and_eq_true]
  exact ⟨o, by simpa only [toPy, PyData.showable] using a, sml (by omega)⟩
theorem repr_ok {G : Hg} {d : D} (h : okR (toPy d) = true) (hn : d ≠ .dic false []) : fRepr [.d d] G = some (.d (.str (toPy d).shown), G) := by
  unfold fRepr
  have e : Gh.snap (.d d) G = some d := rfl
  simp only [e, h, if_true]
/-! ### slices from the front -/
theorem cut_to {ws : List W} {k : Nat} : cutW ws none (some (k : Int)) = ws.take k := by
  unfold cutW
  rw [HT.sIx_none, HT.sIx_nat, Nat.sub_zero, List.drop_zero]
  rcases Nat.le_total k ws.length with h | h
  · rw [Nat.min_eq_left h]
  · rw [Nat.min_eq_right h, List.take_length, List.take_of_length_le h]
theorem cut_from {ws : List W} {k : Nat} : cutW ws (some (k : Int)) none = ws.drop k := by
  unfold cutW
  rw [HT.sIx_none, HT.sIx_nat]
  rcases Nat.le_total k ws.length with h | h
  · rw [Nat.min_eq_left h, List.take_of_length_le (by simp)]
  · rw [Nat.min_eq_right h, Nat.sub_self, List.take_zero, List.drop_of_length_le h]
theorem mkLst_d {ds : List D} : mkLst (ds.map .d) = some (.d (.lst ds)) := by unfold mkLst; rw [allD_map]; rfl
theorem slice_toL {G : Hg} {ds : List D} {k : Nat} : sliceEnd (.d (.lst ds)) none (some (k : Int)) G = .ok (.d (.lst (ds.take k))) G := by
  unfold sliceEnd seqW
  simp only [cut_to, ← List.map_take, mkLst_d]
theorem slice_fromL {G : Hg} {ds : List D} {k : Nat} : sliceEnd (.d (.lst ds)) (some (k : Int)) none G = .ok (.d (.lst (ds.drop k))) G := by
  unfold sliceEnd seqW
  simp only [cut_from, ← List.map_drop, mkLst_d]
theorem slice_toR {G : Hg} {i : Nat} {ds : List D} {k : Nat} (h : G[i]? = some (.lst (ds.map .d))) : sliceEnd (.ref i) none (some (k : Int)) G = .ok (.d (.lst (ds.take k))) G := by
  unfold sliceEnd seqW
  simp only [h, cut_to, ← List.map_take, mkLst_d]
theorem addL_ok {G : Hg} {ds es : List D} (h : ds.length + es.length ≤ 16777216) : fAdd (.d (.lst ds)) (.d (.lst es)) G = some (.d (.lst (ds ++ es)), G) := by
  have e : fAdd (.d (.lst ds)) (.d (.lst es)) G = fAddS (.d (.lst ds)) (.d (.lst es)) G := by unfold fAdd; rfl
  rw [e]
  unfold fAddS seqW
  simp only [List.length_map]
  rw [if_pos (sml h), ← List.map_append, mkLst_d]
  rfl
/-! ### calls of pure defs, in -/
def pR (G : Hg) : PRes → Res W
  | .stuck => .stuck
  | .exc e => .exc e G
  | .ok d => .ok (.d d) G
theorem pR_ok {G : Hg} {d : D} : pR G (.ok d) = .ok (.d d) G := rfl
theorem pR_exc {G : Hg} {e : Exc} : pR G (.exc e) = .exc e G := rfl
def fnP (n : Nat) (f : List D → PRes) (ws : List W) (G : Hg) : Res W := if ws.length = n then (match allD ws with
    | some ds => pR G (f ds)
    | none => match mapO (fun w => Gh.snap w G) ws with
      | some ds => (match f ds with
        | .ok d => if flat d then .ok (.d d) G else .stuck
        | _ => .stuck)
      | none => .stuck) else .stuck
section
variable {ρ : GEnv} {G : Hg} {as : GEs} {f : List D → PRes}
theorem e_fnP {n : Nat} : gFnP n f as ρ G = (as ρ G).bind fun ws G1 => fnP n f ws G1 := by
  unfold gFnP fnP
  refine congrArg _ (funext fun ws => funext fun G1 => ?_)
  by_cases h : ws.length = n
  · rw [if_pos h, if_pos h]
    cases allD ws with
    | none => rfl
    | some ds => simp only; cases f ds <;> rfl
  · rw [if_neg h, if_neg h]
theorem fnP_d {n : Nat} {ws : List W} {ds : List D} (h : allD ws = some ds) (hl : ws.length = n) : fnP n f ws G = pR G (f ds) := by
  unfold fnP
  rw [if_pos hl]
  simp only [h]
theorem fnP_1 {a : D} : fnP 1 f [.d a] G = pR G (f [a]) := rfl
theorem fnP_2 {a b : D} : fnP 2 f [.d a, .d b] G = pR G (f [a, b]) := rfl
theorem fnP_3 {a b c : D} : fnP 3 f [.d a, .d b, .d c] G = pR G (f [a, b, c]) := rfl
theorem fnP_4 {a b c d : D} : fnP 4 f [.d a, .d b, .d c, .d d] G = pR G (f [a, b, c, d]) := rfl
theorem inL_ok {neg : Bool} {x : D} {ds : List D} (h1 : OkE x) (h2 : ∀ d ∈ ds, OkE d) : fInD neg (.d x) (.d (.lst ds)) G = some (.d (.bl (neg ^^ inD x ds)), G) := by
  have e1 : okD x = true := by unfold okD SeqAt.shaped; simp only [Bool.and_eq_true, decide_eq_true_eq]; exact ⟨h1.c, by have := h1.p; omega⟩
  have e2 : okL ds = true := lay_all h2
  unfold fInD dicW fIn Gh.snap
  simp only [Option.bind_some, seqD, e1, e2, Bool.and_self, if_true]
theorem inT_ok {neg : Bool} {x : D} {ds : List D} (h1 : OkE x) (h2 : ∀ d ∈ ds, OkE d) : fInD neg (.d x) (.d (.tup ds)) G = some (.d (.bl (neg ^^ inD x ds)), G) := by
  have e1 : okD x = true := by unfold okD SeqAt.shaped; simp only [Bool.and_eq_true, decide_eq_true_eq]; exact ⟨h1.c, by have := h1.p; omega⟩
  have e2 : okL ds = true := lay_all h2
  unfold fInD dicW fIn Gh.snap
  simp only [Option.bind_some, seqD, e1, e2, Bool.and_self, if_true]
theorem inR_ok {neg : Bool} {x : D} {i : Nat} {ds : List D} (h : G[i]? = some (.lst (ds.map .d))) (h1 : OkE x) (h2 : ∀ d ∈ ds, OkE d) : fInD neg (.d x) (.ref i) G = some (.d (.bl (neg ^^ inD x ds)), G) := by
  have e1 : okD x = true := by unfold okD SeqAt.shaped; simp only [Bool.and_eq_true, decide_eq_true_eq]; exact ⟨h1.c, by have := h1.p; omega⟩
  have e2 : okL ds = true := lay_all h2
  unfold fInD dicW fIn Gh.snap
  simp only [h, allD_map, Option.map_some, Option.bind_some, seqD, e1, e2, Bool.and_self, if_true]
end
theorem eqD_int {i j : Int} : eqD (.int i) (.int j) = (i == j) := by simp [eqD, toPy, PyData.eqv]
theorem eqD_strint {x : Str} {j : Int} : eqD (.str x) (.int j) = false := by simp [eqD, toPy, PyData.eqv]
theorem eqD_str {x y : Str} : eqD (.str x) (.str y) = (x == y) := by simp [eqD, toPy, PyData.eqv]
theorem eqD_bl {x y : Bool} : eqD (.bl x) (.bl y) = (x == y) := by simp [eqD, toPy, PyData.eqv]
theorem okE_str {x : Str} (h : PyData.strOk x = true) : OkE (.str x) := ⟨by simpa [toPy, PyData.canLay0] using h, by simp [toPy, PyData.depth]⟩
theorem okE_tup {ds : List D} (h : ∀ d ∈ ds, OkE d) (h2 : ∀ d ∈ ds, (toPy d).depth ≤ 50) : OkE (.tup ds) := by
  have dp : ∀ {ds : List D}, (∀ d ∈ ds, (toPy d).depth ≤ 50) → PyData.depthAll (toPyL ds) ≤ 50 := fun {ds} h => by
    induction ds with
    | nil => simp [toPyL, PyData.depthAll]
    | cons d ds ih =>
      have h1 := h d List.mem_cons_self
      have h2 := ih fun x hx => h x (List.mem_cons_of_mem d hx)
      simp only [toPyL, PyData.depthAll]
      omega
  exact ⟨by simp only [toPy, PyData.canLay0]; exact lay_all h, by have := dp h2; simp only [toPy, PyData.depth]; omega⟩
/-! ### == -/
theorem eq_ok {neg : Bool} {G : Hg} {x y : D} (hx : okD x = true) (hy : okD y = true) (nx : ∀ kvs, x ≠ .dic false kvs) (ny : ∀ kvs, y ≠ .dic false kvs) (ns : ∀ a b, ¬ (x = .str a ∧ y = .str b)) : fEqS neg (.d x) (.d y) G = some (.d (.bl (neg ^^ eqD x y)), G) := by
  have e1 : dicW (.d x) G = none := by
    unfold dicW
    split
    · rename_i q; cases q; exact absurd rfl (nx _)
    · rename_i q; cases q
    · rfl
  unfold fEqS
  split
  · rename_i q1 q2; cases q1; cases q2; exact absurd ⟨rfl, rfl⟩ (ns _ _)
  · unfold fEqE
    rw [e1]
    unfold fEq Gh.snap
    simp only [hx, hy, Bool.and_self, if_true]
theorem eq_str {neg : Bool} {G : Hg} {x y : Str} : fEqS neg (.d (.str x)) (.d (.str y)) G = some (.d (.bl (neg ^^ decide (x = y))), G) := rfl
end Gh
namespace Gh
open PySem PySem.Spec PyProof.Rows L2
/-! ### slots that stay -/
structure Ag (m : List Nat) (ρ ρ' : GEnv) : Prop where
  le : ρ'.length = ρ.length
  eq : ∀ j, j ∉ m → ρ'[j]? = ρ[j]?
theorem Ag.refl {m : List Nat} {ρ : GEnv} : Ag m ρ ρ := ⟨rfl, fun _ _ => rfl⟩
theorem Ag.trans {m : List Nat} {ρ ρ1 ρ2 : GEnv} (a : Ag m ρ ρ1) (b : Ag m ρ1 ρ2) : Ag m ρ ρ2 := ⟨b.le.trans a.le, fun j h => (b.eq j h).trans (a.eq j h)⟩
theorem Ag.set {m : List Nat} {ρ : GEnv} {i : Nat} {x : Option W} (h : i ∈ m) : Ag m ρ (ρ.set i x) := ⟨by simp, fun j hj => List.getElem?_set_ne fun e => hj (by rw [← e]; exact h)⟩
theorem Ag.mono {m m' : List Nat} {ρ ρ' : GEnv} (a : Ag m ρ ρ') (h : ∀ i ∈ m, i ∈ m') : Ag m' ρ ρ' := ⟨a.le, fun j hj => a.eq j fun z => hj (h j z)⟩
theorem Ag.at {m : List Nat} {ρ ρ' : GEnv} {i : Nat} {x : Option W} (a : Ag m ρ ρ') (h : ρ[i]? = some x) (n : i ∉ m := by decide) : ρ'[i]? = some x := (a.eq i n).trans h
theorem set_at {ρ : GEnv} {i : Nat} {x : Option W} (h : i < ρ.length) : (ρ.set i x)[i]? = some x := List.getElem?_set_self h
theorem e_for {it : GI} {t : GTg} {b : GS} {ρ : GEnv} {G : Hg} : gFor it t b ρ G = (it ρ G).toS ρ fun p G' => forL t b p.2 p.1 ρ G' := rfl
theorem e_seqI {a : GE} {ρ : GEnv} {G : Hg} {w : W} {G1 : Hg} {b : Bool} {ws : List W} (h : a ρ G = .ok w G1) (hs : seqW w G1 = some (b, ws)) : gSeqI a ρ G = .ok (ws, ckW w ws) G1 := by unfold gSeqI; rw [h, bind_ok, hs]
theorem e_slice {a : GE} {l h : GO1} {ρ : GEnv} {G : Hg} : gSlice a l h ρ G = (a ρ G).bind fun w G1 => (l ρ G1).bind fun lo G2 => (h ρ G2).bind fun hi G3 => sliceEnd w lo hi G3 := id rfl
theorem e_noP {ρ : GEnv} {G : Hg} : gNoP ρ G = .ok none G := id rfl
def ptW (w : W) (G : Hg) : Res (Option Int) := match w with
  | .d (.int i) => .ok (some i) G
  | _ => .stuck
theorem ptW_int {i : Int} {G : Hg} : ptW (.d (.int i)) G = .ok (some i) G := id rfl
theorem e_pt {e : GE} {ρ : GEnv} {G : Hg} : gPt e ρ G = (e ρ G).bind ptW := id rfl
def okRb (d : D) : Bool := (toPy d).canLay0 && (decide ((toPy d).depth ≤ 60) && ((toPy d).showable && ((toPy d).leavesShort 13 && decide ((toPy d).bulk ≤ 1000))))
theorem okRb_ok {d : D} (h : okRb d = true) : OkR d := by
  unfold okRb at h
  simp only [Bool.and_eq_true, decide_eq_true_eq] at h
  exact ⟨⟨h.1, h.2.1⟩, h.2.2.1, h.2.2.2.1, h.2.2.2.2⟩
theorem okD_E {d : D} (h : OkE d) : okD d = true := by unfold okD SeqAt.shaped; simp only [Bool.and_eq_true, decide_eq_true_eq]; exact ⟨h.c, by have := h.p; omega⟩
theorem eqD_self {d : D} (h : OkE d) : eqD d d = true := PySem.SeqAt.eqv_refl _ h.c
theorem rep_end {G : Hg} {ds : List D} {k : Nat} (h : ds.length * k ≤ 16777216) (hk : k < 1000000000) : repEnd (ds.map .d) (.d (.int (k : Int))) G = .ok (.d (.lst (List.replicate k ds).flatten)) G := by
  unfold repEnd
  simp only [allD_map, List.length_map, Int.toNat_natCast]
  rw [if_pos (by simp only [Bool.and_eq_true, decide_eq_true_eq]; exact ⟨⟨by omega, by omega⟩, sml h⟩)]
theorem e_rep {a : GEs} {k : GE} {ρ : GEnv} {G : Hg} : gRep a k ρ G = (a ρ G).bind fun ws G1 => iffR ((k ρ G1).bind (repEnd ws)) (small ws.length) := by
  unfold gRep iffR; refine congrArg _ (funext fun w => funext fun G1 => ?_); cases small w.length <;> rfl
end Gh

set_option Elab.async false
set_option linter.all false
set_option maxRecDepth 100000
set_option maxHeartbeats 4000000
namespace Gh
open PySem PySem.Spec PyProof.Rows L2
/-! ### d.update(d2) -/
section
variable {X : Cx} {pins : List (Addr × Obj)} {σ : St} {H : Hp} {s : Shared} {a b : Addr} {kvs more : List (Key × V)} {A : Around} {E : Value → Shared → Prop}
theorem d_update {Q : Value → Shared → Prop} (I : Inv X pins σ H s) (e : H a = some (.dK kvs)) (e2 : Rd H b (.dK more)) (hab : a ≠ b) (hl : kvs.length + more.length ≤ sizeLine)
    (h : ∀ s', Inv X pins σ (upd H a (.dK (mergeK kvs more))) s' → Q .none s') : wpAny (model X.prog X.w) A (call (.builtin "dict.update") [.ref a, .ref b]) Q E s := by
  obtain ⟨z, hd, vs, rel, dd⟩ := dk_of I.hok e
  obtain ⟨z2, hd2, vs2, rel2, dd2⟩ := dk_rd I.hok e2
  refine call_meetsIn PySem.F.slot_dict_update dd.typeIs PySem.F.entry_dict_update (PySem.F.args_dict_update_2 _ _) (meets_dict_update (mixKind X.prog X.w) a b hab hd2)
    ⟨vs, vs2, dd, dd2, by rw [← rel.length, ← rel2.length]; exact hl, fun h' dd' _ hs => h _ ?_⟩
  have he : ∃ q, h'.get? a = some q := let ⟨q, _, _, hq, _⟩ := dd'; ⟨q, hq⟩
  have hlen : (mergeK kvs more).length ≤ sizeLine := Nat.le_trans (length_mergeK more kvs) hl
  exact d_write (t' := s.toks) I (by rw [e]; exact True.intro) hs he (dk_new hlen hd (KV.merge rel2 rel) dd')
end
def tDUpd (td ty : TE) : TE := fun σ H Q => td σ H fun x H1 => ∃ a, x = .ref a ∧ IsD H1 a ∧ ty σ H1 fun y H2 => ∃ b kvs more, H2 a = some (.dK kvs) ∧ y = .ref b ∧ Rd H2 b (.dK more) ∧ a ≠ b ∧ kvs.length + more.length ≤ sizeLine ∧ Q .non (upd H2 a (.dK (mergeK kvs more)))
section
variable {X : Cx} {o e : Expr} {apos cpos : Pos} {td ty : TE} {go ge : GE}
theorem pe_dupd (ho : PE X o td) (he : PE X e ty) (m : M1 X o "update" apos e cpos) : PE X (.Call (.Attribute o "update" apos) [e] [] cpos) (tDUpd td ty) := by
  refine ⟨fun pins s σ H Q I h => ?_⟩
  refine wpAny_Call_method m.base m.few m.line PySem.F.plainAttrs_dict PySem.F.slot_dict_update PySem.F.type_dict_update (thn (ho.run pins s σ H _ I h) fun u s1 ⟨x, H1, I1, rx, a, ex, d, q1⟩ => ?_)
  subst ex
  obtain rfl : u = Value.ref a := rx
  obtain ⟨t1, t2, _⟩ := isD_at I1 d
  refine ⟨t1, t2, ?_⟩
  rw [m.trees]
  refine Calls.callWith_builtin rfl (Calls.evalArgs_plain (Calls.spliced_cons (thn (he.run pins s1 σ H1 _ I1 q1) fun iv s2 ⟨y, H2, I2, ry, b, kvs, more, ea, ey, eb, hab, hl, q2⟩ => Calls.spliced_nil ?_)))
  subst ey
  obtain rfl : iv = Value.ref b := ry
  exact d_update I2 ea eb hab hl fun s3 I3 => ⟨.non, _, I3, rfl, q2⟩
/-- another one than the changed one -/
def notI (i : Nat) : W → Bool
  | .ref j => !(j == i)
  | _ => true
def gUpdD (o a : GE) : GE := fun ρ G => (o ρ G).bind fun w G1 => if (dicW w G1).isSome then (a ρ G1).bind fun u G2 => match getDm w G2, dicW u G2 with
  | some (i, kvs), some more => if notI i u && Nat.ble (kvs.length + more.length) 16777216 then .ok (.d .non) (G2.set i (.dic false (mergeW kvs more))) else .stuck
  | _, _ => .stuck else .stuck
theorem dic_ne {C : GC} {F H : Hp} {ι : Nat → Addr} {G : Hg} {i : Nat} {kvs more : List (D × W)} {u : W} {b : Addr} (s : Sim C F H ι G) (h : G[i]? = some (.dic false kvs)) (e : dicW u G = some more) (hn : notI i u = true) (r : RpW C.m F ι G.length u (.ref b)) : ι i ≠ b := by
  obtain ⟨hF, _, _⟩ := s.live i _ h (fun z => by cases z)
  intro z
  subst z
  cases u with
  | tup ws => cases e
  | d x =>
    simp only [RpW] at r
    cases x with
    | dic t ks =>
      cases t <;> simp only [Rp] at r <;> obtain ⟨a, od, es, e1, e2, _⟩ := r <;> cases e1 <;> rw [hF] at e2 <;> cases e2
    | _ => cases e
  | ref j =>
    simp only [RpW] at r
    obtain ⟨hj, ej⟩ := r
    have ej' : ι j = ι i := by injection ej with z; exact z.symm
    have hne : j ≠ i := by simpa [notI] using hn
    simp only [dicW] at e
    cases q : G[j]? with
    | none => rw [q] at e; cases e
    | some g =>
      refine hne (s.inj j i g _ q (fun z => ?_) h (fun z => by cases z) ej')
      subst z
      rw [q] at e
      cases e
theorem ge_updD (ho : GJE X o go) (he : GJE X e ge) (m : M1 X o "update" apos e cpos := by exact ⟨rfl, rfl, rfl, rfl⟩) : GJE X (.Call (.Attribute o "update" apos) [e] [] cpos) (gUpdD go ge) := ⟨fun B F0 wx tk => by
  refine PE.imp (pe_dupd (ho.run B F0 wx tk) (he.run B F0 wx tk) m) fun σ H Q ⟨F, ι, ρ, G, s, hr, hp⟩ => ?_
  refine ⟨F, ι, ρ, G, s, hr, (Post.fst hp).imp fun x H1 ⟨F1, ι1, w, G1, e1, s1, r1, p1⟩ => ?_⟩
  by_cases c : (dicW w G1).isSome = true
  · rw [if_pos c] at p1
    obtain ⟨a, rfl, hd⟩ := isD_of s1 c r1
    refine ⟨a, rfl, hd, F1, ι1, ρ, G1, s1, hr.mono e1, (Post.fst p1).imp fun y H2 ⟨F2, ι2, u, G2, e2, s2, r2, p2⟩ => ?_⟩
    split at p2
    · rename_i i kvs more q q2
      obtain ⟨rfl, hj⟩ := getDm_inv q
      by_cases c2 : (notI i u && Nat.ble (kvs.length + more.length) 16777216) = true
      · rw [if_pos c2] at p2
        rw [Bool.and_eq_true] at c2
        have r1' := r1.mono e2
        simp only [RpW] at r1'
        obtain ⟨hl, ea⟩ := r1'
        cases ea
        obtain ⟨es, h1, h2⟩ := s2.dicm hj
        obtain ⟨b, ms, rfl, h3, h4⟩ := s2.dic q2 r2
        have hz := Nat.le_of_ble_eq_true c2.2
        refine ⟨b, es, ms, h1, rfl, h3, dic_ne s2 hj q2 c2.1 r2, by rw [sizeLine_eq, ← h2.length, ← h4.length]; exact hz, ?_⟩
        exact p2 _ _ (out_wrD s2 hj (merge_rp h4 h2) (by simp only [RpW, Rp]))
      · rw [if_neg c2] at p2; exact p2.elim
    · exact p2.elim
  · rw [if_neg c] at p1; exact p1.elim⟩
end
end Gh

set_option Elab.async false
set_option linter.all false
set_option maxRecDepth 100000
set_option maxHeartbeats 4000000
namespace Gh
open PySem PySem.Spec PyProof.Rows L2
/-! ### one step each -/
section
variable {ρ ρ1 ρ2 : GEnv} {G G1 G2 G3 : Hg} {a b c o : GE} {s t u : GS} {as : GEs} {tt uu : GT} {w x y z : W} {ws : List W} {k n : Nat}
theorem v_ok (h : ρ[k]? = some (some w)) : gVar k ρ G = .ok w G := by rw [e_var, h, oo_some]
theorem c_ok {d : D} : gC d ρ G = .ok (.d d) G := rfl
theorem b_ok {f : W → W → Hg → Option (W × Hg)} (ha : a ρ G = .ok x G1) (hb : b ρ G1 = .ok y G2) (hf : f x y G2 = some (z, G3)) : gBin f a b ρ G = .ok z G3 := by rw [e_bin, ha, bind_ok, hb, bind_ok, hf, optR_some]
theorem n_ok : gNilA ρ G = .ok [] G := rfl
theorem a_ok (h : a ρ G = .ok w G1) (hs : as ρ G1 = .ok ws G2) : gConsA a as ρ G = .ok (w :: ws) G2 := by rw [e_consA, h, bind_ok, hs, bind_ok]
theorem tp_ok (h : as ρ G = .ok ws G1) (hs : small ws.length = true) (hw : mkTup ws = w) : gTup as ρ G = .ok w G1 := by rw [e_tup, h, bind_ok, hs, iffR_t, hw]
theorem ls_ok {ds : List D} (h : as ρ G = .ok ws G1) (hs : small ws.length = true) (hw : allD ws = some ds) : gLst as ρ G = .ok (.d (.lst ds)) G1 := by rw [e_lst, h, bind_ok, hs, iffR_t, hw, lstW_some]
theorem nw_ok (h : as ρ G = .ok ws G1) (hs : small ws.length = true) : gNew as ρ G = .ok (.ref G1.length) (G1 ++ [.lst ws]) := by rw [e_new, h, bind_ok, hs, iffR_t]
theorem cl_ok {f : List W → Hg → Option (W × Hg)} (h : as ρ G = .ok ws G1) (hf : f ws G1 = some (z, G2)) : gCall f as ρ G = .ok z G2 := by rw [e_call, h, bind_ok, hf, optR_some]
theorem fs_ok {f : List W → Hg → Res W} (h : as ρ G = .ok ws G1) (hl : ws.length = n) (hf : f ws G1 = .ok z G2) : gFnS n f as ρ G = .ok z G2 := by
  rw [e_fnS, h, bind_ok, hl, beq_self_eq_true]
  exact hf
theorem fp_ok {f : List D → PRes} {ds : List D} {r : D} (h : as ρ G = .ok (ds.map .d) G1) (hl : ds.length = n) (hf : f ds = .ok r) : gFnP n f as ρ G = .ok (.d r) G1 := by
  rw [e_fnP, h, bind_ok, fnP_d (allD_map ds) (by rw [List.length_map, hl]), hf, pR_ok]
theorem as_ok (h : a ρ G = .ok w G1) : gAsg a (gNm k) ρ G = .nx (ρ.set k (some w)) G1 := by rw [e_asg, h, toS_ok, e_nm, optS_some]
theorem sq_nx (h : s ρ G = .nx ρ1 G1) : gSeq s t ρ G = t ρ1 G1 := by rw [e_seq, h, seqS_nx]
theorem sq_ret (h : s ρ G = .ret w G1) : gSeq s t ρ G = .ret w G1 := by rw [e_seq, h, seqS_ret]
theorem nl_ok : gNil ρ G = .nx ρ G := rfl
theorem ex_ok (h : a ρ G = .ok w G1) : gExpr a ρ G = .nx ρ G1 := by rw [e_expr, h, toS_ok]
theorem re_ok (h : a ρ G = .ok w G1) : gRet a ρ G = .ret w G1 := by rw [e_ret, h, toS_ok]
theorem if_t (h : tt ρ G = .ok true G1) : gIf tt s t ρ G = s ρ G1 := by rw [e_if, h, toS_ok, cond_true]
theorem if_f (h : tt ρ G = .ok false G1) : gIf tt s t ρ G = t ρ G1 := by rw [e_if, h, toS_ok, cond_false]
theorem ts_ok {b : Bool} (h : a ρ G = .ok (.d (.bl b)) G1) : gTst a ρ G = .ok b G1 := by
  unfold gTst; rw [h]; rfl
theorem ie_t (h : tt ρ G = .ok true G1) : gIfE tt a b ρ G = a ρ G1 := by unfold gIfE; rw [h, bind_ok, if_pos rfl]
theorem ie_f (h : tt ρ G = .ok false G1) : gIfE tt a b ρ G = b ρ G1 := by unfold gIfE; rw [h, bind_ok, if_neg Bool.false_ne_true]
theorem is_ok {neg : Bool} (h : a ρ G = .ok w G1) : gIsN neg a ρ G = .ok (.d (.bl (neg ^^ isN w))) G1 := by unfold gIsN; rw [h, bind_ok]
theorem no_ok {b : Bool} (h : tt ρ G = .ok b G1) : gNot tt ρ G = .ok (!b) G1 := by unfold gNot; rw [h]; rfl
theorem an_t (h : tt ρ G = .ok true G1) : gAnd tt uu ρ G = uu ρ G1 := by unfold gAnd; rw [h]; rfl
theorem an_f (h : tt ρ G = .ok false G1) : gAnd tt uu ρ G = .ok false G1 := by unfold gAnd; rw [h]; rfl
theorem or_t (h : tt ρ G = .ok true G1) : gOr tt uu ρ G = .ok true G1 := by unfold gOr; rw [h]; rfl
theorem or_f (h : tt ρ G = .ok false G1) : gOr tt uu ρ G = uu ρ G1 := by unfold gOr; rw [h]; rfl
theorem mt_ok {ty : Ty} {f : W → List W → Hg → Option (W × Hg)} (ho : o ρ G = .ok w G1) (h1 : tyW w G1 = some ty) (h2 : noDic w G1 = true) (ha : as ρ G1 = .ok ws G2) (hf : f w ws G2 = some (z, G3)) : gMt ty f o as ρ G = .ok z G3 := by
  rw [e_mt, ho, bind_ok, h1, h2, decide_eq_true rfl, Bool.and_self, iffR_t, ha, bind_ok, hf, optR_some]
theorem ap_ok (ho : o ρ G = .ok (.ref k) G1) (ha : a ρ G1 = .ok w G2) (h1 : ∃ us, G1[k]? = some (.lst us)) (h2 : G2[k]? = some (.lst ws)) (hl : ws.length < 16777216) : gMt .lst fAppend o (gConsA a gNilA) ρ G = .ok (.d .non) (G2.set k (.lst (ws ++ [w]))) := by
  obtain ⟨us, h1⟩ := h1
  exact mt_ok ho (ty_lst h1) (noDic_lst h1) (a_ok ha n_ok) (app_ok h2 hl)
end
/-! ### keys -/
def kD : Key → D
  | .inl i => .int i
  | .inr s => .str s
def rep (l : List (Key × W)) : List (D × W) := l.map fun p => (kD p.1, p.2)
theorem same_k {a b : Key} : sameD (kD a) (kD b) = decide (a = b) := by
  cases a <;> cases b <;> simp [kD, sameD]
theorem kd_keyW {k : Key} : keyW (.d (kD k)) = some (kD k) := by cases k <;> rfl
def lkA (l : List (Key × W)) (k : Key) : Option W := (l.find? fun p => decide (p.1 = k)).map (·.2)
theorem look_rep {l : List (Key × W)} {k : Key} : lookK (rep l) (kD k) = lkA l k := by
  unfold lookK rep lkA
  rw [List.find?_map, Option.map_map]
  congr 1
  congr 1
  funext p
  exact same_k
def ptA (l : List (Key × W)) (k : Key) (w : W) : List (Key × W) := if l.any (fun p => decide (p.1 = k)) then l.map (fun p => if p.1 = k then (p.1, w) else p) else l ++ [(k, w)]
theorem put_rep {l : List (Key × W)} {k : Key} {w : W} : putW (rep l) (kD k) w = rep (ptA l k w) := by
  unfold putW rep ptA
  have e : (l.map fun p => (kD p.1, p.2)).any (fun p => sameD p.1 (kD k)) = l.any fun p => decide (p.1 = k) := by
    rw [List.any_map]
    congr 1
    funext p
    exact same_k
  rw [e]
  by_cases h : (l.any fun p => decide (p.1 = k)) = true
  · rw [if_pos h, if_pos h, List.map_map, List.map_map]
    refine List.map_congr_left fun p _ => ?_
    show (if sameD (kD p.1) (kD k) = true then (kD p.1, w) else (kD p.1, p.2)) = (kD (if p.1 = k then (p.1, w) else p).1, (if p.1 = k then (p.1, w) else p).2)
    rw [same_k]
    by_cases e : p.1 = k
    · rw [if_pos (decide_eq_true e), if_pos e]
    · rw [if_neg (by simpa using e), if_neg e]
  · rw [if_neg h, if_neg h, List.map_append]
    rfl
theorem drop_rep {l : List (Key × W)} {k : Key} : dropW (rep l) (kD k) = rep (l.filter fun p => !decide (p.1 = k)) := by
  unfold dropW rep
  rw [List.filter_map]
  congr 1
  refine List.filter_congr fun p _ => ?_
  show (!sameD (kD p.1) (kD k)) = _
  rw [same_k]
theorem len_rep {l : List (Key × W)} : (rep l).length = l.length := List.length_map ..
theorem pt_new {l : List (Key × W)} {k : Key} {w : W} (h : k ∉ l.map (·.1)) : ptA l k w = l ++ [(k, w)] := by
  unfold ptA
  rw [if_neg]
  intro z
  obtain ⟨p, hp, e⟩ := List.any_eq_true.mp z
  exact h (List.mem_map.mpr ⟨p, hp, by simpa using e⟩)
theorem pt_len {l : List (Key × W)} {k : Key} {w : W} : (ptA l k w).length ≤ l.length + 1 := by
  unfold ptA
  split
  · rw [List.length_map]; omega
  · simp
theorem lk_pt {l : List (Key × W)} {k j : Key} {w : W} : lkA (ptA l k w) j = if j = k then some w else lkA l j := by
  unfold ptA
  by_cases h : (l.any fun p => decide (p.1 = k)) = true
  · rw [if_pos h]
    induction l with
    | nil => cases h
    | cons p l ih =>
      unfold lkA at *
      rw [List.map_cons, List.find?_cons, List.find?_cons]
      by_cases e : p.1 = k
      · rw [if_pos e]
        by_cases ej : j = k
        · rw [if_pos ej]
          simp [e, ej]
        · rw [if_neg ej]
          have n : ¬ p.1 = j := fun z => ej (z.symm.trans e)
          simp only [n, decide_false]
          have key : ∀ l : List (Key × W), ((l.map fun p => if p.1 = k then (p.1, w) else p).find? fun p => decide (p.1 = j)).map (·.2) = (l.find? fun p => decide (p.1 = j)).map (·.2) := by
            intro l
            induction l with
            | nil => rfl
            | cons q l ih2 =>
              rw [List.map_cons, List.find?_cons, List.find?_cons]
              by_cases eq : q.1 = k
              · have n2 : ¬ q.1 = j := fun z => ej (z.symm.trans eq)
                rw [if_pos eq]
                simp only [n2, decide_false]
                exact ih2
              · rw [if_neg eq]
                by_cases e3 : q.1 = j
                · simp [e3]
                · simp only [e3, decide_false]
                  exact ih2
          exact key l
      · rw [if_neg e]
        by_cases ej : p.1 = j
        · simp only [ej, decide_true]
          rw [if_neg (fun z => e (ej.trans z))]
        · simp only [ej, decide_false]
          refine ih ?_
          simpa [e] using h
  · rw [if_neg h]
    have none_k : ∀ p ∈ l, ¬ p.1 = k := fun p hp e => h (List.any_eq_true.mpr ⟨p, hp, by simpa using e⟩)
    unfold lkA
    rw [List.find?_append]
    by_cases ej : j = k
    · rw [if_pos ej]
      have : l.find? (fun p => decide (p.1 = j)) = none := List.find?_eq_none.mpr fun p hp => by simpa [ej] using none_k p hp
      rw [this]
      simp [ej]
    · rw [if_neg ej]
      have n : ¬ k = j := fun z => ej z.symm
      cases l.find? fun p => decide (p.1 = j) with
      | some p => rfl
      | none => simp [n]
theorem lk_mem {l : List (Key × W)} {k : Key} {w : W} (h : lkA l k = some w) : (k, w) ∈ l := by
  unfold lkA at h
  obtain ⟨p, hp, e⟩ := Option.map_eq_some_iff.mp h
  have m := List.mem_of_find?_eq_some hp
  have q : p.1 = k := by simpa using List.find?_some hp
  rw [← q, ← e]; exact m
theorem lk_none {l : List (Key × W)} {k : Key} : lkA l k = none ↔ k ∉ l.map (·.1) := by
  unfold lkA
  rw [Option.map_eq_none_iff, List.find?_eq_none, List.mem_map]
  refine ⟨fun h ⟨p, hp, e⟩ => h p hp (by simpa using e), fun h p hp e => h ⟨p, hp, by simpa using e⟩⟩
theorem lk_of {l : List (Key × W)} (nd : (l.map (·.1)).Nodup) {k : Key} {w : W} (h : (k, w) ∈ l) : lkA l k = some w := by
  induction l with
  | nil => cases h
  | cons p l ih =>
    have nd' := List.nodup_cons.mp (show (p.1 :: l.map (·.1)).Nodup from nd)
    unfold lkA at *
    rw [List.find?_cons]
    rcases List.mem_cons.mp h with e | e
    · rw [← e]; simp
    · have n : ¬ p.1 = k := fun z => nd'.1 (by rw [z]; exact List.mem_map.mpr ⟨_, e, rfl⟩)
      simp only [n, decide_false]
      exact ih nd'.2 e
/-! ### dicts on the heap -/
section
variable {ρ ρ1 : GEnv} {G G1 G2 G3 : Hg} {a b c o : GE} {s : GS} {i k : Nat} {kvs : List (D × W)} {l : List (Key × W)} {w u z : W} {q : Key}
theorem dic_w (h : G[i]? = some (.dic false kvs)) : dicW (.ref i) G = some kvs := by unfold dicW; simp only [h]
theorem dic_lk (h : G[i]? = some (.lkd false kvs)) : dicW (.ref i) G = some kvs := by unfold dicW; simp only [h]
theorem dm_w (h : G[i]? = some (.dic false kvs)) : getDm (.ref i) G = some (i, kvs) := by unfold getDm; simp only [h]
theorem lk_ok {t : Bool} (h : ρ[k]? = some (some (.ref i))) (hi : G[i]? = some (.dic t kvs)) (hs : s ρ (G.set i (.lkd t kvs)) = .nx ρ1 G1) (h1 : G1[i]? = some (.lkd t kvs)) : gLock k s ρ G = .nx ρ1 (G1.set i (.dic t kvs)) := by
  unfold gLock
  simp only [h, hi, hs]
  unfold unlS unlG
  simp only [h1]
theorem lk_ret {t : Bool} (h : ρ[k]? = some (some (.ref i))) (hi : G[i]? = some (.dic t kvs)) (hs : s ρ (G.set i (.lkd t kvs)) = .ret w G1) (h1 : G1[i]? = some (.lkd t kvs)) : gLock k s ρ G = .ret w (G1.set i (.dic t kvs)) := by
  unfold gLock
  simp only [h, hi, hs]
  unfold unlS unlG
  simp only [h1]
theorem set_back {o o' : GO} (h : G[i]? = some o) : (G.set i o').set i o = G := by
  rw [List.set_set]
  exact List.ext_getElem? fun j => by
    rw [List.getElem?_set]
    by_cases e : i = j
    · subst e
      rw [if_pos rfl, h]
      have := (List.getElem?_eq_some_iff.mp h).1
      simp [this]
    · rw [if_neg e]
theorem lkw_ok (h : G[i]? = some (.lkd false kvs)) : lkW (.ref i) G = some kvs := by unfold lkW; simp only [h]
theorem di_ok {kd : DicK} (h : a ρ G = .ok (.ref i) G1) (hi : G1[i]? = some (.lkd false kvs)) : gDicI kd a ρ G = .ok (kd.of kvs, fun _ => true) G1 := by
  unfold gDicI
  rw [h, bind_ok, lkw_ok hi]
theorem get2_ok {x : W} (ho : o ρ G = .ok w G1) (hd1 : (dicW w G1).isSome = true) (ha : a ρ G1 = .ok (.d (kD q)) G2) (hb : b ρ G2 = .ok x G3) (hd : dicW w G3 = some (rep l)) : gGet2 o a b ρ G = .ok ((lkA l q).getD x) G3 := by
  unfold gGet2
  rw [ho, bind_ok, if_pos hd1, ha, bind_ok, hb, bind_ok, hd, kd_keyW]
  simp only [look_rep]
theorem popD_ok (ho : o ρ G = .ok (.ref i) G1) (ha : a ρ G1 = .ok (.d (kD q)) G2) (h1 : (dicW (.ref i) G1).isSome = true) (h : G2[i]? = some (.dic false (rep l))) (hz : lkA l q = some z) : gPopD o a ρ G = .ok z (G2.set i (.dic false (rep (l.filter fun p => !decide (p.1 = q))))) := by
  unfold gPopD
  rw [ho, bind_ok, if_pos h1, ha, bind_ok, dm_w h, kd_keyW]
  simp only [look_rep, hz, drop_rep]
theorem setD_ok (h : G[i]? = some (.dic false (rep l))) (hl : l.length < 16777216) : fSetD (.ref i) (.d (kD q)) u G = some (G.set i (.dic false (rep (ptA l q u)))) := by
  unfold fSetD
  rw [dm_w h, kd_keyW]
  simp only [len_rep, put_rep, Nat.blt_eq.mpr hl, if_true]
theorem inDic_ok {neg : Bool} (h : dicW w G = some (rep l)) : fInD neg (.d (kD q)) w G = none ∨ True := .inr trivial
theorem inD_ok {neg : Bool} (h : dicW w G = some (rep l)) : fInD neg (.d (kD q)) w G = some (.d (.bl (neg ^^ (lkA l q).isSome)), G) := by
  unfold fInD
  rw [h, kd_keyW]
  simp only [look_rep]
theorem sb_ok {f : W → W → W → Hg → Option Hg} {v : W} (ho : o ρ G = .ok w G1) (ha : a ρ G1 = .ok u G2) (hf : f w u v G2 = some G3) : gSb o a f v ρ G = some (ρ, G3) := by
  rw [e_sb, ho, sb1_ok, ha, sb2_ok, hf]
  rfl
theorem asb_ok {f : W → W → W → Hg → Option Hg} {v : W} (he : c ρ G = .ok v G1) (ho : o ρ G1 = .ok w G2) {G4 : Hg} (ha : a ρ G2 = .ok u G3) (hf : f w u v G3 = some G4) : gAsg c (gSb o a f) ρ G = .nx ρ G4 := by
  rw [e_asg, he, toS_ok, sb_ok ho ha hf, optS_some]
theorem eqE_ok {neg : Bool} (h : dicW w G = some kvs) (hs : ∀ x, w ≠ .d (.str x)) : fEqS neg w (.d (.dic false [])) G = some (.d (.bl (neg ^^ kvs.isEmpty)), G) := by
  have e : dicW (.d (.dic false [])) G = some [] := rfl
  unfold fEqS fEqE
  cases w with
  | d x =>
    cases x with
    | str y => exact absurd rfl (hs y)
    | _ => simp only [h, e]
  | _ => simp only [h, e]
theorem dcL_on {t : GTg} {tt : GT} {ek ev : GE} {ck : Hg → Bool} {ρ0 : GEnv} (f : W → Option (Key × W)) (hck : ck G = true) : ∀ (ws : List W) (acc : List (Key × W)), (∀ w ∈ ws, ∃ ρ', t w ρ0 G = some (ρ', G) ∧ ((f w = none ∧ tt ρ' G = .ok false G) ∨ ∃ k z, f w = some (k, z) ∧ tt ρ' G = .ok true G ∧ ek ρ' G = .ok (.d (kD k)) G ∧ ev ρ' G = .ok z G)) →
    acc.length + ws.length ≤ 16777216 → dcL t tt ek ev ck ρ0 ws (rep acc) G = .ok (rep ((ws.filterMap f).foldl (fun a p => ptA a p.1 p.2) acc)) G
  | [], acc, _, _ => by unfold dcL; rw [hck, if_pos rfl]; rfl
  | w :: ws, acc, hs, hl => by
    simp only [List.length_cons] at hl
    obtain ⟨ρ', h1, h⟩ := hs w List.mem_cons_self
    have hs' := fun x hx => hs x (List.mem_cons_of_mem _ hx)
    conv => lhs; unfold dcL
    rw [hck, if_pos rfl, h1]
    rcases h with ⟨h2, h3⟩ | ⟨k, z, h2, h3, h4, h5⟩
    · simp only [h3]
      rw [dcL_on f hck ws acc hs' (by omega), List.filterMap_cons, h2]
    · simp only [h3, h4, h5, kd_keyW]
      have := pt_len (l := acc) (k := k) (w := z)
      rw [if_pos (Nat.blt_eq.mpr (by rw [len_rep]; omega)), put_rep, dcL_on f hck ws (ptA acc k z) hs' (by omega), List.filterMap_cons, h2]
      rfl
theorem fold_new : ∀ {l acc : List (Key × W)}, ((acc ++ l).map (·.1)).Nodup → l.foldl (fun a p => ptA a p.1 p.2) acc = acc ++ l
  | [], acc, _ => by simp
  | p :: l, acc, h => by
    rw [List.foldl_cons, pt_new, fold_new (l := l) (acc := acc ++ [(p.1, p.2)]) (by rw [List.append_assoc]; exact h), List.append_assoc]
    · rfl
    · rw [List.map_append, List.nodup_append] at h
      intro z
      exact h.2.2 _ z _ (by simp) rfl
end
end Gh

set_option Elab.async false
set_option linter.all false
set_option maxRecDepth 100000
set_option maxHeartbeats 4000000
namespace Gh
open PySem PySem.Spec PyProof.Rows L2
/-! ### enumerate of a tuple -/
theorem drawT {P : Program} {w : World} {B : Around} (q : B.handled = none) (j t : Addr) (n : t ≠ j) (us : Array Value) :
    Draws P w B j [j, t] us.size (fun k v => us[k]? = some v) (fun k g => g.IsTupleIter j t k ∧ g.IsTuple t us) where
  live := fun _ _ z => let ⟨o, e, _⟩ := z.1; ⟨o, e⟩
  frame := fun _ _ _ z k => ⟨z.1.at fun o e => k j (by simp) o e, z.2.at fun o e => k t (by simp) o e⟩
  item := fun k s Q E lt z hQ => RZ.nextOf_tuple_item z.1 z.2 (x := us[k]) (by simp [lt]) fun g z' b => hQ _ g s.toks (by simp [lt]) ⟨z', z.2.extBut b.extBut n⟩ b
  done := fun s Q E z hE => RZ.nextOf_tuple_end q z.1 z.2 (by simp) hE
open AutoSeq1 (wpAny_loadPart') in
theorem meets_enumT (t : Addr) (us : Array Value) (n : Nat) (d : Option Addr) (sl : Array (Option Value)) :
    Meets (Builtin.«enumerate.__new__» ⟨[.type "enumerate", .ref t], []⟩) (fun _ R s => s.heap.get? t = some { cls := .type "tuple", dict := d, data := .seq us n, slots := sl } ∧
      R (.ok (.ret (.ref (s.heap.push { cls := .type "tuple_iterator", data := .fields #[.ref t, .int 0 0] }).objs.size)))
        { s with heap := (s.heap.push { cls := .type "tuple_iterator", data := .fields #[.ref t, .int 0 0] }).push { cls := .type "enumerate", data := .fields #[.none, .bool false, .ref s.heap.objs.size, rawInt 0, .none, .none] } }) :=
  .of_wp fun P w B R s ⟨e, k⟩ => by
    obtain ⟨hp, g, dr, tk, os⟩ := s
    have hsub := sub_enumerate
    have z : Heap.IsTuple (Shared.heap ⟨hp, g, dr, tk, os⟩) t us := ⟨_, e, rfl, n, rfl⟩
    wp_walk using wpAny_loadPart' e
    refine wpAny_stack_any fun _ => wpAny_pure ?_
    split
    · rename_i c _ _ _ _ _
      cases (c == Value.type "enumerate")
      · wp_walk using wpAny_loadPart' e, wpAny_pyIter_tuple z
        exact ⟨_, rfl, k⟩
      · wp_walk using wpAny_loadPart' e, wpAny_pyIter_tuple z
        exact ⟨_, rfl, k⟩
    · wp_walk using wpAny_loadPart' e, wpAny_pyIter_tuple z
      exact ⟨_, rfl, k⟩
section
variable {prog : Program} {w : World} {A : Around} {E : Value → Shared → Prop} {s : Shared}
theorem call_enumT {t : Addr} {us : Array Value} {Q : Value → Shared → Prop} (z : s.heap.IsTuple t us)
    (h : ∀ g, IsEnum g (s.heap.objs.size + 1) s.heap.objs.size 0 .none → g.IsTupleIter s.heap.objs.size t 0 → g.objs.size = s.heap.objs.size + 2 → (∀ b o, s.heap.get? b = some o → g.get? b = some o) → Q (.ref (s.heap.objs.size + 1)) { s with heap := g }) :
    wpAny (model prog w) A (call (.type "enumerate") [.ref t]) Q E s := by
  obtain ⟨⟨c, d, dt, sl⟩, e, ec, n, ed⟩ := z
  obtain rfl : c = .type "tuple" := ec
  obtain rfl : dt = .seq us n := ed
  refine callType_new PySem.F.called_enumerate (by decide) (PySem.F.typeCall_enumerate_1 _) (PySem.F.newCall_enumerate_1 _) (fun obj => PySem.F.args_object_init_2 obj _) PySem.F.entry_enumerate_new (meets_enumT t us n d sl) ⟨e, ?_⟩
  have sz : (s.heap.push { cls := .type "tuple_iterator", data := .fields #[.ref t, .int 0 0] }).objs.size = s.heap.objs.size + 1 := Heap.size_push ..
  have g1 := Heap.get?_push_size (s.heap.push { cls := .type "tuple_iterator", data := .fields #[.ref t, .int 0 0] }) (o := { cls := .type "enumerate", data := .fields #[.none, .bool false, .ref s.heap.objs.size, rawInt 0, .none, .none] }) rfl
  rw [sz] at g1
  show _ ∧ _
  rw [sz]
  exact ⟨⟨_, g1, rfl⟩, h _ g1 ⟨_, Heap.get?_push_of_some _ (Heap.get?_push_size _ rfl), rfl, rfl⟩ (by rw [Heap.size_push, sz]) fun b o q => Heap.get?_push_of_some _ (Heap.get?_push_of_some _ q)⟩
end
def IteT (K : PySem.W.Frag) (a : Addr) : It :=
  ⟨fun i H => ∃ (xs : List V) (x : V), SqT K H a xs ∧ xs[i]? = some x, fun i H v H' => ∃ T x, v = .ref T ∧ H T = none ∧ H' = upd H T (.tup [.int (i : Nat), x]) ∧ ∀ xs, SqT K H a xs → xs[i]? = some x, fun i H => ∃ xs : List V, SqT K H a xs ∧ xs.length = i⟩
theorem turn_enumT {P : Program} {w : World} {K : PySem.W.Frag} {elts : List Expr} {kk : Nat} {tpos : Pos} (a m j : Addr) :
    Turn P w K (.Tuple elts kk tpos) (IteT K a) [m, j] m (fun i g => (∃ old, IsEnum g m j ((i : Nat) : Int) old) ∧ g.IsTupleIter j a i ∧ m ≠ j) where
  mem := by simp
  obj := fun i g st b hb => by
    obtain ⟨⟨_, e⟩, ⟨o, eo, _, ed⟩, _⟩ := st
    rcases (show b = m ∨ b = j by simpa using hb) with z | z
    · rw [z]; exact ⟨_, e, fun v q => by cases q⟩
    · rw [z]; exact ⟨o, eo, fun v q => by rw [ed] at q; cases q⟩
  keep := fun i g g' st k => let ⟨⟨old, e⟩, t, n⟩ := st; ⟨⟨old, k m (by simp) _ e⟩, t.at fun o q => k j (by simp) o q, n⟩
  item := by
    intro X hP hw hK hc i pins s σ H E I hf st ⟨xs, x, hq, hx⟩
    subst hP hw hK
    obtain ⟨⟨old, he⟩, hit, hne⟩ := st
    obtain ⟨its, rv, p, _⟩ := I.tuple hq
    obtain ⟨u, hu, ru⟩ := rv.get hx
    have m1 : m < s.heap.objs.size := Heap.lt_size he
    have j1 : j < s.heap.objs.size := let ⟨_, q, _⟩ := hit; Heap.lt_size q
    obtain ⟨op, ep, cp, _⟩ := id p
    obtain ⟨oj, ej, cj, _⟩ := id hit
    have aj : a ≠ j := fun z => by
      subst z
      obtain rfl := Option.some.inj (ep.symm.trans ej)
      rw [cp] at cj
      injection cj with z
      exact absurd z (by decide)
    have am : m ≠ a := fun z => by
      subst z
      obtain rfl := Option.some.inj (ep.symm.trans he)
      injection cp with z
      exact absurd z (by decide)
    have hlt : i < its.toArray.size := by
      have := (List.getElem?_eq_some_iff.mp hu).1
      simpa using this
    refine wpAny_pyNext_enum_itemD (drawT (P := X.prog) (w := X.w) (B := X.A.in1) (I.ok.hd hc) j a aj its.toArray) he ⟨hit, p⟩ hlt hne (by simp [hne, am]) fun y g tk hy ho ht hT sz k => ?_
    have ey : y = u := by
      have z : its.toArray[i]? = some u := by simpa using hu
      exact Option.some.inj (hy.symm.trans z)
    subst ey
    refine ⟨_, rfl, wpAny_letOwnedTupleGo_enum (s := { s with heap := g, toks := tk + 1 }) ho fun g2 he2 sb => ?_⟩
    have hT2 := (sb.2 _ (Nat.ne_of_gt m1)).trans hT
    have new : ObjOk X.prog X.w (upd H s.heap.objs.size (.tup [.int (i : Nat), x])) g2 s.heap.objs.size (.tup [.int (i : Nat), x]) := ⟨by show 2 ≤ sizeLine; decide, [.int i tk, y], .cons ⟨_, rfl⟩ (.cons ru .nil), ⟨_, hT2, rfl, _, rfl⟩⟩
    have I1 : Inv X pins σ (upd H s.heap.objs.size (.tup [.int (i : Nat), x])) { s with heap := g2, toks := tk + 1 } :=
      I.turnedNew (ch := [m, j]) (fun b ob hb q => (sb.2 b fun z => hb (by simp [z])).trans (k b ob (fun z => hb (by simp [z])) (fun z => hb (by simp [z])) q)) hf (Nat.le_refl _) new
    refine ⟨.ref s.heap.objs.size, _, I1, rfl, ⟨_, x, rfl, I.hok.fresh (Nat.le_refl _), rfl, fun ys hy => by rw [I.tuple_inj hy hq]; exact hx⟩, ⟨⟨y, ?_⟩, ht.1.at fun o q => (sb.2 j (Ne.symm hne)).trans q, hne⟩, fun b hb => ?_⟩
    · rw [show ((i + 1 : Nat) : Int) = (i : Int) + 1 by omega]
      exact he2
    · have lt : b < s.heap.objs.size := by
        rcases (show b = m ∨ b = j by simpa using hb) with z | z
        · rw [z]; exact m1
        · rw [z]; exact j1
      exact (upd_ne (Nat.ne_of_lt lt)).trans (hf b hb).1
  done := by
    intro X hP hw hK hc i pins s σ H E I hf st ⟨xs, hq, hx⟩
    subst hP hw hK
    obtain ⟨⟨old, he⟩, hit, hne⟩ := st
    obtain ⟨its, rv, p, _⟩ := I.tuple hq
    obtain ⟨f0, f1, f2, f3, f4, f5⟩ := hf j (by simp)
    obtain ⟨op, ep, cp, _⟩ := id p
    obtain ⟨oj, ej, cj, _⟩ := id hit
    have aj : a ≠ j := fun z => by
      subst z
      obtain rfl := Option.some.inj (ep.symm.trans ej)
      rw [cp] at cj
      injection cj with z
      exact absurd z (by decide)
    have hn : its.toArray.size = i := by
      have := rv.length
      simp; omega
    refine wpAny_pyNext_enum_endD (drawT (P := X.prog) (w := X.w) (B := X.A.in1) (I.ok.hd hc) j a aj its.toArray) he ⟨by rw [hn]; exact hit, p⟩ fun g eb => ⟨rfl, I.turned (t' := s.toks) (fun b o hb q => eb b o hb q) f0 f1 f3 f4 f5⟩
  self := fun A i s Q E ⟨⟨_, he⟩, _⟩ h => wpAny_pyIter_enum he h
def iEnumA (K : PySem.W.Frag) (ta : TA) : TI := fun σ H R => ta σ H fun vs H1 => ∃ a xs, vs = [.ref a] ∧ ((SqL K H1 a xs ∧ R (Ite K a) H1) ∨ (SqT K H1 a xs ∧ R (IteT K a) H1))
theorem pi_enumA {X : Cx} {e : Expr} {ta : TA} {p pos tpos : Pos} {elts : List Expr} {kk : Nat} (hg : Gl X "enumerate") (hm : X.mg "enumerate" = none) (ha : PA X [e] ta) (hs : starEach [e] X.env = [(false, eval e X.env)] := by rfl) :
    PI X (.Tuple elts kk tpos) (.Call (.Name "enumerate" p) [e] [] pos) (iEnumA X.K ta) := by
  refine ⟨fun pins s σ H R I h => Call_ (ld_blt I hg hm boot_enumerate (PyProof.Rows.callWith_type1 (thn (ha.run pos pins s σ H _ I h) fun us s1 ⟨vs, H1, I1, r1, a, xs, ex, q⟩ => ?_) hs rfl))⟩
  subst ex
  have fresh : ∀ b ∈ [s1.heap.objs.size + 1, s1.heap.objs.size], FpOk X pins H1 b := fun b hb => by
    have le : s1.heap.objs.size ≤ b := by
      rcases (show b = s1.heap.objs.size + 1 ∨ b = s1.heap.objs.size by simpa using hb) with z | z <;> rw [z]
      · exact Nat.le_add_right _ _
      · exact Nat.le_refl _
    exact I1.fpOk le (I1.hok.fresh le)
  obtain ⟨u, rfl, rx⟩ := vals1 r1
  obtain rfl : u = Value.ref a := rx
  rcases q with ⟨hq, q⟩ | ⟨hq, q⟩
  · obtain ⟨its, rv, z, _⟩ := I1.list hq
    exact call_enumerate_list z.isList fun g he hit _ k => wpAny_pyIter_enum he ⟨s1.heap.objs.size + 1, [s1.heap.objs.size + 1, s1.heap.objs.size], _, _, H1, rfl, I1.kept (t' := s1.toks) k, turn_enum a (s1.heap.objs.size + 1) s1.heap.objs.size, ⟨⟨.none, he⟩, hit, Nat.succ_ne_self _⟩, fresh, q⟩
  · obtain ⟨its, rv, z, _⟩ := I1.tuple hq
    exact call_enumT z fun g he hit _ k => wpAny_pyIter_enum he ⟨s1.heap.objs.size + 1, [s1.heap.objs.size + 1, s1.heap.objs.size], _, _, H1, rfl, I1.kept (t' := s1.toks) k, turn_enumT a (s1.heap.objs.size + 1) s1.heap.objs.size, ⟨⟨.none, he⟩, hit, Nat.succ_ne_self _⟩, fresh, q⟩
def gEnumA (a : GEs) : GI := fun ρ G => (a ρ G).bind fun ws G1 => match ws with
  | [w] => (match seqW w G1 with
    | some (_, us) => .ok (enumW 0 us, ckW w us) G1
    | none => .stuck)
  | _ => .stuck
end Gh

set_option Elab.async false
set_option linter.all false
set_option maxRecDepth 100000
set_option maxHeartbeats 4000000
namespace Gh
open PySem PySem.Spec PyProof.Rows L2
section
variable {X : Cx} {a b : Expr} {gs : GEs} {p pos tpos : Pos} {elts : List Expr} {kk : Nat}
theorem gi_enumA (hm : X.mg "enumerate" = none) (ha : GJA X [a] gs) (hg : Gl X "enumerate" := by rfl) (hs : starEach [a] X.env = [(false, eval a X.env)] := by rfl) : GJI X (.Tuple elts kk tpos) (.Call (.Name "enumerate" p) [a] [] pos) (gEnumA gs) := ⟨fun B F0 wx tk => by
  refine PI.imp (pi_enumA hg hm (ha.run B F0 wx tk) hs) fun σ H R ⟨F, ι, ρ, G, s, he, hp⟩ => ?_
  refine ⟨F, ι, ρ, G, s, he, (PostL.fstI hp).imp fun vs H1 ⟨F1, ι1, ws, G1, e1, s1, r1, p1⟩ => ?_⟩
  cases ws with
  | nil => exact p1.elim
  | cons w t =>
    cases t with
    | cons _ _ => exact p1.elim
    | nil =>
      obtain ⟨x, rfl, r2⟩ := r1.inv1
      simp only at p1
      cases q : seqW w G1 with
      | none => rw [q] at p1; exact p1.elim
      | some pr =>
        obtain ⟨bb, us⟩ := pr
        rw [q] at p1
        obtain ⟨l, rfl, later⟩ := seq_later (C2 := gc X B F0 wx) (F2 := F1) (H2 := H1) (ι2 := ι1) (G2 := G1) s1 q r2
        obtain ⟨xs, h1, h2⟩ := later _ _ _ _ _ rfl .refl s1 (ckW_now q)
        cases bb with
        | true =>
          rw [if_pos rfl] at h1
          refine ⟨l, xs, rfl, .inl ⟨h1, p1 _ H1 F1 ι1 .refl s1 fun C2 F2 H2 ι2 G2 hm _ ee s2 c => ?_⟩⟩
          obtain ⟨ys, h3, h4⟩ := later C2 F2 H2 ι2 G2 hm ee s2 c
          rw [if_pos rfl] at h3
          refine ⟨fun i z hi => ?_, ⟨ys, h3, by rw [enumW_len, h4.length]; exact Nat.le_refl _⟩⟩
          obtain ⟨w', hw', rfl⟩ := enumW_get hi
          obtain ⟨y, hy, ry⟩ := h4.get hw'
          refine ⟨⟨ys, y, h3, hy⟩, fun v H3 ⟨T, y', ev, hT, eH, hall⟩ => ?_⟩
          have z := hall ys h3
          rw [hy] at z
          cases z
          subst ev eH
          rw [← hm]
          refine yield_tup (ws := [.d (.int ((0 + i : Nat) : Int)), w']) s2 ?_ hT
          rw [← hm] at ry
          simp only [RpWL, RpW, Rp, Nat.zero_add]
          exact ⟨_, _, rfl, rfl, _, _, rfl, ry, rfl⟩
        | false =>
          rw [if_neg Bool.false_ne_true] at h1
          refine ⟨l, xs, rfl, .inr ⟨h1, p1 _ H1 F1 ι1 .refl s1 fun C2 F2 H2 ι2 G2 hm _ ee s2 c => ?_⟩⟩
          obtain ⟨ys, h3, h4⟩ := later C2 F2 H2 ι2 G2 hm ee s2 c
          rw [if_neg Bool.false_ne_true] at h3
          refine ⟨fun i z hi => ?_, ⟨ys, h3, by rw [enumW_len, h4.length]⟩⟩
          obtain ⟨w', hw', rfl⟩ := enumW_get hi
          obtain ⟨y, hy, ry⟩ := h4.get hw'
          refine ⟨⟨ys, y, h3, hy⟩, fun v H3 ⟨T, y', ev, hT, eH, hall⟩ => ?_⟩
          have z := hall ys h3
          rw [hy] at z
          cases z
          subst ev eH
          rw [← hm]
          refine yield_tup (ws := [.d (.int ((0 + i : Nat) : Int)), w']) s2 ?_ hT
          rw [← hm] at ry
          simp only [RpWL, RpW, Rp, Nat.zero_add]
          exact ⟨_, _, rfl, rfl, _, _, rfl, ry, rfl⟩⟩
end
/-! ### d.items(), the pair kept by a name -/
theorem alive_any {M : Model} {A : Around} {E : Value → Shared → Prop} {s : Shared} {a : Addr} {Q : Option Obj → Shared → Prop} (h : Q (s.heap.get? a) s) : wpAny M A (loadIfAlive a) Q E s := fun _ _ _ => h
section
open PySem.W
variable {P : Program} {w : World} {J : Type} [DecidableEq J] {kd : KeyKind P w J} {B : Around} {E : Value → Shared → Prop} {s : Shared}
theorem items_out {t d a : Addr} {fl : Bool} {i ep : Nat} {ps : List (J × Value)} {k : J} {v c1 c2 : Value} {Q : Option Value → Shared → Prop} (z : KdxIt s.heap t d i ps.length ep c1 c2 a fl)
    (m : s.heap.DictAt kd d ps ep) (hx : ps[i]? = some (k, v))
    (hQ : ∀ key g, kd.is k key = true → (∃ c1 c2 a fl, KdxIt g t d (i + 1) ps.length ep c1 c2 a fl) → g.get? s.heap.objs.size = some { cls := .type "tuple", data := .seq #[key, v] } → g.objs.size = s.heap.objs.size + 1 →
      (∀ b o, b ≠ t → s.heap.get? b = some o → g.get? b = some o) → Q (some (.ref s.heap.objs.size)) { s with heap := g }) : wpAny (model P w) B (pyNext (.ref t)) Q E s := by
  obtain ⟨H0, gs, dr, tk, os⟩ := s
  obtain ⟨od, es, e1, e2, e3, hk, hpr, _⟩ := id m
  have ty : Shared.TypeIs ⟨H0, gs, dr, tk, os⟩ (.ref t) "dict_itemiterator" := ⟨_, z, rfl⟩
  unfold pyNext
  refine wpAny_bind (wpAny_attempt (wpAny_callSpecial?_slot (name := Str.ofString "__next__") ty PySem.F.slot_dict_itemiterator_next (wpAny_call_entry PySem.F.slot_dict_itemiterator_next ty PySem.F.entry_dict_itemiterator_next ?_ (PySem.F.args_dict_itemiterator_next_1 _))))
  refine wpAny_bind (wpAny_pure ?_)
  refine wpAny_bind (wpAny_bind ?_)
  first | refine wpAny_bind (wpAny_typeNameOfWhole_itemiter ty (wpAny_pure ?_)) | refine wpAny_bind (wpAny_typeNameOf_itemiter ty (wpAny_pure ?_))
  refine wpAny_bind (wpAny_fieldsOf z rfl ?_)
  simp only [show Builtin.Dict_items.ownsTuple "dict_itemiterator" = true by decide, if_true]
  show wpAny _ _ (if (Value.ref d == Value.none) = true then _ else _) _ _ _
  rw [if_neg (show ¬ ((Value.ref d == Value.none) = true) by simp)]
  refine wpAny_bind (wpAny_pure (wpAny_bind (wpAny_dictEntries e1 e3 ?_)))
  have hsz : es.size = ps.length := by rw [← hpr.length]; simp
  have lt : i < es.size := by rw [hsz]; exact (List.getElem?_eq_some_iff.mp hx).1
  rw [if_neg (by rw [hsz]; simp)]
  refine wpAny_bind (wpAny_pure (wpAny_bind (wpAny_dictEpoch e1 e3 ?_)))
  rw [if_neg (by simp)]
  refine wpAny_pure ?_
  obtain ⟨hkey, hval⟩ := hpr.get? (e := es[i]) (by simp [lt]) hx
  simp only [show ¬ ((i : Int) < 0) by omega, if_false, Int.toNat_natCast, Array.getElem?_eq_getElem lt]
  refine wpAny_bind ?_
  first | refine wpAny_bind (wpAny_typeNameOfWhole_itemiter ty (wpAny_pure ?_)) | refine wpAny_bind (wpAny_typeNameOf_itemiter ty (wpAny_pure ?_))
  refine wpAny_bind (wpAny_isOneOf_itemiter ty ?_)
  show wpAny _ _ (setField (.ref t) 3 (rawInt ((i : Int) + 1)) >>= _) _ _ ⟨H0, gs, dr, tk, os⟩
  refine wpAny_bind (wpAny_setField_rec z (by simp) fun H1 z1 b1 => ?_)
  replace b1 : Heap.SameBut t H0 H1 := b1
  replace z1 : KdxIt H1 t d (i + 1) ps.length ep c1 c2 a fl := by
    unfold KdxIt
    rw [show ((i + 1 : Nat) : Int) = (i : Int) + 1 by omega]
    simpa [rawInt] using z1
  have ty1 : Shared.TypeIs ⟨H1, gs, dr, tk, os⟩ (.ref t) "dict_itemiterator" := ⟨_, z1, rfl⟩
  refine wpAny_bind (wpAny_holding (wpAny_bind (wpAny_isOneOf_itemiter ty1 (wpAny_bind (wpAny_isOneOf_itemiter ty1 ?_)))))
  show wpAny _ _ (Builtin.Dict_items.pairFromOwner (.ref t) 6 es[i].key es[i].val) _ _ ⟨H1, gs, dr, tk, os⟩
  unfold Builtin.Dict_items.pairFromOwner
  refine wpAny_bind (wpAny_newTuple ?_)
  have s1 : H1.objs.size = H0.objs.size := b1.1
  have tl : t < H0.objs.size := Heap.lt_size z
  obtain ⟨H2, eH2⟩ : ∃ H2, H2 = H1.push { cls := .type "tuple", data := .seq #[es[i].key, es[i].val] } := ⟨_, rfl⟩
  have z2 : KdxIt H2 t d (i + 1) ps.length ep c1 c2 a fl := by rw [eH2]; exact Heap.get?_push_of_some _ z1
  have t2 : H2.get? H0.objs.size = some { cls := .type "tuple", data := .seq #[es[i].key, es[i].val] } := by rw [eH2, ← s1]; exact Heap.get?_push_size _ rfl
  have s2 : H2.objs.size = H0.objs.size + 1 := by rw [eH2, Heap.size_push, s1]
  have k2 : ∀ b o, b ≠ t → H0.get? b = some o → H2.get? b = some o := fun b o n e => by rw [eH2]; exact Heap.get?_push_of_some _ (b1.extBut b o n e)
  rw [← eH2]
  show wpAny _ _ (Builtin.Dict_items.ownedTupleIsFree (.ref t) >>= _) _ _ ⟨H2, gs, dr, tk, os⟩
  rw [s1]
  clear eH2 z1 b1 ty1 s1 H1
  refine wpAny_bind ?_
  unfold Builtin.Dict_items.ownedTupleIsFree
  refine wpAny_bind (wpAny_field z2 rfl (x := rawInt a) rfl ?_)
  show wpAny _ _ (loadIfAlive ((a : Int).toNat) >>= _) _ _ _
  rw [Int.toNat_natCast]
  refine wpAny_bind (alive_any ?_)
  show wpAny _ _ (if (H2.get? a).isNone = true then _ else _) _ _ _
  cases q : H2.get? a with
  | some oa =>
    rw [if_neg (show ¬ (Option.isNone (some oa) = true) from Bool.false_ne_true)]
    refine wpAny_bind (wpAny_field z2 rfl (x := .bool fl) rfl ?_)
    cases fl with
    | true =>
      rw [if_neg (show ¬ ((Value.bool true != Value.bool true) = true) by simp)]
      refine wpAny_pure ?_
      rw [if_neg Bool.false_ne_true]
      exact wpAny_pure (wpAny_pure ⟨_, rfl, wpAny_pure (hQ es[i].key H2 hkey ⟨_, _, _, _, z2⟩ (by rw [← hval]; exact t2) s2 k2)⟩)
    | false =>
      rw [if_pos (show (Value.bool false != Value.bool true) = true by simp)]
      refine wpAny_bind (wpAny_setField_rec z2 (by simp) fun H3 z3 b3 => ?_)
      replace b3 : Heap.SameBut t H2 H3 := b3
      replace z3 : KdxIt H3 t d (i + 1) ps.length ep c1 c2 a true := z3
      refine wpAny_pure ?_
      rw [if_neg Bool.false_ne_true]
      exact wpAny_pure (wpAny_pure ⟨_, rfl, wpAny_pure (hQ es[i].key H3 hkey ⟨_, _, _, _, z3⟩ (by rw [← hval]; exact b3.extBut _ _ (Nat.ne_of_gt tl) t2) (by show H3.objs.size = _; rw [b3.1]; exact s2) fun b o n e => b3.extBut b o n (k2 b o n e))⟩)
  | none =>
    rw [if_pos (show Option.isNone (none : Option Obj) = true from rfl)]
    refine wpAny_pure ?_
    rw [if_pos rfl]
    refine wpAny_bind (wpAny_field z2 rfl (x := c1) rfl (wpAny_bind (wpAny_field z2 rfl (x := c2) rfl ?_)))
    refine wpAny_bind (wpAny_setField_rec z2 (by simp) fun H3 z3 b3 => ?_)
    replace b3 : Heap.SameBut t H2 H3 := b3
    replace z3 : KdxIt H3 t d (i + 1) ps.length ep es[i].key c2 a fl := z3
    refine wpAny_bind (wpAny_setField_rec z3 (by simp) fun H4 z4 b4 => ?_)
    replace b4 : Heap.SameBut t H3 H4 := b4
    replace z4 : KdxIt H4 t d (i + 1) ps.length ep es[i].key es[i].val a fl := z4
    refine wpAny_bind (wpAny_setField_rec z4 (by simp) fun H5 z5 b5 => ?_)
    replace b5 : Heap.SameBut t H4 H5 := b5
    replace z5 : KdxIt H5 t d (i + 1) ps.length ep es[i].key es[i].val H0.objs.size fl := z5
    refine wpAny_bind (wpAny_setField_rec z5 (by simp) fun H6 z6 b6 => ?_)
    replace b6 : Heap.SameBut t H5 H6 := b6
    replace z6 : KdxIt H6 t d (i + 1) ps.length ep es[i].key es[i].val H0.objs.size false := z6
    have al : ∀ b o, b ≠ t → H2.get? b = some o → H6.get? b = some o := fun b o n e => b6.extBut b o n (b5.extBut b o n (b4.extBut b o n (b3.extBut b o n e)))
    refine wpAny_bind (wpAny_letGo (wpAny_pure (wpAny_pure ⟨_, rfl, wpAny_pure (hQ es[i].key H6 hkey ⟨_, _, _, _, z6⟩ (by rw [← hval]; exact al _ _ (Nat.ne_of_gt tl) t2) (by show H6.objs.size = _; rw [b6.1, b5.1, b4.1, b3.1]; exact s2) fun b o n e => al b o n (k2 b o n e))⟩)))
end
section
open PySem.W
variable {P : Program} {w : World} {K : PySem.W.Frag} {d : Addr} {o : Obj} {es : Array DictEntry} {ep : Nat}
theorem itemIt_self {P : Program} {A : Around} {s : Shared} {t : Addr} {Q : Value → Shared → Prop} {E : Value → Shared → Prop} (ty : s.TypeIs (.ref t) "dict_itemiterator") (h : Q (.ref t) s) : wpAny (model P w) A (pyIter (.ref t)) Q E s := by
  refine wpAny_pyIter_slot ty PySem.F.slot_dict_itemiterator_iter (wpAny_call_entry PySem.F.slot_dict_itemiterator_iter ty kcp_entry ?_ (PySem.F.args_dict_itemiterator_iter_1 _))
  show wpAny _ _ (ret _) _ _ s
  exact wpAny_pure ⟨_, rfl, _, _, ty, PySem.F.slot_dict_itemiterator_next.lookup, h⟩
theorem turn_itemsN {x : Str} {xp : Pos} {kvs : List (Key × V)} (t : Addr) (hod : o.data = .dict es ep) :
    Turn P w K (.Name x xp) (Iti d o kvs) [t] t (fun i g => (∃ c1 c2, IsItemIter g t d i kvs.length ep c1 c2) ∨ ∃ c1 c2 a fl, KdxIt g t d i kvs.length ep c1 c2 a fl) where
  mem := by simp
  obj := fun i g st b hb => by
    obtain rfl : b = t := by simpa using hb
    rcases st with ⟨_, _, e⟩ | ⟨_, _, _, _, e⟩
    · exact ⟨_, e, fun v q => by cases q⟩
    · exact ⟨_, e, fun v q => by cases q⟩
  keep := fun i g g' st k => by
    rcases st with ⟨c1, c2, e⟩ | ⟨c1, c2, a, fl, e⟩
    · exact .inl ⟨c1, c2, k t (by simp) _ e⟩
    · exact .inr ⟨c1, c2, a, fl, k t (by simp) _ e⟩
  item := by
    intro X hP hw hK hc i pins s σ H E I hf st ⟨hd, hi⟩
    subst hP hw hK
    obtain ⟨hs, hgd, hx, es', ep', vs, hdt, hsz, kv, hm⟩ := I.frzK hd
    obtain ⟨rfl, rfl⟩ := dict_ep hod hdt
    obtain ⟨⟨k, v⟩, hkv⟩ : ∃ p, kvs[i]? = some p := ⟨kvs[i], List.getElem?_eq_getElem hi⟩
    obtain ⟨u, hu, ru⟩ := kv_get kv hkv
    have hl : kvs.length = vs.length := Paired.length kv
    have fin : ∀ (key : Value) (g : Heap), (mixKind X.prog X.w).is k key = true → (∃ c1 c2 a fl, KdxIt g t d (i + 1) vs.length ep' c1 c2 a fl) → g.get? s.heap.objs.size = some { cls := .type "tuple", data := .seq #[key, u] } → g.objs.size = s.heap.objs.size + 1 → t < s.heap.objs.size →
        (∀ b o, b ≠ t → s.heap.get? b = some o → g.get? b = some o) → ∃ y, some (Value.ref s.heap.objs.size) = some y ∧ wpAny (model X.prog X.w) X.A (letOwnedTupleGo (.Name x xp) (.ref t) y) (fun _ s2 => ∃ z H', Inv X pins σ H' s2 ∧ RelV z y ∧ (Iti d o kvs).yld i H z H' ∧
          ((∃ c1 c2, IsItemIter s2.heap t d (i + 1) kvs.length ep' c1 c2) ∨ ∃ c1 c2 a fl, KdxIt s2.heap t d (i + 1) kvs.length ep' c1 c2 a fl) ∧ ∀ b ∈ [t], H' b = none) E { s with heap := g } := fun key g hkey hz hT sz lt hk => by
      refine ⟨_, rfl, ?_⟩
      have new : ObjOk X.prog X.w (upd H s.heap.objs.size (.tup [kV k, v])) g s.heap.objs.size (.tup [kV k, v]) := ⟨by show 2 ≤ sizeLine; decide, [key, u], .cons (relV_key (show keyIs k key = true from hkey)) (.cons ru .nil), ⟨_, hT, rfl, _, rfl⟩⟩
      have I1 : Inv X pins σ (upd H s.heap.objs.size (.tup [kV k, v])) { s with heap := g } := I.turnedNew (t' := s.toks) (ch := [t]) (fun b ob hb e => hk b ob (by simpa using hb) e) hf (Nat.le_refl _) new
      show wpAny _ _ (pure ()) _ _ _
      refine wpAny_pure ⟨.ref s.heap.objs.size, _, I1, rfl, ⟨_, k, v, hkv, rfl, I.hok.fresh (Nat.le_refl _), rfl⟩, .inr (by rw [hl]; exact hz), fun b hb => ?_⟩
      obtain rfl : b = t := by simpa using hb
      exact (upd_ne (Nat.ne_of_lt lt)).trans (hf b hb).1
    rcases st with ⟨c1, c2, he⟩ | ⟨c1, c2, a, fl, he⟩
    · rw [hl] at he
      exact wpAny_pyNext_items_item he hm hu fun key g hkey ho hT sz hk => fin key g hkey ⟨_, _, _, _, ho⟩ hT sz (Heap.lt_size he) hk
    · rw [hl] at he
      exact items_out he hm hu fun key g hkey ho hT sz hk => fin key g hkey ho hT sz (Heap.lt_size he) hk
  done := by
    intro X hP hw hK hc i pins s σ H E I hf st ⟨hd, hi⟩
    subst hP hw hK
    obtain ⟨f0, f1, f2, f3, f4, f5⟩ := hf t (by simp)
    obtain ⟨hs, hgd, hx, es', ep', vs, hdt, hsz, kv, hm⟩ := I.frzK hd
    obtain ⟨rfl, rfl⟩ := dict_ep hod hdt
    have hl : kvs.length = vs.length := Paired.length kv
    rcases st with ⟨c1, c2, he⟩ | ⟨c1, c2, a, fl, he⟩
    · rw [hl] at he
      exact wpAny_pyNext_items_end (I.ok.hd hc) he hm (List.getElem?_eq_none (by omega)) fun g eb => ⟨rfl, I.turned (t' := s.toks) (fun b ob hb e => eb b ob hb e) f0 f1 f3 f4 f5⟩
    · rw [hl] at he
      exact kdx_end_out (I.ok.hd hc) he hm (List.getElem?_eq_none (by omega)) fun g eb => ⟨rfl, I.turned (t' := s.toks) (fun b ob hb e => eb b ob hb e) f0 f1 f3 f4 f5⟩
  self := fun A i s Q E st h => by
    rcases st with ⟨c1, c2, he⟩ | ⟨c1, c2, a, fl, he⟩
    · exact itemIt_self ⟨_, he, rfl⟩ h
    · exact itemIt_self ⟨_, he, rfl⟩ h
end
section
variable {X : Cx} {x : Str} {xp : Pos} {e : Expr} {td : TE} {ge : GE} {apos cpos : Pos}
theorem pi_itemsN (he : PE X e td) (hbase : attributeBase e "items" X.env (eval e X.env) = eval e X.env := by rfl) (hline : (apos.endLine == cpos.line) = true := by rfl) : PI X (.Name x xp) (.Call (.Attribute e "items" apos) [] [] cpos) (iItems td) := by
  refine ⟨fun pins s σ H R I h => ?_⟩
  refine wpAny_Call_method (T := "dict") (id := "dict.items") hbase rfl hline PySem.F.plainAttrs_dict PySem.F.slot_dict_items PySem.F.type_dict_items (thn (he.run pins s σ H _ I h) fun u s1 ⟨y, H1, I1, rx, d, o, kvs, ex, hd, q⟩ => ?_)
  subst ex
  obtain rfl : u = Value.ref d := rx
  obtain ⟨hs, hgd, hx, es, ep, vs, hdt, hsz, kv, hm⟩ := I1.frzK hd
  have hl : kvs.length = vs.length := Paired.length kv
  refine ⟨hm.dictOf.typeIs, hm.dictOf.mapOf.noDict, ?_⟩
  have I2 : Inv X pins σ H1 { s1 with heap := s1.heap.push { cls := .type "dict_items", data := .fields #[.ref d] } } := I1.kept (t' := s1.toks) fun b ob q => Heap.get?_push_of_some _ q
  show wpAny _ _ (callWith cpos (.builtin "dict.items") [.ref d] [] []) _ X.xe s1
  refine method_meetsIn PySem.F.slot_dict_items PySem.F.entry_dict_items rfl (PySem.evalArgs_none ⟨rfl, hm.dictOf.typeIs, PySem.F.args_dict_items_1 _, _, meets_dict_items (mixKind X.prog X.w) d hs, ⟨vs, hm.dictOf⟩, ?_⟩)
  refine wpAny_pyIter_items (d := d) (knd := mixKind X.prog X.w) ⟨_, Heap.get?_push_size _ rfl, rfl, rfl⟩ (hm.push _) (pi_one (tk := s1.toks) I2 _ (turn_itemsN _ hdt) (.inl ⟨.none, .none, ?_⟩) q)
  rw [hl]
  exact Heap.get?_push_size _ rfl
theorem gi_itemsN (h : GJE X e ge) (hbase : attributeBase e "items" X.env (eval e X.env) = eval e X.env := by rfl) (hline : (apos.endLine == cpos.line) = true := by rfl) : GJI X (.Name x xp) (.Call (.Attribute e "items" apos) [] [] cpos) (gDicI .items ge) :=
  ⟨fun B F0 wx tk => PI.imp (pi_itemsN (h.run B F0 wx tk) hbase hline) fun σ H R q => gDicI_ok q⟩
end
end Gh

set_option Elab.async false
set_option linter.all false
set_option maxRecDepth 100000
set_option maxHeartbeats 4000000
namespace Gh
open PySem PySem.Spec PyProof.Rows L2
/-! ### a list that no one changes any more -/
def frzE (w : W) (G : Hg) : Res W := match w with
  | .ref i => (match G[i]? with
    | some (.lst ws) => (match allD ws with
      | some ds => .ok (.d (.lst ds)) (G.set i .dead)
      | none => .ok w G)
    | _ => .ok w G)
  | _ => .ok w G
def gFrz (a : GE) : GE := fun ρ G => (a ρ G).bind frzE
theorem ge_frz {X : Cx} {e : Expr} {g : GE} (h : GJE X e g) : GJE X e (gFrz g) := ⟨fun B F0 wx tk => by
  refine PE.imp (h.run B F0 wx tk) fun σ H Q ⟨F, ι, ρ, G, s, he, hp⟩ => ⟨F, ι, ρ, G, s, he, (Post.fst hp).imp fun v H1 ⟨F1, ι1, w, G1, e1, s1, r1, p1⟩ => ?_⟩
  have same : frzE w G1 = .ok w G1 → Q v H1 := fun z => by
    rw [z] at p1
    exact p1 v H1 ⟨F1, ι1, .refl, s1, r1⟩
  cases w with
  | d x => exact same rfl
  | tup ws => exact same rfl
  | ref i =>
    cases q : G1[i]? with
    | none => exact same (by unfold frzE; simp only [q])
    | some o =>
      cases o with
      | lst ws =>
        cases q2 : allD ws with
        | none => exact same (by unfold frzE; simp only [q, q2])
        | some ds =>
          have z : frzE (.ref i) G1 = .ok (.d (.lst ds)) (G1.set i .dead) := by unfold frzE; simp only [q, q2]
          rw [z] at p1
          simp only [RpW] at r1
          obtain ⟨hi, rfl⟩ := r1
          obtain ⟨_, _, xs, h1, h2⟩ := s1.live i _ q (fun z => by cases z)
          obtain ⟨s2, ee⟩ := s1.freeze q (fun z => by cases z) h1
          refine p1 _ _ ⟨_, ι1, ee, s2, ?_⟩
          simp only [RpW, Rp]
          exact ⟨_, xs, rfl, .inl (.inl upd_same), (allD_rp q2 h2).mono ee.fr⟩
      | _ => exact same (by unfold frzE; simp only [q])⟩
theorem frz_ok {a : GE} {ρ : GEnv} {G G1 : Hg} {i : Nat} {ds : List D} (h : a ρ G = .ok (.ref i) G1) (h1 : G1[i]? = some (.lst (ds.map .d))) : gFrz a ρ G = .ok (.d (.lst ds)) (G1.set i .dead) := by
  unfold gFrz
  rw [h, bind_ok]
  unfold frzE
  simp only [h1, allD_map]
end Gh

set_option Elab.async false
set_option linter.all false
set_option maxRecDepth 100000
set_option maxHeartbeats 4000000
namespace Gh
open PySem PySem.Spec PyProof.Rows L2
/-! ### min of two numbers -/
def rMin2 : List V → Hp → VK → Prop := fun xs H Q => ∃ i j, xs = [.int i, .int j] ∧ Q (.int (if j < i then j else i)) H
def fMin2 : List W → Hg → Option (W × Hg)
  | [.d (.int i), .d (.int j)], G => some (.d (.int (if j < i then j else i)), G)
  | _, _ => none
section
variable {X : Cx}
theorem cr_min2 (hc : X.calm = true) : CallR X (.builtin "min") rMin2 := call_min2 hc
theorem cg_min2 : CallG X rMin2 fMin2 := by
  intro C F H ι G ws xs z G' Q hK s r e hQ
  unfold fMin2 at e
  split at e
  · cases e
    obtain ⟨x, y, rfl, r1, r2⟩ := r.inv2
    simp only [RpW, Rp] at r1 r2
    subst r1 r2
    exact ⟨_, _, rfl, hQ _ _ (out_flat s rpI)⟩
  · cases e
end
/-! ### list.index of a number -/
def fIndexI (w : W) (us : List W) (G : Hg) : Option (W × Hg) := match lstI w G, us with
  | some ns, [.d (.int k)] => if ns.findIdx (fun n => decide (n = k)) < ns.length then some (.d (.int ((ns.findIdx fun n => decide (n = k) : Nat) : Int)), G) else none
  | _, _ => none
section
variable {X : Cx}
theorem mg_index : MtG X (rIndex X.K) fIndexI := by
  intro C F H ι G w us x xs z G' Q hK s rw_ ru e hQ
  unfold fIndexI at e
  split at e
  · rename_i ns k q
    split at e
    · rename_i lt
      cases e
      obtain ⟨y, rfl, r1⟩ := ru.inv1
      simp only [RpW, Rp] at r1
      subst r1
      obtain ⟨a, rfl, h1⟩ := s.lstI q rw_
      rw [hK] at h1
      have at_ := List.findIdx_getElem (w := lt)
      refine ⟨a, ns.map V.int, .int k, ns.findIdx fun n => decide (n = k), .int (ns[ns.findIdx fun n => decide (n = k)]'lt), rfl, rfl, h1, rfl, ?_, ?_, ?_, fun m z' hm hz => ?_, hQ _ _ (out_flat s rpI)⟩
      · rw [List.all_map]; exact List.all_eq_true.mpr fun _ _ => rfl
      · rw [List.getElem?_map, List.getElem?_eq_getElem lt]; rfl
      · have e' : ns[ns.findIdx fun n => decide (n = k)]'lt = k := by simpa using at_
        rw [e']
        simp [eqV]
      · rw [List.getElem?_map] at hz
        obtain ⟨n, hn, rfl⟩ := Option.map_eq_some_iff.mp hz
        have lm : m < ns.length := (List.getElem?_eq_some_iff.mp hn).1
        have nn := List.not_of_lt_findIdx hm
        have en : ns[m]'lm = n := (List.getElem?_eq_some_iff.mp hn).2
        have ne : ¬ n = k := by rw [← en]; simpa using nn
        simp [eqV, ne]
    · cases e
  · cases e
end
section
variable {X : Cx} {o e : Expr} {es : List Expr} {go : GE} {gs : GEs} {apos cpos : Pos}
theorem ge_indexI (ho : GJE X o go) (ha : GJA X (e :: es) gs) (hbase : attributeBase o "index" X.env (eval o X.env) = eval o X.env := by rfl) (hfew : Few X cpos (e :: es) := by rfl)
    (hline : (apos.endLine == cpos.line) = true := by rfl) (hs : starEach (e :: es) X.env = (false, eval e X.env) :: starEach es X.env := by rfl) (hplain : (backTo cpos (starEach es X.env)).any (·.1) = false := by rfl) :
    GJE X (.Call (.Attribute o "index" apos) (e :: es) [] cpos) (gMt .lst fIndexI go gs) := ge_mt (t := .lst) PySem.F.plainAttrs_list PySem.F.slot_list_index PySem.F.type_list_index mt_index mg_index ho ha (.inl rfl) hbase hfew hline hs hplain
end
end Gh

set_option Elab.async false
set_option linter.all false
set_option maxRecDepth 100000
set_option maxHeartbeats 4000000
namespace Gh
open PySem PySem.Spec PyProof.Rows L2

/-! ### keys that are tuples, as values -/
section
variable (K : PySem.W.Frag) (H : Hp)
mutual
def NV : NestedKey → V → Prop
  | .none, v => v = .non
  | .num i, v => v = .int i ∨ ∃ b, v = .bl b ∧ i = (if b = true then 1 else 0)
  | .text x, v => v = .str x
  | .tup ks, v => ∃ a xs, v = .ref a ∧ SqT K H a xs ∧ NVL ks xs
def NVL : List NestedKey → List V → Prop
  | [], xs => xs = []
  | k :: ks, xs => ∃ x r, xs = x :: r ∧ NV k x ∧ NVL ks r
end
end
section
variable {M : Md} {F H : Hp}
mutual
theorem nv_of (e : Same F H) : ∀ {d : D} {k : NestedKey} {v : V}, nk1 d = some k → Rp M F d v → NV M.K H k v
  | .non, k, v, h, r => by simp only [nk1] at h; cases h; simp only [Rp] at r; simpa only [NV] using r
  | .bl b, k, v, h, r => by simp only [nk1] at h; cases h; simp only [Rp] at r; simp only [NV]; exact .inr ⟨b, r, rfl⟩
  | .int i, k, v, h, r => by simp only [nk1] at h; cases h; simp only [Rp] at r; simp only [NV]; exact .inl r
  | .str i, k, v, h, r => by simp only [nk1] at h; cases h; simp only [Rp] at r; simpa only [NV] using r
  | .tup ds, k, v, h, r => by
    simp only [nk1] at h
    obtain ⟨ks, q, rfl⟩ := map_some h
    simp only [Rp] at r
    obtain ⟨a, xs, rfl, h1, h2⟩ := r
    simp only [NV]
    exact ⟨a, xs, rfl, Same.sqT e h1, nvl_of e q h2⟩
  | .lst _, _, _, h, _ => by simp only [nk1] at h; cases h
  | .dic _ _, _, _, h, _ => by simp only [nk1] at h; cases h
  | .ins _ _, _, _, h, _ => by simp only [nk1] at h; cases h
theorem nvl_of (e : Same F H) : ∀ {ds : List D} {ks : List NestedKey} {xs : List V}, nkL ds = some ks → RpL M F ds xs → NVL M.K H ks xs
  | [], _, _, h, r => by simp only [nkL] at h; cases h; simp only [RpL] at r; simpa only [NVL] using r
  | d :: ds, ks, xs, h, r => by
    simp only [nkL] at h
    cases q1 : nk1 d with
    | none => rw [q1] at h; cases h
    | some k =>
      cases q2 : nkL ds with
      | none => rw [q1, q2] at h; cases h
      | some ks' =>
        rw [q1, q2] at h
        cases h
        simp only [RpL] at r
        obtain ⟨x, r', rfl, h1, h2⟩ := r
        simp only [NVL]
        exact ⟨x, r', rfl, nv_of e q1 h1, nvl_of e q2 h2⟩
end
end
theorem nkD_inv {d : D} {k : NestedKey} (h : nkD d = some k) : nk1 d = some k ∧ k.depth ≤ 8 := by
  cases d with
  | tup ds =>
    simp only [nkD] at h
    cases q : nkL ds with
    | none => rw [q] at h; cases h
    | some ks =>
      rw [q] at h
      simp only at h
      by_cases c : Nat.ble (NestedKey.tup ks).depth 8 = true
      · rw [if_pos c] at h
        cases h
        exact ⟨by simp only [nk1, q, Option.map_some], Nat.le_of_ble_eq_true c⟩
      · rw [if_neg c] at h; cases h
  | _ => simp only [nkD] at h; cases h
section
variable {X : Cx} {pins : List (Addr × Obj)} {σ : St} {H : Hp} {s : Shared}
mutual
theorem nv_is (I : L2.Inv X pins σ H s) : ∀ {k : NestedKey} {v : V} {u : Value}, NV X.K H k v → RelV v u → NestedIs s.heap k u
  | .none, v, u, h, r => by
    simp only [NV] at h
    subst h
    obtain rfl : u = Value.none := r
    exact .none
  | .num i, v, u, h, r => by
    simp only [NV] at h
    rcases h with rfl | ⟨b, rfl, e⟩
    · obtain ⟨t, rfl⟩ := r
      exact .int _ _
    · obtain rfl : u = Value.bool b := r
      exact .bool e
  | .text x, v, u, h, r => by
    simp only [NV] at h
    subst h
    obtain ⟨t, rfl⟩ := r
    exact .text _ _
  | .tup ks, v, u, h, r => by
    simp only [NV] at h
    obtain ⟨a, xs, rfl, h1, h2⟩ := h
    obtain rfl : u = Value.ref a := r
    obtain ⟨its, rv, ⟨o, e1, e2, n, e3⟩, _⟩ := I.tuple h1
    exact .tup e1 e2 e3 (by simpa using nvl_is I h2 rv)
theorem nvl_is (I : L2.Inv X pins σ H s) : ∀ {ks : List NestedKey} {xs : List V} {us : List Value}, NVL X.K H ks xs → Vals xs us → NestedAll s.heap ks us
  | [], xs, us, h, r => by
    simp only [NVL] at h
    subst h
    cases r
    exact .nil
  | k :: ks, xs, us, h, r => by
    simp only [NVL] at h
    obtain ⟨x, r', rfl, h1, h2⟩ := h
    cases r with
    | cons r1 r2 => exact .cons (nv_is I h1 r1) (nvl_is I h2 r2)
end
end
/-- a dict with such keys that is read -/
structure NR (K : PySem.W.Frag) (w : World) (H : Hp) (a : Addr) (es : List (NestedKey × Addr × V)) : Prop where
  at_ : Rd H a (dN w a es) ∨ (es = [] ∧ Rd H a (.dK []))
  ks : ∀ e ∈ es, NV K H e.1 (.ref e.2.1) ∧ e.1.depth ≤ 8
def valN (es : List (NestedKey × Addr × V)) (k : NestedKey) : Option V := (es.find? fun e => decide (e.1 = k)).map (·.2.2)
def putN (es : List (NestedKey × Addr × V)) (k : NestedKey) (b : Addr) (v : V) : List (NestedKey × Addr × V) :=
  if (es.any fun e => decide (e.1 = k)) = true then es.map (fun e => if e.1 = k then (e.1, e.2.1, v) else e) else es ++ [(k, b, v)]
def dropN (es : List (NestedKey × Addr × V)) (k : NestedKey) : List (NestedKey × Addr × V) := es.filter fun e => decide (e.1 ≠ k)
section
variable {es : List (NestedKey × Addr × V)} {xs : List (NestedKey × Addr × Value)} {k : NestedKey}
theorem KN.val (r : KN es xs) (k : NestedKey) : RelO (valN es k) ((atKey xs k).map (·.2)) := by
  unfold valN atKey
  induction r with
  | nil => exact trivial
  | @cons p q ps qs h t ih =>
    obtain ⟨h1, h2, h3⟩ := h
    rw [List.find?_cons, List.find?_cons, h1]
    by_cases c : q.1 = k
    · rw [decide_eq_true c]; exact h3
    · rw [decide_eq_false c]; exact ih
theorem KN.length (r : KN es xs) : es.length = xs.length := Paired.length r
theorem atKey_any (xs : List (NestedKey × Addr × Value)) (k : NestedKey) : (atKey xs k).isSome = xs.any fun e => decide (e.1 = k) := by
  unfold atKey
  rw [Option.isSome_map]
  induction xs with
  | nil => rfl
  | cons x xs ih =>
    rw [List.find?_cons, List.any_cons]
    by_cases c : x.1 = k
    · rw [decide_eq_true c]; rfl
    · rw [decide_eq_false c, Bool.false_or]; exact ih
theorem KN.any (r : KN es xs) (k : NestedKey) : (es.any fun e => decide (e.1 = k)) = xs.any fun e => decide (e.1 = k) := by
  induction r with
  | nil => rfl
  | @cons p q ps qs h t ih => rw [List.any_cons, List.any_cons, ih, h.1]
theorem KN.put (r : KN es xs) (k : NestedKey) (b : Addr) {v : V} {u : Value} (ru : RelV v u) : KN (putN es k b v) (storedH xs k b u) := by
  have h1 : ∀ {es xs}, KN es xs → KN (es.map (fun e => if e.1 = k then (e.1, e.2.1, v) else e)) (xs.map (putAt k u)) := by
    intro es xs r
    induction r with
    | nil => exact .nil
    | @cons p q ps qs h t ih =>
      obtain ⟨h1, h2, h3⟩ := h
      rw [List.map_cons, List.map_cons]
      refine .cons ?_ ih
      unfold putAt
      by_cases c : q.1 = k
      · rw [if_pos (h1.trans c), if_pos c]; exact ⟨h1, h2, ru⟩
      · rw [if_neg (fun z => c (h1.symm.trans z)), if_neg c]; exact ⟨h1, h2, h3⟩
  have h2 : ∀ {es xs}, KN es xs → KN (es ++ [(k, b, v)]) (xs ++ [(k, b, u)]) := by
    intro es xs r
    induction r with
    | nil => exact .cons ⟨rfl, rfl, ru⟩ .nil
    | @cons p q ps qs h t ih => exact .cons h ih
  unfold putN storedH
  rw [atKey_any, r.any]
  split
  · exact h1 r
  · exact h2 r
theorem KN.drop (r : KN es xs) (k : NestedKey) : KN (dropN es k) (withoutH xs k) := by
  unfold dropN withoutH
  induction r with
  | nil => exact .nil
  | @cons p q ps qs h t ih =>
    by_cases c : q.1 = k
    · rw [List.filter_cons_of_neg (by simp [h.1, c]), List.filter_cons_of_neg (by simp [c])]; exact ih
    · rw [List.filter_cons_of_pos (by simp [h.1, c]), List.filter_cons_of_pos (by simp [c])]; exact .cons h ih
theorem putN_mem {b : Addr} {v : V} {P : NestedKey → Addr → Prop} (h : ∀ e ∈ es, P e.1 e.2.1) (h0 : P k b) : ∀ e ∈ putN es k b v, P e.1 e.2.1 := by
  intro e he
  unfold putN at he
  split at he
  · obtain ⟨e', h1, h2⟩ := List.mem_map.mp he
    split at h2
    · subst h2; exact h e' h1
    · subst h2; exact h e' h1
  · rcases List.mem_append.mp he with z | z
    · exact h e z
    · simp only [List.mem_singleton] at z; subst z; exact h0
theorem dropN_mem {e : NestedKey × Addr × V} (h : e ∈ dropN es k) : e ∈ es := (List.mem_filter.mp h).1
theorem putN_len {b : Addr} {v : V} : (putN es k b v).length ≤ es.length + 1 := by
  unfold putN
  split
  · rw [List.length_map]; omega
  · rw [List.length_append]; simp
end
section
variable {X : Cx} {pins : List (Addr × Obj)} {σ : St} {H : Hp} {s : Shared} {a : Addr} {es : List (NestedKey × Addr × V)}
theorem NR.ok (I : L2.Inv X pins σ H s) (h : NR X.K X.w H a es) : es.length ≤ sizeLine ∧ (a == sysModules) = false ∧ ∃ xs, KN es xs ∧ s.heap.DictOfH (nestedKind X.prog X.w) a xs := by
  rcases h.at_ with r | ⟨rfl, r⟩
  · obtain ⟨⟨z, y, xs, kn, o, ents, ep, h1, h2, h3, h4, h5⟩, _, _⟩ := (show ObjOk X.prog X.w H s.heap a (dN X.w a es) from r.ok I.hok)
    refine ⟨z, y, xs, kn, o, ents, ep, h1, h2, h3, h4, ?_, h5⟩
    have all : ∀ {es : List (NestedKey × Addr × V)} {xs : List (NestedKey × Addr × Value)}, KN es xs → (∀ e ∈ es, NV X.K H e.1 (.ref e.2.1) ∧ e.1.depth ≤ 8) → ∀ x ∈ xs, (nestedKind X.prog X.w).is s.heap x.1 x.2.1 := by
      intro es xs r
      induction r with
      | nil => intro _ x hx; cases hx
      | @cons p q ps qs hq t ih =>
        intro hk x hx
        rcases List.mem_cons.mp hx with e | hx
        · subst e
          obtain ⟨h1, h2, _⟩ := hq
          obtain ⟨k1, k2⟩ := hk p List.mem_cons_self
          refine ⟨?_, by rw [← h1]; exact k2⟩
          rw [← h1, ← h2]
          exact nv_is I k1 rfl
        · exact ih (fun e he => hk e (List.mem_cons_of_mem _ he)) x hx
    exact all kn h.ks
  · obtain ⟨z, y, vs, kv, o, ents, ep, h1, h2, h3, h4, h5, h6⟩ := dk_rd I.hok r
    cases kv
    refine ⟨z, y, [], .nil, o, ents, ep, h1, h2, h3, ?_, (fun x hx => by cases hx), List.nodup_nil⟩
    generalize ents.toList = l at h5
    cases h5
    rfl
theorem nr_at (I : L2.Inv X pins σ H s) (h : NR X.K X.w H a es) : s.TypeIs (.ref a) "dict" := by
  obtain ⟨_, _, xs, _, d⟩ := h.ok I
  exact d.typeIs
/-- the dict's object is replaced -/
theorem nr_write {h' : Heap} {t' : Nat} {es' : List (NestedKey × Addr × V)} {xs' : List (NestedKey × Addr × Value)} (I : L2.Inv X pins σ H s) (mu : Mut (H a)) (hd : (a == sysModules) = false) (hz : es'.length ≤ sizeLine) (kn : KN es' xs') (dd : h'.DictOfH (nestedKind X.prog X.w) a xs') (hs : Heap.SameBut a s.heap h') :
    L2.Inv X pins σ (upd H a (dN X.w a es')) { s with heap := h', toks := t' } := by
  obtain ⟨o, ents, ep, h1, h2, h3, h4, h5, h6⟩ := dd
  refine d_write I mu hs ⟨o, h1⟩ ⟨⟨hz, hd, xs', kn, o, ents, ep, h1, h2, h3, h4, h6⟩, ⟨o, h1⟩, ?_⟩
  intro g1 g2 ⟨z, y, xs, kn, o, ents, ep, e1, e2⟩ hk
  exact ⟨z, y, xs, kn, o, ents, ep, hk _ e1, e2⟩
end
theorem nroom {A : Around} (hu : A.units + 65 < cLine) {P : Program} {w : World} : (nestedKind P w).room A.in1 := by
  show A.in1.units + 8 < cLine
  rw [Around.in1_units]; omega
section
variable {X : Cx} {pins : List (Addr × Obj)} {σ : St} {H : Hp} {s : Shared} {a b : Addr} {es : List (NestedKey × Addr × V)} {k : NestedKey} {v : V} {r : Value} {A : Around} {E : Value → Shared → Prop}
theorem n_getItem {Q : Value → Shared → Prop} (hu : A.units + 65 < cLine) (I : L2.Inv X pins σ H s) (g : NR X.K X.w H a es) (hk : NV X.K H k (.ref b)) (hd : k.depth ≤ 8) (l : valN es k = some v) (h : ∀ w' s', L2.Inv X pins σ H s' → RelV v w' → Q w' s') :
    wpAny (model X.prog X.w) A (getItem (.ref a) (.ref b)) Q E s := by
  obtain ⟨z, y, xs, kn, dd⟩ := g.ok I
  obtain ⟨w', hw, rw'⟩ := RelO.some_of (v := v) (o := (atKey xs k).map (·.2)) (by rw [← l]; exact kn.val k)
  obtain ⟨p, hp, hp2⟩ := Option.map_eq_some_iff.mp hw
  refine wpAny_getItem_heap (nroom hu) ⟨nv_is I hk rfl, hd⟩ dd hp ?_
  rw [hp2]
  exact h w' _ (I.tok _) rw'
theorem n_in {Q : Value → Shared → Prop} (hu : A.units + 65 < cLine) (I : L2.Inv X pins σ H s) (g : NR X.K X.w H a es) (hk : NV X.K H k (.ref b)) (hd : k.depth ≤ 8) (h : ∀ s', L2.Inv X pins σ H s' → Q (.bool (valN es k).isSome) s') :
    wpAny (model X.prog X.w) A (compareOp .In (.ref b) (.ref a)) Q E s := by
  obtain ⟨z, y, xs, kn, dd⟩ := g.ok I
  refine wpAny_in_heap (nroom hu) ⟨nv_is I hk rfl, hd⟩ y dd ?_
  have q := (kn.val k).isSome_eq
  rw [Option.isSome_map] at q
  rw [← q]
  exact h _ (I.tok _)
theorem n_notIn {Q : Value → Shared → Prop} (hu : A.units + 65 < cLine) (I : L2.Inv X pins σ H s) (g : NR X.K X.w H a es) (hk : NV X.K H k (.ref b)) (hd : k.depth ≤ 8) (h : ∀ s', L2.Inv X pins σ H s' → Q (.bool (!(valN es k).isSome)) s') :
    wpAny (model X.prog X.w) A (compareOp .NotIn (.ref b) (.ref a)) Q E s := by
  obtain ⟨z, y, xs, kn, dd⟩ := g.ok I
  refine wpAny_notIn_heap (nroom hu) ⟨nv_is I hk rfl, hd⟩ y dd ?_
  have q := (kn.val k).isSome_eq
  rw [Option.isSome_map] at q
  rw [← q]
  exact h _ (I.tok _)
theorem n_setItem {Q : Unit → Shared → Prop} (hu : A.units + 65 < cLine) (I : L2.Inv X pins σ H s) (mu : Mut (H a)) (g : NR X.K X.w H a es) (hk : NV X.K H k (.ref b)) (hd : k.depth ≤ 8) (hl : es.length < sizeLine) (rv : RelV v r) (h : ∀ s', L2.Inv X pins σ (upd H a (dN X.w a (putN es k b v))) s' → Q () s') :
    wpAny (model X.prog X.w) A (setItem (.ref a) (.ref b) r) Q E s := by
  obtain ⟨z, y, xs, kn, dd⟩ := g.ok I
  refine wpAny_setItem_heap (hsz := by rw [← kn.length]; exact z) (nroom hu) ⟨nv_is I hk rfl, hd⟩ dd fun h' dd' hs => h _ ?_
  exact nr_write I mu y (by have := putN_len (es := es) (k := k) (b := b) (v := v); omega) (kn.put k b rv) dd' hs
end
end Gh

set_option Elab.async false
set_option linter.all false
set_option maxRecDepth 100000
set_option maxHeartbeats 4000000
namespace Gh
open PySem PySem.Spec PyProof.Rows L2

/-! ### calls of methods, by what any dict holds -/
/-- what the dict at a holds at the key y -/
def DG (K : PySem.W.Frag) (w : World) (H : Hp) (a : Addr) (y : V) (o : Option V) : Prop :=
  DGet H a y o ∨ ∃ es k b, NR K w H a es ∧ y = .ref b ∧ NV K H k y ∧ k.depth ≤ 8 ∧ o = valN es k
def DP (K : PySem.W.Frag) (w : World) (H : Hp) (a : Addr) (y v : V) (H' : Hp) : Prop :=
  DPut H a y v H' ∨ ∃ es k b, NR K w H a es ∧ Mut (H a) ∧ y = .ref b ∧ NV K H k y ∧ k.depth ≤ 8 ∧ es.length < sizeLine ∧ H' = upd H a (dN w a (putN es k b v))
def IsDE (K : PySem.W.Frag) (w : World) (H : Hp) (a : Addr) : Prop := IsD H a ∨ ∃ es, NR K w H a es
section
variable {X : Cx} {pins : List (Addr × Obj)} {σ : St} {H : Hp} {s : Shared} {a : Addr} {y v d : V} {u r : Value} {o : Option V} {A : Around} {E : Value → Shared → Prop}
theorem e_getItem {Q : Value → Shared → Prop} (hu : A.units + 65 < cLine) (I : L2.Inv X pins σ H s) (g : DG X.K X.w H a y (some v)) (ry : RelV y u) (h : ∀ w' s', L2.Inv X pins σ H s' → RelV v w' → Q w' s') :
    wpAny (model X.prog X.w) A (getItem (.ref a) u) Q E s := by
  rcases g with g | ⟨es, k, b, g, rfl, hk, hd, l⟩
  · exact d_getItem (by omega) I g ry h
  · obtain rfl : u = Value.ref b := ry
    exact n_getItem hu I g hk hd l.symm h
theorem e_in {Q : Value → Shared → Prop} (hu : A.units + 65 < cLine) (I : L2.Inv X pins σ H s) (g : DG X.K X.w H a y o) (ry : RelV y u) (h : ∀ s', L2.Inv X pins σ H s' → Q (.bool o.isSome) s') :
    wpAny (model X.prog X.w) A (compareOp .In u (.ref a)) Q E s := by
  rcases g with g | ⟨es, k, b, g, rfl, hk, hd, rfl⟩
  · exact d_in (by omega) I g ry h
  · obtain rfl : u = Value.ref b := ry
    exact n_in hu I g hk hd h
theorem e_notIn {Q : Value → Shared → Prop} (hu : A.units + 65 < cLine) (I : L2.Inv X pins σ H s) (g : DG X.K X.w H a y o) (ry : RelV y u) (h : ∀ s', L2.Inv X pins σ H s' → Q (.bool (!o.isSome)) s') :
    wpAny (model X.prog X.w) A (compareOp .NotIn u (.ref a)) Q E s := by
  rcases g with g | ⟨es, k, b, g, rfl, hk, hd, rfl⟩
  · exact d_notIn (by omega) I g ry h
  · obtain rfl : u = Value.ref b := ry
    exact n_notIn hu I g hk hd h
theorem e_setItem {H' : Hp} {Q : Unit → Shared → Prop} (hu : A.units + 65 < cLine) (I : L2.Inv X pins σ H s) (g : DP X.K X.w H a y v H') (ry : RelV y u) (rv : RelV v r) (h : ∀ s', L2.Inv X pins σ H' s' → Q () s') :
    wpAny (model X.prog X.w) A (setItem (.ref a) u r) Q E s := by
  rcases g with g | ⟨es, k, b, g, mu, rfl, hk, hd, hl, rfl⟩
  · exact d_setItem (by omega) I g ry rv h
  · obtain rfl : u = Value.ref b := ry
    exact n_setItem hu I mu g hk hd hl rv h
theorem e_get1 {Q : Value → Shared → Prop} (hu : A.units + 65 < cLine) (I : L2.Inv X pins σ H s) (g : DG X.K X.w H a y o) (ry : RelV y u) (h : ∀ w' s', L2.Inv X pins σ H s' → RelV (o.getD .non) w' → Q w' s') :
    wpAny (model X.prog X.w) A (call (.builtin "dict.get") [.ref a, u]) Q E s := by
  rcases g with g | ⟨es, k, b, g, rfl, hk, hd, rfl⟩
  · exact d_get1 (by omega) I g ry h
  · obtain rfl : u = Value.ref b := ry
    obtain ⟨z, y, xs, kn, dd⟩ := g.ok I
    exact call_meetsIn PySem.F.slot_dict_get dd.typeIs PySem.F.entry_dict_get (PySem.F.args_dict_get_2 _ _) (meetsH_dict_get (nestedKind X.prog X.w) a b y) ⟨nroom hu, k, xs, ⟨nv_is I hk rfl, hd⟩, dd, h _ _ (I.tok _) ((kn.val k).getD rfl)⟩
theorem e_get2 {Q : Value → Shared → Prop} (hu : A.units + 65 < cLine) (I : L2.Inv X pins σ H s) (g : DG X.K X.w H a y o) (ry : RelV y u) (rd : RelV d r) (h : ∀ w' s', L2.Inv X pins σ H s' → RelV (o.getD d) w' → Q w' s') :
    wpAny (model X.prog X.w) A (call (.builtin "dict.get") [.ref a, u, r]) Q E s := by
  rcases g with g | ⟨es, k, b, g, rfl, hk, hd, rfl⟩
  · exact d_get2 (by omega) I g ry rd h
  · obtain rfl : u = Value.ref b := ry
    obtain ⟨z, y, xs, kn, dd⟩ := g.ok I
    exact call_meetsIn PySem.F.slot_dict_get dd.typeIs PySem.F.entry_dict_get (PySem.F.args_dict_get_3 _ _ _) (meetsH_dict_get_default (nestedKind X.prog X.w) a b y r) ⟨nroom hu, k, xs, ⟨nv_is I hk rfl, hd⟩, dd, h _ _ (I.tok _) ((kn.val k).getD rd)⟩
/-- d.setdefault(y, z) by values -/
def SD (K : PySem.W.Frag) (w : World) (H : Hp) (a : Addr) (y z : V) (Q : VK) : Prop :=
  (∃ (kvs : List (Key × V)) (k : Key), H a = some (.dK kvs) ∧ y = kV k ∧ kvs.length < sizeLine ∧ (∀ v, valV kvs k = some v → Q v H) ∧ (valV kvs k = none → Q z (upd H a (.dK (putK kvs k z))))) ∨
  ∃ es k b, NR K w H a es ∧ Mut (H a) ∧ y = .ref b ∧ NV K H k y ∧ k.depth ≤ 8 ∧ es.length < sizeLine ∧ (∀ v, valN es k = some v → Q v H) ∧ (valN es k = none → Q z (upd H a (dN w a (putN es k b z))))
theorem e_setd {Q : VK} (hu : X.A.units + 65 < cLine) (I : L2.Inv X pins σ H s) (g : SD X.K X.w H a y d Q) (ry : RelV y u) (rd : RelV d r) :
    wpAny (model X.prog X.w) X.A (call (.builtin "dict.setdefault") [.ref a, u, r]) (EP X pins σ Q) X.xe s := by
  rcases g with ⟨kvs, k, ea, rfl, hl, q3, q4⟩ | ⟨es, k, b, g, mu, rfl, hk, hd, hl, q3, q4⟩
  · exact d_setd I ea ry rd hl (fun v hv w' s4 I4 rw' => ⟨v, _, I4, rw', q3 v hv⟩) fun hn w' s4 I4 rw' => ⟨_, _, I4, rw', q4 hn⟩
  · obtain rfl : u = Value.ref b := ry
    obtain ⟨z, y, xs, kn, dd⟩ := g.ok I
    refine call_setdefault_heap (hsz := by rw [← kn.length]; exact z) (nroom hu) ⟨nv_is I hk rfl, hd⟩ y dd (fun p hp => ?_) fun hn h' dd' hs => ?_
    · have q := kn.val k
      rw [hp] at q
      cases q0 : valN es k with
      | none => rw [q0] at q; exact (show False from q).elim
      | some v0 => rw [q0] at q; exact ⟨v0, H, I.tok _, q, q3 v0 q0⟩
    · have q := kn.val k
      rw [hn] at q
      cases q0 : valN es k with
      | some v0 => rw [q0] at q; exact (show False from q).elim
      | none => exact ⟨d, _, nr_write I mu y (by have := putN_len (es := es) (k := k) (b := b) (v := d); omega) (kn.put k b rd) dd' hs, rd, q4 q0⟩
/-- d.pop(y), there -/
def PD (K : PySem.W.Frag) (w : World) (H : Hp) (a : Addr) (y : V) (Q : VK) : Prop :=
  (∃ kvs k v, H a = some (.dK kvs) ∧ y = kV k ∧ valV kvs k = some v ∧ Q v (upd H a (.dK (dropK kvs k)))) ∨
  ∃ es k b v, NR K w H a es ∧ Mut (H a) ∧ y = .ref b ∧ NV K H k y ∧ k.depth ≤ 8 ∧ valN es k = some v ∧ Q v (upd H a (dN w a (dropN es k)))
theorem e_pop {Q : VK} (hu : X.A.units + 65 < cLine) (I : L2.Inv X pins σ H s) (g : PD X.K X.w H a y Q) (ry : RelV y u) :
    wpAny (model X.prog X.w) X.A (call (.builtin "dict.pop") [.ref a, u]) (EP X pins σ Q) X.xe s := by
  rcases g with ⟨kvs, k, v, ea, rfl, l, q⟩ | ⟨es, k, b, v, g, mu, rfl, hk, hd, l, q⟩
  · exact d_pop I ea ry l (.inl rfl) fun w' s3 I3 rw' => ⟨v, _, I3, rw', q⟩
  · obtain rfl : u = Value.ref b := ry
    obtain ⟨z, y, xs, kn, dd⟩ := g.ok I
    obtain ⟨w', hw, rw'⟩ := RelO.some_of (v := v) (o := (atKey xs k).map (·.2)) (by rw [← l]; exact kn.val k)
    obtain ⟨p, hp, hp2⟩ := Option.map_eq_some_iff.mp hw
    refine call_pop_heap (hsz := by rw [← kn.length]; exact z) (.inl rfl) (PySem.F.args_dict_pop_2 _ _) (nroom hu) ⟨nv_is I hk rfl, hd⟩ y dd hp fun h' dd' hs => ?_
    rw [hp2]
    refine ⟨v, _, nr_write I mu y ?_ (kn.drop k) dd' hs, rw', q⟩
    exact Nat.le_trans (List.length_filter_le _ _) z
theorem e_len {es : List (NestedKey × Addr × V)} {Q : Value → Shared → Prop} (I : L2.Inv X pins σ H s) (g : NR X.K X.w H a es) (h : ∀ t s', L2.Inv X pins σ H s' → Q (.int es.length t) s') : wpAny (model X.prog X.w) A (call (.builtin "len") [.ref a]) Q E s := by
  obtain ⟨z, y, xs, kn, dd⟩ := g.ok I
  refine call_len_dictH y dd (by rw [← kn.length]; rw [sizeLine_eq] at z; omega) ?_
  rw [← kn.length]
  exact h _ _ (I.tok _)
theorem isDE_at (I : L2.Inv X pins σ H s) (h : IsDE X.K X.w H a) : s.TypeIs (.ref a) "dict" ∧ ∀ b, Value.ref a = .ref b → ∃ ob, s.heap.get? b = some ob ∧ ob.dict = none := by
  rcases h with h | ⟨es, h⟩
  · obtain ⟨t1, t2, _⟩ := isD_at I h
    exact ⟨t1, t2⟩
  · obtain ⟨_, _, xs, _, o, e1, e2, h1, h2, h3, _⟩ := h.ok I
    refine ⟨⟨o, h1, h2.1⟩, fun b q => ?_⟩
    cases q
    exact ⟨o, h1, h2.2.1⟩
end
def tDGet1E (K : PySem.W.Frag) (w : World) (td ty : TE) : TE := fun σ H Q => td σ H fun x H1 => ∃ a, x = .ref a ∧ IsDE K w H1 a ∧ ty σ H1 fun y H2 => ∃ o, DG K w H2 a y o ∧ Q (o.getD .non) H2
def tDGet2E (K : PySem.W.Frag) (w : World) (td ty tx : TE) : TE := fun σ H Q => td σ H fun x H1 => ∃ a, x = .ref a ∧ IsDE K w H1 a ∧ ty σ H1 fun y H2 => tx σ H2 fun z H3 => ∃ o, DG K w H3 a y o ∧ Q (o.getD z) H3
def tDSetdE (K : PySem.W.Frag) (w : World) (td ty tx : TE) : TE := fun σ H Q => td σ H fun x H1 => ∃ a, x = .ref a ∧ IsDE K w H1 a ∧ ty σ H1 fun y H2 => tx σ H2 fun z H3 => SD K w H3 a y z Q
def tDPopE (K : PySem.W.Frag) (w : World) (td ty : TE) : TE := fun σ H Q => td σ H fun x H1 => ∃ a, x = .ref a ∧ IsDE K w H1 a ∧ ty σ H1 fun y H2 => PD K w H2 a y Q
section
variable {X : Cx} {o e f : Expr} {td ty tx : TE} {apos cpos : Pos}
theorem pe_dget1E (hu : X.A.units + 65 < cLine) (ho : PE X o td) (he : PE X e ty) (m : M1 X o "get" apos e cpos) : PE X (.Call (.Attribute o "get" apos) [e] [] cpos) (tDGet1E X.K X.w td ty) := by
  refine ⟨fun pins s σ H Q I h => ?_⟩
  refine wpAny_Call_method m.base m.few m.line PySem.F.plainAttrs_dict PySem.F.slot_dict_get PySem.F.type_dict_get (thn (ho.run pins s σ H _ I h) fun u s1 ⟨x, H1, I1, rx, a, ex, d, q1⟩ => ?_)
  subst ex
  obtain rfl : u = Value.ref a := rx
  obtain ⟨t1, t2⟩ := isDE_at I1 d
  refine ⟨t1, t2, ?_⟩
  rw [m.trees]
  refine Calls.callWith_builtin rfl (Calls.evalArgs_plain (Calls.spliced_cons (thn (he.run pins s1 σ H1 _ I1 q1) fun iv s2 ⟨y, H2, I2, ry, ov, g, q2⟩ => Calls.spliced_nil ?_)))
  exact e_get1 hu I2 g ry fun w' s3 I3 rw' => ⟨_, H2, I3, rw', q2⟩
theorem pe_dget2E (hu : X.A.units + 65 < cLine) (ho : PE X o td) (he : PE X e ty) (hf : PE X f tx) (m : M2 X o "get" apos e f cpos) : PE X (.Call (.Attribute o "get" apos) [e, f] [] cpos) (tDGet2E X.K X.w td ty tx) := by
  refine ⟨fun pins s σ H Q I h => ?_⟩
  refine wpAny_Call_method m.base m.few m.line PySem.F.plainAttrs_dict PySem.F.slot_dict_get PySem.F.type_dict_get (thn (ho.run pins s σ H _ I h) fun u s1 ⟨x, H1, I1, rx, a, ex, d, q1⟩ => ?_)
  subst ex
  obtain rfl : u = Value.ref a := rx
  obtain ⟨t1, t2⟩ := isDE_at I1 d
  refine ⟨t1, t2, ?_⟩
  rw [m.trees]
  refine Calls.callWith_builtin rfl (Calls.evalArgs_plain (Calls.spliced_cons (thn (he.run pins s1 σ H1 _ I1 q1) fun iv s2 ⟨y, H2, I2, ry, q2⟩ =>
    Calls.spliced_cons (thn (hf.run pins s2 σ H2 _ I2 q2) fun fv s3 ⟨z, H3, I3, rz, ov, g, q3⟩ => Calls.spliced_nil ?_))))
  exact e_get2 hu I3 g ry rz fun w' s4 I4 rw' => ⟨_, H3, I4, rw', q3⟩
theorem pe_dsetdE (hu : X.A.units + 65 < cLine) (ho : PE X o td) (he : PE X e ty) (hf : PE X f tx) (m : M2 X o "setdefault" apos e f cpos) : PE X (.Call (.Attribute o "setdefault" apos) [e, f] [] cpos) (tDSetdE X.K X.w td ty tx) := by
  refine ⟨fun pins s σ H Q I h => ?_⟩
  refine wpAny_Call_method m.base m.few m.line PySem.F.plainAttrs_dict PySem.F.slot_dict_setdefault PySem.F.type_dict_setdefault (thn (ho.run pins s σ H _ I h) fun u s1 ⟨x, H1, I1, rx, a, ex, d, q1⟩ => ?_)
  subst ex
  obtain rfl : u = Value.ref a := rx
  obtain ⟨t1, t2⟩ := isDE_at I1 d
  refine ⟨t1, t2, ?_⟩
  rw [m.trees]
  refine Calls.callWith_builtin rfl (Calls.evalArgs_plain (Calls.spliced_cons (thn (he.run pins s1 σ H1 _ I1 q1) fun iv s2 ⟨y, H2, I2, ry, q2⟩ =>
    Calls.spliced_cons (thn (hf.run pins s2 σ H2 _ I2 q2) fun fv s3 ⟨z, H3, I3, rz, g⟩ => Calls.spliced_nil ?_))))
  exact e_setd hu I3 g ry rz
theorem pe_dpopE (hu : X.A.units + 65 < cLine) (ho : PE X o td) (he : PE X e ty) (m : M1 X o "pop" apos e cpos) : PE X (.Call (.Attribute o "pop" apos) [e] [] cpos) (tDPopE X.K X.w td ty) := by
  refine ⟨fun pins s σ H Q I h => ?_⟩
  refine wpAny_Call_method m.base m.few m.line PySem.F.plainAttrs_dict PySem.F.slot_dict_pop PySem.F.type_dict_pop (thn (ho.run pins s σ H _ I h) fun u s1 ⟨x, H1, I1, rx, a, ex, d, q1⟩ => ?_)
  subst ex
  obtain rfl : u = Value.ref a := rx
  obtain ⟨t1, t2⟩ := isDE_at I1 d
  refine ⟨t1, t2, ?_⟩
  rw [m.trees]
  refine Calls.callWith_builtin rfl (Calls.evalArgs_plain (Calls.spliced_cons (thn (he.run pins s1 σ H1 _ I1 q1) fun iv s2 ⟨y, H2, I2, ry, g⟩ => Calls.spliced_nil ?_)))
  exact e_pop hu I2 g ry
end

/-! ### on the ghost side -/
/-! equal keys -/
mutual
def keq : D → D → Bool
  | .non, .non => true
  | .bl a, .bl b => a == b
  | .int a, .int b => decide (a = b)
  | .str a, .str b => decide (a = b)
  | .bl a, .int i => decide ((if a = true then (1 : Int) else 0) = i)
  | .int i, .bl a => decide (i = (if a = true then (1 : Int) else 0))
  | .tup a, .tup b => keqL a b
  | _, _ => false
def keqL : List D → List D → Bool
  | [], [] => true
  | a :: r, b :: s => keq a b && keqL r s
  | _, _ => false
end
mutual
theorem keq_ok : ∀ {a b : D} {x y : NestedKey}, nk1 a = some x → nk1 b = some y → keq a b = x.beq y
  | .non, b, x, y, h, k => by
    simp only [nk1] at h; cases h
    cases b <;> simp only [nk1] at k <;> first | (cases k <;> rfl) | (obtain ⟨z, _, rfl⟩ := map_some k; rfl)
  | .bl c, b, x, y, h, k => by
    simp only [nk1] at h; cases h
    cases b <;> simp only [nk1] at k <;> first | (cases k <;> cases c <;> first | rfl | (simp [keq, NestedKey.beq]) | (rename_i d; cases d <;> rfl)) | (obtain ⟨z, _, rfl⟩ := map_some k; rfl)
  | .int c, b, x, y, h, k => by
    simp only [nk1] at h; cases h
    cases b <;> simp only [nk1] at k <;> first | (cases k <;> rfl) | (obtain ⟨z, _, rfl⟩ := map_some k; rfl)
  | .str c, b, x, y, h, k => by
    simp only [nk1] at h; cases h
    cases b <;> simp only [nk1] at k <;> first | (cases k <;> rfl) | (obtain ⟨z, _, rfl⟩ := map_some k; rfl)
  | .tup c, b, x, y, h, k => by
    simp only [nk1] at h
    obtain ⟨z, hz, rfl⟩ := map_some h
    cases b with
    | tup e =>
      simp only [nk1] at k
      obtain ⟨z2, hz2, rfl⟩ := map_some k
      simp only [keq, NestedKey.beq]
      exact keqL_ok hz hz2
    | non => simp only [nk1] at k; cases k; rfl
    | bl _ => simp only [nk1] at k; cases k; rfl
    | int _ => simp only [nk1] at k; cases k; rfl
    | str _ => simp only [nk1] at k; cases k; rfl
    | lst _ => simp only [nk1] at k; cases k
    | dic _ _ => simp only [nk1] at k; cases k
    | ins _ _ => simp only [nk1] at k; cases k
  | .lst _, _, _, _, h, _ => by simp only [nk1] at h; cases h
  | .dic _ _, _, _, _, h, _ => by simp only [nk1] at h; cases h
  | .ins _ _, _, _, _, h, _ => by simp only [nk1] at h; cases h
theorem keqL_ok : ∀ {a b : List D} {x y : List NestedKey}, nkL a = some x → nkL b = some y → keqL a b = NestedKey.beqAll x y
  | [], b, x, y, h, k => by
    simp only [nkL] at h; cases h
    cases b with
    | nil => simp only [nkL] at k; cases k; rfl
    | cons d ds =>
      simp only [nkL] at k
      split at k
      · cases k; rfl
      · cases k
  | d :: ds, b, x, y, h, k => by
    simp only [nkL] at h
    split at h
    · rename_i q1 q2
      cases h
      cases b with
      | nil => simp only [nkL] at k; cases k; rfl
      | cons e es =>
        simp only [nkL] at k
        split at k
        · rename_i q3 q4
          cases k
          simp only [keqL, NestedKey.beqAll]
          rw [keq_ok q1 q3, keqL_ok q2 q4]
        · cases k
    · cases h
end
end Gh

set_option Elab.async false
set_option linter.all false
set_option maxRecDepth 100000
set_option maxHeartbeats 4000000
namespace Gh
open PySem PySem.Spec PyProof.Rows L2

/-! ### dicts of any keys: entries -/
def lookT (kvs : List (D × W)) (k : D) : Option W := (kvs.find? fun p => keq p.1 k).map (·.2)
def putT (kvs : List (D × W)) (k : D) (w : W) : List (D × W) := if kvs.any (fun p => keq p.1 k) then kvs.map (fun p => if keq p.1 k then (p.1, w) else p) else kvs ++ [(k, w)]
def dropT (kvs : List (D × W)) (k : D) : List (D × W) := kvs.filter fun p => !keq p.1 k
theorem keqD_ok {a b : D} {x y : NestedKey} (ha : nkD a = some x) (hb : nkD b = some y) : keq a b = decide (x = y) := by
  rw [keq_ok (nkD_inv ha).1 (nkD_inv hb).1, NestedKey.decide_eq]
def RelOW (M : Md) (F : Hp) (ι : Nat → Addr) (n : Nat) : Option W → Option V → Prop
  | some z, some v => RpW M F ι n z v
  | none, none => True
  | _, _ => False
section
variable {M : Md} {F : Hp} {ι : Nat → Addr} {n : Nat} {k : D} {kk : NestedKey}
theorem RpWT.length : ∀ {kvs : List (D × W)} {es : List (NestedKey × Addr × V)}, RpWT M F ι n kvs es → kvs.length = es.length
  | [], es, h => by simp only [RpWT] at h; subst h; rfl
  | (k, w) :: kvs, es, h => by
    simp only [RpWT] at h
    obtain ⟨k2, b, x, r, rfl, _, _, _, h2⟩ := h
    simp [RpWT.length h2]
theorem RpWT.look (hk : nkD k = some kk) : ∀ {kvs : List (D × W)} {es : List (NestedKey × Addr × V)}, RpWT M F ι n kvs es → RelOW M F ι n (lookT kvs k) (valN es kk)
  | [], es, h => by simp only [RpWT] at h; subst h; trivial
  | (k1, w1) :: kvs, es, h => by
    simp only [RpWT] at h
    obtain ⟨k2, b, x, r, rfl, h1, h0, h2, h3⟩ := h
    have e := keqD_ok h1 hk
    have ih := RpWT.look hk h3
    unfold lookT valN at ih ⊢
    rw [List.find?_cons, List.find?_cons, e]
    by_cases c : k2 = kk
    · rw [decide_eq_true c]; exact h2
    · rw [decide_eq_false c]; exact ih
theorem RpWT.any (hk : nkD k = some kk) : ∀ {kvs : List (D × W)} {es : List (NestedKey × Addr × V)}, RpWT M F ι n kvs es → kvs.any (fun p => keq p.1 k) = es.any (fun p => decide (p.1 = kk))
  | [], es, h => by simp only [RpWT] at h; subst h; rfl
  | (k1, w1) :: kvs, es, h => by
    simp only [RpWT] at h
    obtain ⟨k2, b, x, r, rfl, h1, h0, h2, h3⟩ := h
    rw [List.any_cons, List.any_cons, RpWT.any hk h3, keqD_ok h1 hk]
theorem RpWT.rep (hk : nkD k = some kk) {w : W} {v : V} (rv : RpW M F ι n w v) : ∀ {kvs : List (D × W)} {es : List (NestedKey × Addr × V)}, RpWT M F ι n kvs es → RpWT M F ι n (kvs.map fun p => if keq p.1 k then (p.1, w) else p) (es.map fun e => if e.1 = kk then (e.1, e.2.1, v) else e)
  | [], es, h => by simp only [RpWT] at h; subst h; simp only [List.map_nil, RpWT]
  | (k1, w1) :: kvs, es, h => by
    simp only [RpWT] at h
    obtain ⟨k2, b, x, r, rfl, h1, h0, h2, h3⟩ := h
    have e := keqD_ok h1 hk
    simp only [List.map_cons]
    by_cases c : k2 = kk
    · rw [if_pos (by rw [e]; exact decide_eq_true c), if_pos c]
      simp only [RpWT]
      exact ⟨k2, b, v, _, rfl, h1, h0, rv, RpWT.rep hk rv h3⟩
    · rw [if_neg (by rw [e]; simpa using c), if_neg c]
      simp only [RpWT]
      exact ⟨k2, b, x, _, rfl, h1, h0, h2, RpWT.rep hk rv h3⟩
theorem RpWT.app (hk : nkD k = some kk) {b : Addr} (rb : Rp M F k (.ref b)) {w : W} {v : V} (rv : RpW M F ι n w v) : ∀ {kvs : List (D × W)} {es : List (NestedKey × Addr × V)}, RpWT M F ι n kvs es → RpWT M F ι n (kvs ++ [(k, w)]) (es ++ [(kk, b, v)])
  | [], es, h => by simp only [RpWT] at h; subst h; simp only [List.nil_append, RpWT]; exact ⟨kk, b, v, [], rfl, hk, rb, rv, rfl⟩
  | (k1, w1) :: kvs, es, h => by
    simp only [RpWT] at h
    obtain ⟨k2, b, x, r, rfl, h1, h0, h2, h3⟩ := h
    simp only [List.cons_append, RpWT]
    exact ⟨k2, b, x, _, rfl, h1, h0, h2, RpWT.app hk rb rv h3⟩
theorem RpWT.put (hk : nkD k = some kk) {b : Addr} (rb : Rp M F k (.ref b)) {w : W} {v : V} (rv : RpW M F ι n w v) {kvs : List (D × W)} {es : List (NestedKey × Addr × V)} (h : RpWT M F ι n kvs es) : RpWT M F ι n (putT kvs k w) (putN es kk b v) := by
  unfold putT putN
  rw [RpWT.any hk h]
  split
  · exact h.rep hk rv
  · exact h.app hk rb rv
theorem RpWT.drop (hk : nkD k = some kk) : ∀ {kvs : List (D × W)} {es : List (NestedKey × Addr × V)}, RpWT M F ι n kvs es → RpWT M F ι n (dropT kvs k) (dropN es kk)
  | [], es, h => by simp only [RpWT] at h; subst h; simp only [dropT, dropN, List.filter_nil, RpWT]
  | (k1, w1) :: kvs, es, h => by
    simp only [RpWT] at h
    obtain ⟨k2, b, x, r, rfl, h1, h0, h2, h3⟩ := h
    have e := keqD_ok h1 hk
    have ih := RpWT.drop hk h3
    unfold dropT dropN at ih ⊢
    by_cases c : k2 = kk
    · rw [List.filter_cons_of_neg (by simp [e, c]), List.filter_cons_of_neg (by simp [c])]
      exact ih
    · rw [List.filter_cons_of_pos (by simp [e, c]), List.filter_cons_of_pos (by simp [c])]
      simp only [RpWT]
      exact ⟨k2, b, x, _, rfl, h1, h0, h2, ih⟩
theorem RpT.wt : ∀ {kvs : List (D × D)} {es : List (NestedKey × Addr × V)}, RpT M F kvs es → RpWT M F ι n (kvs.map fun p => (p.1, .d p.2)) es
  | [], es, h => by simpa only [RpT, List.map_nil, RpWT] using h
  | (k, d) :: kvs, es, h => by
    simp only [RpT] at h
    obtain ⟨k2, b, x, r, rfl, h1, h0, h2, h3⟩ := h
    simp only [List.map_cons, RpWT, RpW]
    exact ⟨k2, b, x, r, rfl, h1, h0, h2, RpT.wt h3⟩
theorem RpWT.nv {H : Hp} (e : Same F H) : ∀ {kvs : List (D × W)} {es : List (NestedKey × Addr × V)}, RpWT M F ι n kvs es → ∀ x ∈ es, NV M.K H x.1 (.ref x.2.1) ∧ x.1.depth ≤ 8
  | [], es, h => by simp only [RpWT] at h; subst h; intro x hx; cases hx
  | (k, w) :: kvs, es, h => by
    simp only [RpWT] at h
    obtain ⟨k2, b, x, r, rfl, h1, h0, h2, h3⟩ := h
    intro y hy
    rcases List.mem_cons.mp hy with q | q
    · subst q
      obtain ⟨h4, h5⟩ := nkD_inv h1
      exact ⟨nv_of e h4 h0, h5⟩
    · exact RpWT.nv e h3 y q
end
/-- any dict that is read -/
def dicE : W → Hg → Option (Bool × List (D × W))
  | .d (.dic t kvs), _ => some (t, kvs.map fun p => (p.1, .d p.2))
  | .ref i, G => match G[i]? with
    | some (.dic t kvs) => some (t, kvs)
    | some (.lkd t kvs) => some (t, kvs)
    | _ => none
  | _, _ => none
/-- what it holds at a key; none: no key of this dict -/
def findE (t : Bool) (kvs : List (D × W)) (u : W) : Option (Option W) := match u with
  | .d x => match t with
    | true => if (nkD x).isSome then some (lookT kvs x) else none
    | false => if (keyD x).isSome then some (lookK kvs x) else if kvs.isEmpty && (nkD x).isSome then some none else none
  | _ => none
/-- as the heap has it -/
def RpE (M : Md) (F : Hp) (ι : Nat → Addr) (n : Nat) (H : Hp) (a : Addr) (t : Bool) (kvs : List (D × W)) : Prop := match t with
  | false => ∃ es, Rd H a (.dK es) ∧ RpWK M F ι n kvs es
  | true => ∃ es, Rd H a (dN M.w a es) ∧ RpWT M F ι n kvs es
theorem Sim.dicE {C : GC} {F H : Hp} {ι : Nat → Addr} {G : Hg} {w : W} {t : Bool} {kvs : List (D × W)} {v : V} (s : Sim C F H ι G) (e : Gh.dicE w G = some (t, kvs)) (r : RpW C.m F ι G.length w v) :
    ∃ a, v = .ref a ∧ RpE C.m F ι G.length H a t kvs := by
  cases w with
  | tup ws => cases e
  | d x =>
    simp only [RpW] at r
    cases x with
    | dic t ks =>
      cases e
      cases t with
      | true =>
        simp only [Rp] at r
        obtain ⟨a, od, es, rfl, h1, h2⟩ := r
        exact ⟨a, rfl, es, .inr ⟨od, s.fh _ _ h1⟩, h2.wt⟩
      | false =>
        simp only [Rp] at r
        obtain ⟨a, od, es, rfl, h1, h2⟩ := r
        exact ⟨a, rfl, es, .inr ⟨od, s.fh _ _ h1⟩, h2.wk⟩
    | _ => cases e
  | ref i =>
    simp only [RpW] at r
    obtain ⟨hi, rfl⟩ := r
    simp only [Gh.dicE] at e
    cases q : G[i]? with
    | none => rw [q] at e; cases e
    | some o =>
      rw [q] at e
      cases o with
      | dic t ks =>
        cases e
        cases t with
        | true => obtain ⟨_, _, es, h1, h2⟩ := s.live i _ q (fun z => by cases z); exact ⟨_, rfl, es, .inl h1, h2⟩
        | false => obtain ⟨_, _, es, h1, h2⟩ := s.live i _ q (fun z => by cases z); exact ⟨_, rfl, es, .inl h1, h2⟩
      | lkd t ks =>
        cases e
        cases t with
        | true => obtain ⟨_, _, od, es, h1, h2⟩ := s.live i _ q (fun z => by cases z); exact ⟨_, rfl, es, .inr ⟨od, h1⟩, h2⟩
        | false => obtain ⟨_, _, od, es, h1, h2⟩ := s.live i _ q (fun z => by cases z); exact ⟨_, rfl, es, .inr ⟨od, h1⟩, h2⟩
      | _ => cases e
theorem RpE.is {C : GC} {F H : Hp} {ι : Nat → Addr} {G : Hg} {a : Addr} {t : Bool} {kvs : List (D × W)} (s : Sim C F H ι G) (h : RpE C.m F ι G.length H a t kvs) : IsDE C.m.K C.m.w H a := by
  cases t with
  | false => obtain ⟨es, h1, h2⟩ := h; exact .inl (.inl ⟨es, h1⟩)
  | true => obtain ⟨es, h1, h2⟩ := h; exact .inr ⟨es, .inl h1, h2.nv s.fh⟩
/-- a key that is a tuple stands at an address -/
theorem nk_ref {M : Md} {F : Hp} {d : D} {k : NestedKey} {v : V} (h : nkD d = some k) (r : Rp M F d v) : ∃ b, v = .ref b := by
  cases d with
  | tup ds => simp only [Rp] at r; obtain ⟨a, xs, rfl, _⟩ := r; exact ⟨a, rfl⟩
  | _ => simp only [nkD] at h; cases h
theorem Sim.findE {C : GC} {F H : Hp} {ι : Nat → Addr} {G : Hg} {u : W} {a : Addr} {t : Bool} {kvs : List (D × W)} {o : Option W} {y : V} (s : Sim C F H ι G) (h : RpE C.m F ι G.length H a t kvs) (e : Gh.findE t kvs u = some o) (ru : RpW C.m F ι G.length u y) :
    ∃ vo, DG C.m.K C.m.w H a y vo ∧ RelOW C.m F ι G.length o vo := by
  cases u with
  | ref i => cases e
  | tup ws => cases e
  | d x =>
    simp only [RpW] at ru
    cases t with
    | true =>
      simp only [Gh.findE] at e
      by_cases c : (nkD x).isSome = true
      · rw [if_pos c] at e
        cases e
        obtain ⟨kk, hk⟩ := Option.isSome_iff_exists.mp c
        obtain ⟨es, h1, h2⟩ := h
        obtain ⟨b, rfl⟩ := nk_ref hk ru
        obtain ⟨h4, h5⟩ := nkD_inv hk
        exact ⟨_, .inr ⟨es, kk, b, ⟨.inl h1, h2.nv s.fh⟩, rfl, nv_of s.fh h4 ru, h5, rfl⟩, h2.look hk⟩
      · rw [if_neg c] at e; cases e
    | false =>
      simp only [Gh.findE] at e
      obtain ⟨es, h1, h2⟩ := h
      by_cases c : (keyD x).isSome = true
      · rw [if_pos c] at e
        cases e
        obtain ⟨kk, hk⟩ := Option.isSome_iff_exists.mp c
        have ey := key_rp hk ru
        obtain ⟨l1, l2⟩ := h2.look hk
        refine ⟨valV es kk, .inl (.inl ⟨es, kk, h1, ey, rfl⟩), ?_⟩
        cases l : lookK kvs x with
        | none => rw [l2 l]; trivial
        | some z => obtain ⟨v, e1, e2⟩ := l1 z l; rw [e1]; exact e2
      · rw [if_neg c] at e
        by_cases c2 : (kvs.isEmpty && (nkD x).isSome) = true
        · rw [if_pos c2] at e
          cases e
          rw [Bool.and_eq_true] at c2
          obtain ⟨kk, hk⟩ := Option.isSome_iff_exists.mp c2.2
          obtain rfl : kvs = [] := List.isEmpty_iff.mp c2.1
          simp only [RpWK] at h2
          subst h2
          obtain ⟨b, rfl⟩ := nk_ref hk ru
          obtain ⟨h4, h5⟩ := nkD_inv hk
          exact ⟨none, .inr ⟨[], kk, b, ⟨.inr ⟨rfl, h1⟩, fun e he => by cases he⟩, rfl, nv_of s.fh h4 ru, h5, rfl⟩, trivial⟩
        · rw [if_neg c2] at e; cases e
/-! ### d[k], k in d -/
def rIxE (K : PySem.W.Frag) (w : World) : R2 := fun x y H Q => rIxA K x y H Q ∨ ∃ a v, x = .ref a ∧ DG K w H a y (some v) ∧ Q v H
theorem DG.at_ {X : Cx} {pins : List (Addr × Obj)} {σ : St} {H : Hp} {s : Shared} {a : Addr} {y : V} {o : Option V} (I : L2.Inv X pins σ H s) (g : DG X.K X.w H a y o) : s.TypeIs (.ref a) "dict" := by
  rcases g with g | ⟨es, k, b, g, _⟩
  · exact dict_typeIs I g
  · exact nr_at I g
theorem ix_dictE {X : Cx} (hu : X.A.units + 65 < cLine) : IxR X (fun x y H Q => ∃ a v, x = .ref a ∧ DG X.K X.w H a y (some v) ∧ Q v H) := by
  intro value slice pins s σ H x y v u Q I rx ry h hs
  obtain ⟨a, z, rfl, g, q⟩ := h
  obtain rfl : v = Value.ref a := rx
  have hT := DG.at_ I g
  have fin : wpAny (model X.prog X.w) X.A (getItem (.ref a) u) (EP X pins σ Q) X.xe s := e_getItem hu I g ry fun w' s3 I3 rw' => ⟨z, H, I3, rw', q⟩
  have fin2 : wpAny (model X.prog X.w) X.A (subscripted slice false (.ref a) u) (fun r s₃ => wpAny (model X.prog X.w) X.A (letTemporaryGo value (.ref a) r >>= fun _ => pure r) (EP X pins σ Q) X.xe s₃) X.xe s := by
    rw [hs]
    exact wpAny_operating (wpAny_mono fin (fun r s₃ h₃ => wpAny_bind (wpAny_letTemporaryGo (wpAny_pure h₃))) fun _ _ x => x)
  unfold subscriptTail
  refine wpAny_bind ?_
  rw [getitemInPython_of_ne hT.not_modules]
  refine wpAny_bind (wpAny_specialOf hT PySem.F.slot_dict_getitem.lookup ?_)
  first
    | exact wpAny_pure (wpAny_bind fin2)
    | exact wpAny_bind (wpAny_pure (wpAny_bind fin2))
    | exact wpAny_bind fin2
theorem ix_E {X : Cx} (hu : X.A.units + 65 < cLine) : IxR X (rIxE X.K X.w) := ix_A.or (ix_dictE hu)
def fIxE (w u : W) (G : Hg) : Option (W × Hg) := match dicE w G with
  | some (t, kvs) => (match findE t kvs u with
    | some (some z) => some (z, G)
    | _ => none)
  | none => fIx w u G
theorem og_ixE {X : Cx} : OpG X (rIxE X.K X.w) fIxE := by
  intro C F H ι G w u x y z G' Q hK s rw_ ru e hQ
  unfold fIxE at e
  cases q : dicE w G with
  | none => rw [q] at e; exact .inl (og_ix C F H ι G w u x y z G' Q hK s rw_ ru e hQ)
  | some p =>
    obtain ⟨t, kvs⟩ := p
    rw [q] at e
    simp only at e
    split at e
    · rename_i z' q2
      cases e
      obtain ⟨a, rfl, h1⟩ := s.dicE q rw_
      obtain ⟨vo, h2, h3⟩ := s.findE h1 q2 ru
      cases vo with
      | none => exact h3.elim
      | some v => rw [hK] at h2; exact .inr ⟨a, v, rfl, h2, hQ _ _ (out_w s h3)⟩
    · cases e
def rInE (K : PySem.W.Frag) (w : World) (neg : Bool) : R2 := fun x y H Q => rInA K neg x y H Q ∨ ∃ a o, y = .ref a ∧ DG K w H a x o ∧ Q (.bl (neg ^^ o.isSome)) H
theorem op_inE {X : Cx} (hu : X.A.units + 65 < cLine) : OpR X (compareOp .In) (rInE X.K X.w false) := by
  intro pins s σ H x y v u Q I rx ry h
  rcases h with h | ⟨a, o, rfl, g, q⟩
  · exact op_inA hu pins s σ H x y v u Q I rx ry h
  · obtain rfl : u = Value.ref a := ry
    exact e_in hu I g rx fun s' I' => ⟨.bl o.isSome, H, I', rfl, by rw [Bool.false_xor] at q; exact q⟩
theorem op_notInE {X : Cx} (hu : X.A.units + 65 < cLine) : OpR X (compareOp .NotIn) (rInE X.K X.w true) := by
  intro pins s σ H x y v u Q I rx ry h
  rcases h with h | ⟨a, o, rfl, g, q⟩
  · exact op_notInA hu pins s σ H x y v u Q I rx ry h
  · obtain rfl : u = Value.ref a := ry
    exact e_notIn hu I g rx fun s' I' => ⟨.bl (!o.isSome), H, I', rfl, by rw [Bool.true_xor] at q; exact q⟩
def fInE (neg : Bool) (w u : W) (G : Hg) : Option (W × Hg) := match dicE u G with
  | some (t, kvs) => (match findE t kvs w with
    | some o => some (.d (.bl (neg ^^ o.isSome)), G)
    | none => none)
  | none => fIn neg w u G
theorem RelOW.some_eq {M : Md} {F : Hp} {ι : Nat → Addr} {n : Nat} : ∀ {o : Option W} {vo : Option V}, RelOW M F ι n o vo → o.isSome = vo.isSome
  | some _, some _, _ => rfl
  | none, none, _ => rfl
  | some _, none, h => h.elim
  | none, some _, h => h.elim
theorem og_inE {X : Cx} {neg : Bool} : OpG X (rInE X.K X.w neg) (fInE neg) := by
  intro C F H ι G w u x y z G' Q hK s rw_ ru e hQ
  unfold fInE at e
  cases q : dicE u G with
  | none => rw [q] at e; exact .inl (og_in C F H ι G w u x y z G' Q hK s rw_ ru e hQ)
  | some p =>
    obtain ⟨t, kvs⟩ := p
    rw [q] at e
    simp only at e
    cases q2 : findE t kvs w with
    | none => rw [q2] at e; cases e
    | some o =>
      rw [q2] at e
      cases e
      obtain ⟨a, rfl, h1⟩ := s.dicE q ru
      obtain ⟨vo, h2, h3⟩ := s.findE h1 q2 rw_
      rw [hK] at h2
      exact .inr ⟨a, vo, rfl, h2, hQ _ _ (out_flat s (by rw [h3.some_eq]; exact rpB))⟩
/-! ### d[k] = v, xs[i] = v -/
def getDmE (w : W) (G : Hg) : Option (Nat × Bool × List (D × W)) := match w with
  | .ref i => match G[i]? with
    | some (.dic t kvs) => some (i, t, kvs)
    | _ => none
  | _ => none
theorem getDmE_inv {w : W} {G : Hg} {i : Nat} {t : Bool} {kvs : List (D × W)} (h : getDmE w G = some (i, t, kvs)) : w = .ref i ∧ G[i]? = some (.dic t kvs) := by
  cases w with
  | ref j =>
    simp only [getDmE] at h
    cases q : G[j]? with
    | none => rw [q] at h; cases h
    | some o =>
      rw [q] at h
      cases o with
      | dic t us => cases h; exact ⟨rfl, q⟩
      | _ => cases h
  | _ => cases h
/-- the entries behind a store -/
def storeE (t : Bool) (kvs : List (D × W)) (u v : W) : Option (Bool × List (D × W)) := if Nat.blt kvs.length 16777216 then (match u with
  | .d x => match t with
    | true => if (nkD x).isSome then some (true, putT kvs x v) else none
    | false => if (keyD x).isSome then some (false, putW kvs x v) else if kvs.isEmpty && (nkD x).isSome then some (true, [(x, v)]) else none
  | _ => none) else none
/-- the heap's description of a dict that may be changed -/
def hoE (M : Md) (F : Hp) (ι : Nat → Addr) (n : Nat) (a : Addr) (t : Bool) (kvs : List (D × W)) (u : HO) : Prop := match t with
  | false => ∃ es, u = .dK es ∧ RpWK M F ι n kvs es
  | true => ∃ es, u = dN M.w a es ∧ RpWT M F ι n kvs es
theorem hoE.o {M : Md} {F : Hp} {ι : Nat → Addr} {n : Nat} {H : Hp} {a : Addr} {t : Bool} {kvs : List (D × W)} {u : HO} (h : hoE M F ι n a t kvs u) (hh : H a = some u) : RpO M F ι n H a (.dic t kvs) := by
  cases t with
  | false => obtain ⟨es, rfl, h2⟩ := h; exact ⟨es, hh, h2⟩
  | true => obtain ⟨es, rfl, h2⟩ := h; exact ⟨es, hh, h2⟩
theorem Sim.dicmE {C : GC} {F H : Hp} {ι : Nat → Addr} {G : Hg} {i : Nat} {t : Bool} {kvs : List (D × W)} (s : Sim C F H ι G) (h : G[i]? = some (.dic t kvs)) : ∃ u, H (ι i) = some u ∧ hoE C.m F ι G.length (ι i) t kvs u := by
  obtain ⟨_, _, r⟩ := s.live i _ h (fun z => by cases z)
  cases t with
  | false => obtain ⟨es, h1, h2⟩ := r; exact ⟨_, h1, es, rfl, h2⟩
  | true => obtain ⟨es, h1, h2⟩ := r; exact ⟨_, h1, es, rfl, h2⟩
theorem out_wrE {C : GC} {F H : Hp} {ι : Nat → Addr} {G : Hg} {i : Nat} {t t' : Bool} {kvs us : List (D × W)} {u : HO} {w : W} {v : V} (s : Sim C F H ι G) (h : G[i]? = some (.dic t kvs)) (r : hoE C.m F ι G.length (ι i) t' us u) (rv : RpW C.m F ι G.length w v) :
    Out C F ι G.length w (G.set i (.dic t' us)) v (upd H (ι i) u) := by
  have s' := s.write (o := u) (g := .dic t' us) h (fun z => by cases z) (r.o upd_same)
  refine ⟨F, ι, ⟨Same.refl _, fun _ _ => rfl, by simp⟩, s', ?_⟩
  rw [List.length_set]
  exact rv
theorem Sim.storeE {C : GC} {F H : Hp} {ι : Nat → Addr} {G : Hg} {i : Nat} {t t' : Bool} {kvs us : List (D × W)} {u wv : W} {y v : V} (s : Sim C F H ι G) (h : G[i]? = some (.dic t kvs)) (e : Gh.storeE t kvs u wv = some (t', us)) (ru : RpW C.m F ι G.length u y) (rv : RpW C.m F ι G.length wv v) :
    ∃ o, DP C.m.K C.m.w H (ι i) y v (upd H (ι i) o) ∧ hoE C.m F ι G.length (ι i) t' us o := by
  unfold Gh.storeE at e
  by_cases cl : Nat.blt kvs.length 16777216 = true
  · rw [if_pos cl] at e
    have hl : kvs.length < sizeLine := by rw [sizeLine_eq]; exact Nat.le_of_ble_eq_true cl
    cases u with
    | ref i => cases e
    | tup ws => cases e
    | d x =>
      simp only [RpW] at ru
      obtain ⟨o, h1, h2⟩ := s.dicmE h
      cases t with
      | true =>
        simp only at e
        obtain ⟨es, rfl, h3⟩ := h2
        by_cases c : (nkD x).isSome = true
        · rw [if_pos c] at e
          cases e
          obtain ⟨kk, hk⟩ := Option.isSome_iff_exists.mp c
          obtain ⟨b, rfl⟩ := nk_ref hk ru
          obtain ⟨h4, h5⟩ := nkD_inv hk
          exact ⟨_, .inr ⟨es, kk, b, ⟨.inl (.inl h1), h3.nv s.fh⟩, by rw [h1]; trivial, rfl, nv_of s.fh h4 ru, h5, by rw [← h3.length]; exact hl, rfl⟩, _, rfl, h3.put hk ru rv⟩
        · rw [if_neg c] at e; cases e
      | false =>
        simp only at e
        obtain ⟨es, rfl, h3⟩ := h2
        by_cases c : (keyD x).isSome = true
        · rw [if_pos c] at e
          cases e
          obtain ⟨kk, hk⟩ := Option.isSome_iff_exists.mp c
          have ey := key_rp hk ru
          exact ⟨_, .inl (.inl ⟨es, kk, h1, ey, by rw [← h3.length]; exact hl, rfl⟩), _, rfl, h3.put hk rv⟩
        · rw [if_neg c] at e
          by_cases c2 : (kvs.isEmpty && (nkD x).isSome) = true
          · rw [if_pos c2] at e
            cases e
            rw [Bool.and_eq_true] at c2
            obtain ⟨kk, hk⟩ := Option.isSome_iff_exists.mp c2.2
            obtain rfl : kvs = [] := List.isEmpty_iff.mp c2.1
            simp only [RpWK] at h3
            subst h3
            obtain ⟨b, rfl⟩ := nk_ref hk ru
            obtain ⟨h4, h5⟩ := nkD_inv hk
            exact ⟨_, .inr ⟨[], kk, b, ⟨.inr ⟨rfl, .inl h1⟩, fun e he => by cases he⟩, by rw [h1]; trivial, rfl, nv_of s.fh h4 ru, h5, hl, rfl⟩, _, rfl, by simp only [RpWT]; exact ⟨kk, b, v, [], rfl, hk, ru, rv, rfl⟩⟩
          · rw [if_neg c2] at e; cases e
  · rw [if_neg cl] at e; cases e
def fSetE (w u v : W) (G : Hg) : Option Hg := match getDmE w G with
  | some (i, t, kvs) => (storeE t kvs u v).map fun p => G.set i (.dic p.1 p.2)
  | none => fSetL w u v G
def rSetE (K : PySem.W.Frag) (w : World) : V → V → V → Hp → (Hp → Prop) → Prop := fun o i v H Q => rSetL o i v H Q ∨ ∃ a H', o = .ref a ∧ DP K w H a i v H' ∧ Q H'
theorem set_E {X : Cx} (hu : X.A.units + 65 < cLine) : PSet X (rSetE X.K X.w) := by
  intro pins s σ H o i v ov iv u Q I ro ri rv h
  rcases h with h | ⟨a, H', rfl, g, q⟩
  · exact set_list pins s σ H o i v ov iv u Q I ro ri rv h
  · obtain rfl : ov = Value.ref a := ro
    exact e_setItem hu I g ri rv fun s' I' => ⟨H', I', q⟩
theorem sg_E {X : Cx} : SetG X (rSetE X.K X.w) fSetE := by
  intro C F H ι G wo wi wv o i v G' Q hK s ro ri rv e hQ
  unfold fSetE at e
  cases q : getDmE wo G with
  | none => rw [q] at e; exact .inl (sg_list (X := X) C F H ι G wo wi wv o i v G' Q hK s ro ri rv e hQ)
  | some p =>
    obtain ⟨j, t, kvs⟩ := p
    rw [q] at e
    obtain ⟨p2, q2, rfl⟩ := map_some e
    obtain ⟨t', us⟩ := p2
    obtain ⟨rfl, hj⟩ := getDmE_inv q
    simp only [RpW] at ro
    obtain ⟨hl, rfl⟩ := ro
    obtain ⟨ob, h1, h2⟩ := s.storeE hj q2 ri rv
    obtain ⟨F', ι', e1, s1, _⟩ := out_wrE (w := .d .non) (v := .non) s hj h2 (by simp only [RpW, Rp])
    rw [hK] at h1
    exact .inr ⟨_, _, rfl, h1, hQ _ ⟨F', ι', e1, s1⟩⟩
end Gh

set_option Elab.async false
set_option linter.all false
set_option maxRecDepth 100000
set_option maxHeartbeats 4000000
namespace Gh
open PySem PySem.Spec PyProof.Rows L2

/-! ### dicts of any keys: get, setdefault, pop, len, a display of one entry -/
def gGetE (o a : GE) : GE := fun ρ G => (o ρ G).bind fun w G1 => if (dicE w G1).isSome then (a ρ G1).bind fun u G2 => match dicE w G2 with
  | some (t, kvs) => (match findE t kvs u with
    | some z => .ok (z.getD (.d .non)) G2
    | none => .stuck)
  | none => .stuck else .stuck
def gGet2E (o a b : GE) : GE := fun ρ G => (o ρ G).bind fun w G1 => if (dicE w G1).isSome then (a ρ G1).bind fun u G2 => (b ρ G2).bind fun x G3 => match dicE w G3 with
  | some (t, kvs) => (match findE t kvs u with
    | some z => .ok (z.getD x) G3
    | none => .stuck)
  | none => .stuck else .stuck
def gSetdE (o a b : GE) : GE := fun ρ G => (o ρ G).bind fun w G1 => if (dicE w G1).isSome then (a ρ G1).bind fun u G2 => (b ρ G2).bind fun x G3 => match getDmE w G3 with
  | some (i, t, kvs) => (match findE t kvs u with
    | some (some z) => if Nat.blt kvs.length 16777216 then .ok z G3 else .stuck
    | some none => (match storeE t kvs u x with
      | some (t', us) => .ok x (G3.set i (.dic t' us))
      | none => .stuck)
    | none => .stuck)
  | none => .stuck else .stuck
def dropE (t : Bool) (kvs : List (D × W)) (u : W) : List (D × W) := match u with
  | .d x => if t then dropT kvs x else dropW kvs x
  | _ => kvs
def gPopE (o a : GE) : GE := fun ρ G => (o ρ G).bind fun w G1 => if (dicE w G1).isSome then (a ρ G1).bind fun u G2 => match getDmE w G2 with
  | some (i, t, kvs) => (match findE t kvs u with
    | some (some z) => .ok z (G2.set i (.dic t (dropE t kvs u)))
    | _ => .stuck)
  | none => .stuck else .stuck
theorem RelOW.getD {M : Md} {F : Hp} {ι : Nat → Addr} {n : Nat} {z : W} {v : V} (r : RpW M F ι n z v) : ∀ {o : Option W} {vo : Option V}, RelOW M F ι n o vo → RpW M F ι n (o.getD z) (vo.getD v)
  | some _, some _, h => h
  | none, none, _ => r
  | some _, none, h => h.elim
  | none, some _, h => h.elim
theorem isDE_of {C : GC} {F H : Hp} {ι : Nat → Addr} {G : Hg} {w : W} {v : V} (s : Sim C F H ι G) (e : (dicE w G).isSome = true) (r : RpW C.m F ι G.length w v) : ∃ a, v = .ref a ∧ IsDE C.m.K C.m.w H a := by
  obtain ⟨⟨t, kvs⟩, q⟩ := Option.isSome_iff_exists.mp e
  obtain ⟨a, h1, h2⟩ := s.dicE q r
  exact ⟨a, h1, h2.is s⟩
theorem getDmE_dicE {w : W} {G : Hg} {i : Nat} {t : Bool} {kvs : List (D × W)} (h : getDmE w G = some (i, t, kvs)) : dicE w G = some (t, kvs) := by
  obtain ⟨rfl, h2⟩ := getDmE_inv h
  simp only [dicE, h2]
section
variable {X : Cx} {o e f : Expr} {go ge gf : GE} {pos apos cpos : Pos}
theorem ge_getE (hu : X.A.units + 65 < cLine) (ho : GJE X o go) (he : GJE X e ge) (m : M1 X o "get" apos e cpos := by exact ⟨rfl, rfl, rfl, rfl⟩) : GJE X (.Call (.Attribute o "get" apos) [e] [] cpos) (gGetE go ge) := ⟨fun B F0 wx tk => by
  refine PE.imp (pe_dget1E hu (ho.run B F0 wx tk) (he.run B F0 wx tk) m) fun σ H Q ⟨F, ι, ρ, G, s, hr, hp⟩ => ?_
  refine ⟨F, ι, ρ, G, s, hr, (Post.fst hp).imp fun x H1 ⟨F1, ι1, w, G1, e1, s1, r1, p1⟩ => ?_⟩
  by_cases c : (dicE w G1).isSome = true
  · rw [if_pos c] at p1
    obtain ⟨a, rfl, hd⟩ := isDE_of s1 c r1
    refine ⟨a, rfl, hd, F1, ι1, ρ, G1, s1, hr.mono e1, (Post.fst p1).imp fun y H2 ⟨F2, ι2, u, G2, e2, s2, r2, p2⟩ => ?_⟩
    split at p2
    · rename_i t kvs q
      split at p2
      · rename_i z q2
        obtain ⟨a', ea, h1⟩ := s2.dicE q (r1.mono e2)
        cases ea
        obtain ⟨vo, h2, h3⟩ := s2.findE h1 q2 r2
        exact ⟨vo, h2, p2 _ H2 (out_w s2 (h3.getD (by simp only [RpW, Rp])))⟩
      · exact p2.elim
    · exact p2.elim
  · rw [if_neg c] at p1; exact p1.elim⟩
theorem ge_get2E (hu : X.A.units + 65 < cLine) (ho : GJE X o go) (he : GJE X e ge) (hf : GJE X f gf) (m : M2 X o "get" apos e f cpos := by exact ⟨rfl, rfl, rfl, rfl⟩) : GJE X (.Call (.Attribute o "get" apos) [e, f] [] cpos) (gGet2E go ge gf) := ⟨fun B F0 wx tk => by
  refine PE.imp (pe_dget2E hu (ho.run B F0 wx tk) (he.run B F0 wx tk) (hf.run B F0 wx tk) m) fun σ H Q ⟨F, ι, ρ, G, s, hr, hp⟩ => ?_
  refine ⟨F, ι, ρ, G, s, hr, (Post.fst hp).imp fun x H1 ⟨F1, ι1, w, G1, e1, s1, r1, p1⟩ => ?_⟩
  by_cases c : (dicE w G1).isSome = true
  · rw [if_pos c] at p1
    obtain ⟨a, rfl, hd⟩ := isDE_of s1 c r1
    refine ⟨a, rfl, hd, F1, ι1, ρ, G1, s1, hr.mono e1, (Post.fst p1).imp fun y H2 ⟨F2, ι2, u, G2, e2, s2, r2, p2⟩ => ⟨F2, ι2, ρ, G2, s2, (hr.mono e1).mono e2, (Post.fst p2).imp fun z H3 ⟨F3, ι3, t, G3, e3, s3, r3, p3⟩ => ?_⟩⟩
    split at p3
    · rename_i t kvs q
      split at p3
      · rename_i z q2
        obtain ⟨a', ea, h1⟩ := s3.dicE q ((r1.mono e2).mono e3)
        cases ea
        obtain ⟨vo, h2, h3⟩ := s3.findE h1 q2 (r2.mono e3)
        exact ⟨vo, h2, p3 _ H3 (out_w s3 (h3.getD r3))⟩
      · exact p3.elim
    · exact p3.elim
  · rw [if_neg c] at p1; exact p1.elim⟩
theorem ge_setdE (hu : X.A.units + 65 < cLine) (ho : GJE X o go) (he : GJE X e ge) (hf : GJE X f gf) (m : M2 X o "setdefault" apos e f cpos := by exact ⟨rfl, rfl, rfl, rfl⟩) : GJE X (.Call (.Attribute o "setdefault" apos) [e, f] [] cpos) (gSetdE go ge gf) := ⟨fun B F0 wx tk => by
  refine PE.imp (pe_dsetdE hu (ho.run B F0 wx tk) (he.run B F0 wx tk) (hf.run B F0 wx tk) m) fun σ H Q ⟨F, ι, ρ, G, s, hr, hp⟩ => ?_
  refine ⟨F, ι, ρ, G, s, hr, (Post.fst hp).imp fun x H1 ⟨F1, ι1, w, G1, e1, s1, r1, p1⟩ => ?_⟩
  by_cases c : (dicE w G1).isSome = true
  · rw [if_pos c] at p1
    obtain ⟨a, rfl, hd⟩ := isDE_of s1 c r1
    refine ⟨a, rfl, hd, F1, ι1, ρ, G1, s1, hr.mono e1, (Post.fst p1).imp fun y H2 ⟨F2, ι2, u, G2, e2, s2, r2, p2⟩ => ⟨F2, ι2, ρ, G2, s2, (hr.mono e1).mono e2, (Post.fst p2).imp fun x3 H3 ⟨F3, ι3, xw, G3, e3, s3, r3, p3⟩ => ?_⟩⟩
    split at p3
    · rename_i i t kvs q
      have r1' := (r1.mono e2).mono e3
      obtain ⟨rfl, hj⟩ := getDmE_inv q
      obtain ⟨a', ea, h1⟩ := s3.dicE (getDmE_dicE q) r1'
      cases ea
      simp only [RpW] at r1'
      obtain ⟨hl, ea⟩ := r1'
      cases ea
      obtain ⟨ho1, hh1, hh2⟩ := s3.dicmE hj
      have ru := r2.mono e3
      split at p3
      · rename_i z q2
        by_cases cl : Nat.blt kvs.length 16777216 = true
        · rw [if_pos cl] at p3
          have hl2 : kvs.length < sizeLine := by rw [sizeLine_eq]; exact Nat.le_of_ble_eq_true cl
          cases u with
          | ref _ => cases q2
          | tup _ => cases q2
          | d x =>
            simp only [RpW] at ru
            cases t with
            | true =>
              obtain ⟨es, rfl, h3⟩ := hh2
              simp only [findE] at q2
              by_cases c3 : (nkD x).isSome = true
              · rw [if_pos c3] at q2
                obtain ⟨kk, hk⟩ := Option.isSome_iff_exists.mp c3
                obtain ⟨b, rfl⟩ := nk_ref hk ru
                obtain ⟨h4, h5⟩ := nkD_inv hk
                have lk := h3.look hk
                rw [Option.some.inj q2] at lk
                refine .inr ⟨es, kk, b, ⟨.inl (.inl hh1), h3.nv s3.fh⟩, by rw [hh1]; trivial, rfl, nv_of s3.fh h4 ru, h5, by rw [← h3.length]; exact hl2, fun v hv => ?_, fun hn => ?_⟩
                · rw [hv] at lk; exact p3 _ H3 (out_w s3 lk)
                · rw [hn] at lk; exact lk.elim
              · rw [if_neg c3] at q2; cases q2
            | false =>
              obtain ⟨es, rfl, h3⟩ := hh2
              simp only [findE] at q2
              by_cases c3 : (keyD x).isSome = true
              · rw [if_pos c3] at q2
                obtain ⟨kk, hk⟩ := Option.isSome_iff_exists.mp c3
                have ey := key_rp hk ru
                obtain ⟨l1, l2⟩ := h3.look hk
                obtain ⟨v, z1, z2⟩ := l1 z (Option.some.inj q2)
                refine .inl ⟨es, kk, hh1, ey, by rw [← h3.length]; exact hl2, fun v' hv => ?_, fun hn => ?_⟩
                · rw [z1] at hv; cases hv; exact p3 _ H3 (out_w s3 z2)
                · rw [z1] at hn; cases hn
              · rw [if_neg c3] at q2
                split at q2
                · cases q2
                · cases q2
        · rw [if_neg cl] at p3; exact p3.elim
      · rename_i q2
        split at p3
        · rename_i t' us q3
          obtain ⟨ob, g1, g2⟩ := s3.storeE hj q3 ru r3
          obtain ⟨vo, g3, g4⟩ := s3.findE h1 q2 ru
          unfold storeE at q3
          by_cases cl : Nat.blt kvs.length 16777216 = true
          · rw [if_pos cl] at q3
            have hl2 : kvs.length < sizeLine := by rw [sizeLine_eq]; exact Nat.le_of_ble_eq_true cl
            cases u with
            | ref _ => cases q2
            | tup _ => cases q2
            | d x =>
              simp only [RpW] at ru
              cases t with
              | true =>
                obtain ⟨es, rfl, h3⟩ := hh2
                simp only at q3
                simp only [findE] at q2
                by_cases c3 : (nkD x).isSome = true
                · rw [if_pos c3] at q2 q3
                  cases q3
                  obtain ⟨kk, hk⟩ := Option.isSome_iff_exists.mp c3
                  obtain ⟨b, rfl⟩ := nk_ref hk ru
                  obtain ⟨h4, h5⟩ := nkD_inv hk
                  have lk := h3.look hk
                  rw [Option.some.inj q2] at lk
                  refine .inr ⟨es, kk, b, ⟨.inl (.inl hh1), h3.nv s3.fh⟩, by rw [hh1]; trivial, rfl, nv_of s3.fh h4 ru, h5, by rw [← h3.length]; exact hl2, fun v hv => ?_, fun hn => ?_⟩
                  · rw [hv] at lk; exact lk.elim
                  · exact p3 _ _ (out_wrE s3 hj ⟨_, rfl, h3.put hk ru r3⟩ r3)
                · rw [if_neg c3] at q2; cases q2
              | false =>
                obtain ⟨es, rfl, h3⟩ := hh2
                simp only at q3
                simp only [findE] at q2
                by_cases c3 : (keyD x).isSome = true
                · rw [if_pos c3] at q2 q3
                  cases q3
                  obtain ⟨kk, hk⟩ := Option.isSome_iff_exists.mp c3
                  have ey := key_rp hk ru
                  obtain ⟨l1, l2⟩ := h3.look hk
                  refine .inl ⟨es, kk, hh1, ey, by rw [← h3.length]; exact hl2, fun v' hv => ?_, fun hn => ?_⟩
                  · rw [l2 (Option.some.inj q2)] at hv; cases hv
                  · exact p3 _ _ (out_wrE s3 hj ⟨_, rfl, h3.put hk r3⟩ r3)
                · rw [if_neg c3] at q2 q3
                  by_cases c2 : (kvs.isEmpty && (nkD x).isSome) = true
                  · rw [if_pos c2] at q3
                    cases q3
                    rw [Bool.and_eq_true] at c2
                    obtain ⟨kk, hk⟩ := Option.isSome_iff_exists.mp c2.2
                    obtain rfl : kvs = [] := List.isEmpty_iff.mp c2.1
                    simp only [RpWK] at h3
                    subst h3
                    obtain ⟨b, rfl⟩ := nk_ref hk ru
                    obtain ⟨h4, h5⟩ := nkD_inv hk
                    refine .inr ⟨[], kk, b, ⟨.inr ⟨rfl, .inl hh1⟩, fun e he => by cases he⟩, by rw [hh1]; trivial, rfl, nv_of s3.fh h4 ru, h5, hl2, (fun v hv => by cases hv), fun _ => ?_⟩
                    exact p3 _ _ (out_wrE s3 hj ⟨_, rfl, by simp only [RpWT]; exact ⟨kk, b, _, [], rfl, hk, ru, r3, rfl⟩⟩ r3)
                  · rw [if_neg c2] at q3; cases q3
          · rw [if_neg cl] at q3; cases q3
        · exact p3.elim
      · exact p3.elim
    · exact p3.elim
  · rw [if_neg c] at p1; exact p1.elim⟩
theorem ge_popE (hu : X.A.units + 65 < cLine) (ho : GJE X o go) (he : GJE X e ge) (m : M1 X o "pop" apos e cpos := by exact ⟨rfl, rfl, rfl, rfl⟩) : GJE X (.Call (.Attribute o "pop" apos) [e] [] cpos) (gPopE go ge) := ⟨fun B F0 wx tk => by
  refine PE.imp (pe_dpopE hu (ho.run B F0 wx tk) (he.run B F0 wx tk) m) fun σ H Q ⟨F, ι, ρ, G, s, hr, hp⟩ => ?_
  refine ⟨F, ι, ρ, G, s, hr, (Post.fst hp).imp fun x H1 ⟨F1, ι1, w, G1, e1, s1, r1, p1⟩ => ?_⟩
  by_cases c : (dicE w G1).isSome = true
  · rw [if_pos c] at p1
    obtain ⟨a, rfl, hd⟩ := isDE_of s1 c r1
    refine ⟨a, rfl, hd, F1, ι1, ρ, G1, s1, hr.mono e1, (Post.fst p1).imp fun y H2 ⟨F2, ι2, u, G2, e2, s2, r2, p2⟩ => ?_⟩
    split at p2
    · rename_i i t kvs q
      have r1' := r1.mono e2
      obtain ⟨rfl, hj⟩ := getDmE_inv q
      simp only [RpW] at r1'
      obtain ⟨hl, ea⟩ := r1'
      cases ea
      obtain ⟨ho1, hh1, hh2⟩ := s2.dicmE hj
      split at p2
      · rename_i z q2
        cases u with
        | ref _ => cases q2
        | tup _ => cases q2
        | d x =>
          simp only [RpW] at r2
          cases t with
          | true =>
            obtain ⟨es, rfl, h3⟩ := hh2
            simp only [findE] at q2
            by_cases c3 : (nkD x).isSome = true
            · rw [if_pos c3] at q2
              obtain ⟨kk, hk⟩ := Option.isSome_iff_exists.mp c3
              obtain ⟨b, rfl⟩ := nk_ref hk r2
              obtain ⟨h4, h5⟩ := nkD_inv hk
              have lk := h3.look hk
              rw [Option.some.inj q2] at lk
              cases l : valN es kk with
              | none => rw [l] at lk; exact lk.elim
              | some v =>
                rw [l] at lk
                exact .inr ⟨es, kk, b, v, ⟨.inl (.inl hh1), h3.nv s2.fh⟩, by rw [hh1]; trivial, rfl, nv_of s2.fh h4 r2, h5, l, p2 _ _ (out_wrE s2 hj ⟨_, rfl, h3.drop hk⟩ lk)⟩
            · rw [if_neg c3] at q2; cases q2
          | false =>
            obtain ⟨es, rfl, h3⟩ := hh2
            simp only [findE] at q2
            by_cases c3 : (keyD x).isSome = true
            · rw [if_pos c3] at q2
              obtain ⟨kk, hk⟩ := Option.isSome_iff_exists.mp c3
              have ey := key_rp hk r2
              obtain ⟨l1, l2⟩ := h3.look hk
              obtain ⟨v, z1, z2⟩ := l1 z (Option.some.inj q2)
              exact .inl ⟨es, kk, v, hh1, ey, z1, p2 _ _ (out_wrE s2 hj ⟨_, rfl, h3.drop hk⟩ z2)⟩
            · rw [if_neg c3] at q2
              split at q2
              · cases q2
              · cases q2
      · exact p2.elim
    · exact p2.elim
  · rw [if_neg c] at p1; exact p1.elim⟩
end
def rLenE (K : PySem.W.Frag) (w : World) : List V → Hp → VK → Prop := fun xs H Q => rLenD K xs H Q ∨ ∃ a es, xs = [.ref a] ∧ NR K w H a es ∧ Q (.int es.length) H
def fLenE : List W → Hg → Option (W × Hg)
  | [w], G => match dicE w G with
    | some (_, kvs) => some (.d (.int kvs.length), G)
    | none => fLen [w] G
  | _, _ => none
theorem call_lenE {X : Cx} : CallR X (.builtin "len") (rLenE X.K X.w) := by
  intro pins s σ H xs us Q I r h
  rcases h with h | ⟨a, es, rfl, hd, q⟩
  · exact call_lenD pins s σ H xs us Q I r h
  · obtain ⟨u, rfl, rx⟩ := vals1 r
    obtain rfl : u = Value.ref a := rx
    exact e_len I hd fun t s' I' => ⟨.int es.length, H, I', ⟨t, rfl⟩, q⟩
theorem cg_lenE {X : Cx} : CallG X (rLenE X.K X.w) fLenE := by
  intro C F H ι G ws xs z G' Q hK s r e hQ
  cases ws with
  | nil => cases e
  | cons w t =>
    cases t with
    | cons _ _ => cases e
    | nil =>
      simp only [fLenE] at e
      cases q : dicE w G with
      | none => rw [q] at e; exact .inl (.inl (cg_len C F H ι G [w] xs z G' Q hK s r e hQ))
      | some p =>
        obtain ⟨t, kvs⟩ := p
        rw [q] at e
        cases e
        obtain ⟨x, rfl, r1⟩ := r.inv1
        obtain ⟨a, rfl, h1⟩ := s.dicE q r1
        cases t with
        | false => obtain ⟨es, h2, h3⟩ := h1; exact .inl (.inr ⟨a, es, rfl, h2, hQ _ _ (out_flat s (by rw [h3.length]; exact rpI))⟩)
        | true =>
          obtain ⟨es, h2, h3⟩ := h1
          have nr : NR C.m.K C.m.w H a es := ⟨.inl h2, h3.nv s.fh⟩
          rw [hK] at nr
          exact .inr ⟨a, es, rfl, nr, hQ _ _ (out_flat s (by rw [h3.length]; exact rpI))⟩
/-! ### {k: v} -/
section
variable {X : Cx} {pins : List (Addr × Obj)} {σ : St} {H : Hp} {s : Shared} {a : Addr} {y v : V} {u r : Value} {A : Around} {E : Value → Shared → Prop}
theorem e_dictSet {H' : Hp} {Q : Unit → Shared → Prop} (hu : A.units + 65 < cLine) (I : L2.Inv X pins σ H s) (g : DP X.K X.w H a y v H') (hg : ∀ kvs, H a ≠ some (.dT kvs)) (ry : RelV y u) (rv : RelV v r) (h : ∀ s', L2.Inv X pins σ H' s' → Q () s') :
    wpAny (model X.prog X.w) A (dictSet a u r) Q E s := by
  rcases g with (⟨kvs, k, e, rfl, l, rfl⟩ | ⟨kvs, k, b, e, _⟩) | ⟨es, k, b, g, mu, rfl, hk, hd, hl, rfl⟩
  · obtain ⟨z, hd, vs, rel, dd⟩ := dk_of I.hok e
    have hz : vs.length ≤ sizeLine := by rw [← rel.length]; exact z
    have hl : (putK kvs k v).length ≤ sizeLine := by have := length_putK kvs k v; omega
    refine wpAny_dictSet_pairs (hsz := hz) (kV_is ry) dd fun h' dd' hs => h _ ?_
    have he : ∃ q, h'.get? a = some q := let ⟨q, _, _, hq, _⟩ := dd'; ⟨q, hq⟩
    exact d_write I (by rw [e]; exact True.intro) hs he (dk_new hl hd (rel.put k rv) dd')
  · exact absurd e (hg _)
  · obtain rfl : u = Value.ref b := ry
    obtain ⟨z, y, xs, kn, dd⟩ := g.ok I
    refine wpAny_dictSet_heap (hsz := by rw [← kn.length]; exact z) (show (nestedKind X.prog X.w).room A from by show A.units + 8 < cLine; omega) ⟨nv_is I hk rfl, hd⟩ dd fun h' dd' hs => h _ ?_
    exact nr_write I mu y (by have := putN_len (es := es) (k := k) (b := b) (v := v); omega) (kn.put k b rv) dd' hs
end
theorem pe_disp1E {X : Cx} {k v : Expr} {tk tv : TE} {pos : Pos} (hu : X.A.units + 65 < cLine) (hk : PE X k tk) (hv : PE X v tv) :
    PE X (.Dict [some k] [v] pos) (fun σ H Q => ∀ p, H p = none → tk σ (upd H p (.dK [])) fun y H1 => tv σ H1 fun z H2 => H2 p = some (.dK []) ∧ ∃ H3, DP X.K X.w H2 p y z H3 ∧ Q (.ref p) H3) := ⟨fun pins s σ H Q I q => by
  have hn := I.hok.fresh (Nat.le_refl s.heap.objs.size)
  have I1 := I.laid (a := s.heap.objs.size) (o := .dK []) (h' := s.heap.push { cls := .type "dict", data := .dict #[] }) (t' := s.toks) (fun _ _ q => Heap.get?_push_of_some _ q) (Nat.le_refl _) (dk_empty s.heap I.big)
  refine PySem.wpAny_Dict_any rfl rfl (by simp) (by simp) ?_
  refine pairTrees_cons_walk (thn (hk.run pins _ σ _ _ I1 (q _ hn)) fun u s1 ⟨y, H1, I2, ry, q1⟩ => thn (hv.run pins s1 σ H1 _ I2 q1) fun w2 s2 ⟨z, H2, I3, rz, hp, H3, g, q2⟩ => pairTrees_nil_walk ?_)
  show wpAny _ _ (PySem.storeAll s.heap.objs.size [(u, w2)]) _ _ s2
  unfold PySem.storeAll
  rw [List.forIn_cons]
  refine wpAny_bind (wpAny_bind (e_dictSet hu I3 g (fun kvs z => by rw [hp] at z; cases z) ry rz fun s' I' => wpAny_pure ?_))
  simp only [List.forIn_nil]
  exact wpAny_pure ⟨.ref s.heap.objs.size, H3, I', rfl, q2⟩⟩
def gDisp1 (k v : GE) : GE := fun ρ G => (k ρ (G ++ [.dic false []])).bind fun u G1 => (v ρ G1).bind fun x G2 => match G2[G.length]? with
  | some (.dic false []) => (match storeE false [] u x with
    | some (t, us) => .ok (.ref G.length) (G2.set G.length (.dic t us))
    | none => .stuck)
  | _ => .stuck
theorem ge_disp1 {X : Cx} {k v : Expr} {gk gv : GE} {pos : Pos} (hu : X.A.units + 65 < cLine) (hk : GJE X k gk) (hv : GJE X v gv) : GJE X (.Dict [some k] [v] pos) (gDisp1 gk gv) := ⟨fun B F0 wx tk => by
  refine PE.imp (pe_disp1E hu (hk.run B F0 wx tk) (hv.run B F0 wx tk)) fun σ H Q ⟨F, ι, ρ, G, s, he, hp⟩ p hpn => ?_
  obtain ⟨s0, e0⟩ := s.make (o := .dK []) (g := .dic false []) hpn fun ι' n' e => ⟨[], upd_same, by simp only [RpWK]⟩
  have hl0 : (G ++ [GO.dic false []]).length = G.length + 1 := by simp
  refine ⟨_, _, ρ, _, s0, he.mono e0, (Post.fst (hp.base e0)).imp fun y H1 ⟨F1, ι1, u, G1, e1, s1, r1, p1⟩ => ⟨F1, ι1, ρ, G1, s1, (he.mono e0).mono e1, (Post.fst p1).imp fun z H2 ⟨F2, ι2, x, G2, e2, s2, r2, p2⟩ => ?_⟩⟩
  split at p2
  · rename_i q
    obtain ⟨es, h1, h2⟩ := s2.dicm q
    simp only [RpWK] at h2
    subst h2
    have hι : ι2 G.length = p := by
      rw [e2.io _ (Nat.lt_of_lt_of_le (by rw [hl0]; omega) e1.le), e1.io _ (by rw [hl0]; omega), putI_same]
    split at p2
    · rename_i t us q3
      obtain ⟨ob, g1, g2⟩ := s2.storeE q q3 (r1.mono e2) r2
      rw [hι] at h1 g1 g2
      refine ⟨h1, _, g1, p2 _ _ ?_⟩
      have o1 := out_wrE (C := gc X B F0 wx) (w := .d .non) (v := .non) s2 q (by rw [hι]; exact g2) (by simp only [RpW, Rp])
      rw [hι] at o1
      obtain ⟨F', ι', e3, s3, _⟩ := o1
      refine ⟨F', ι', e3, s3, ?_⟩
      have hlt : G.length < G2.length := (List.getElem?_eq_some_iff.mp q).1
      simp only [RpW]
      exact ⟨by rw [List.length_set]; exact hlt, by rw [e3.io _ hlt, hι]⟩
    · exact p2.elim
  · exact p2.elim⟩
end Gh

set_option Elab.async false
set_option linter.all false
set_option maxRecDepth 100000
set_option maxHeartbeats 4000000
namespace Gh
open PySem PySem.Spec PyProof.Rows L2

/-! ### tuple(range(n)) -/
def gTupRg1 (a : GE) : GE := fun ρ G => (a ρ G).bind fun w G1 => match w with
  | .d (.int n) => if rgOk 0 n then .ok (.d (.tup (rgD 0 n))) G1 else .stuck
  | _ => .stuck
theorem ge_tupRg1 {X : Cx} {e : Expr} {ge : GE} {p p2 pos pos2 : Pos} (hm : X.mg "tuple" = none) (hm2 : X.mg "range" = none) (hc : X.calm = true) (he : GJE X e ge) (hg : Gl X "tuple" := by rfl) (hg2 : Gl X "range" := by rfl) (na : starEach [e] X.env = (false, eval e X.env) :: starEach [] X.env := by rfl)
    (nb : starEach [.Call (.Name "range" p2) [e] [] pos2] X.env = (false, eval (.Call (.Name "range" p2) [e] [] pos2) X.env) :: starEach [] X.env := by rfl) :
    GJE X (.Call (.Name "tuple" p) [.Call (.Name "range" p2) [e] [] pos2] [] pos) (gTupRg1 ge) := ⟨fun B F0 wx tk => by
  refine PE.imp (pe_tupRg hc hg hm (prg_1 hg2 hm2 (he.run B F0 wx tk) na) nb) fun σ H Q ⟨F, ι, ρ, G, s, hr, hp⟩ => ?_
  refine ⟨F, ι, ρ, G, s, hr, (Post.fst hp).imp fun x H1 ⟨F1, ι1, w, G1, e1, s1, r1, p1⟩ => ?_⟩
  split at p1
  · rename_i n
    simp only [RpW, Rp] at r1
    cases c : rgOk 0 n with
    | false => rw [c] at p1; exact p1.elim
    | true =>
      rw [c, if_pos rfl] at p1
      refine ⟨_, r1, rgOk_ok c, fun q hq => ?_⟩
      have r : RpL (gc X B F0 wx).m F1 (rgD 0 n) (rgV 0 n) := rpL_ints (fun i => 0 + (i : Int)) _
      obtain ⟨s', ee⟩ := s1.lay (o := .tup (rgV 0 n)) hq
      refine p1 _ _ ⟨_, _, ee, s', ?_⟩
      simp only [RpW, Rp]
      exact ⟨q, _, rfl, .inl (.inl upd_same), r.mono ee.fr⟩
  · exact p1.elim⟩
end Gh

set_option Elab.async false
set_option linter.all false
set_option maxRecDepth 100000
set_option maxHeartbeats 4000000
namespace Gh
open PySem PySem.Spec PyProof.Rows L2

/-! ### a, b = x, y; a, b, c = x, y, z with plain local names -/
theorem PostS.fstL {C : GC} {F : Hp} {ι : Nat → Addr} {n : Nat} {σ : L2.St} {ρ : GEnv} {D : Ends} {r : Res (List W)} {k : List W → Hg → SRes} (he : REnv C.m F ι n ρ σ) (h : PostS C F ι n (r.toS ρ k) D) :
    PostL C F ι n σ r fun v H1 => ∃ F1 ι1 w G1, Ext F ι n F1 ι1 G1.length ∧ Sim C F1 H1 ι1 G1 ∧ RpWL C.m F1 ι1 G1.length w v ∧ REnv C.m F1 ι1 G1.length ρ σ ∧ PostS C F1 ι1 G1.length (k w G1) D := by
  cases r with
  | stuck => exact h
  | exc x G' => exact fun cls d H' ⟨F', ι', a, b, c⟩ => h cls d σ H' F' ι' a b (he.mono a) c
  | ok w G' => exact fun v H' ⟨F1, ι1, e, s, rr⟩ => ⟨F1, ι1, w, G', e, s, rr, he.mono e, PostS.base e h⟩
def gPar2 (i j : Nat) (a : GEs) : GS := fun ρ G => (a ρ G).toS ρ fun ws G' => match ws with
  | [u, v] => .nx ((ρ.set i (some u)).set j (some v)) G'
  | _ => .stuck
def gPar3 (i j l : Nat) (a : GEs) : GS := fun ρ G => (a ρ G).toS ρ fun ws G' => match ws with
  | [u, v, w] => .nx (((ρ.set i (some u)).set j (some v)).set l (some w)) G'
  | _ => .stuck
section
variable {X : Cx}
theorem gs_par2 {i j : Nat} {x y : Str} {a b : Expr} {ga : GEs} {px py pt pos : Pos} {kt k2 pt2} (hN : X.N.Nodup) (ha : GJA X [a, b] ga) (hc : X.calm = true := by rfl) (hi : X.N[i]? = some x := by rfl) (hj : X.N[j]? = some y := by rfl) (hij : i ≠ j := by decide)
    (hx : X.env.scope.names.lookup x = some .local := by rfl) (hy : X.env.scope.names.lookup y = some .local := by rfl)
    (hw : swappedStores [.Tuple [.Name x px, .Name y py] kt pt] (.Tuple [a, b] k2 pt2) X.env = pure (some [x, y]) := by rfl)
    (hs : swapsWithSole [.Tuple [.Name x px, .Name y py] kt pt] (.Tuple [a, b] k2 pt2) pos.line X.env = pure false := by rfl) :
    GJS X (.Assign [.Tuple [.Name x px, .Name y py] kt pt] (.Tuple [a, b] k2 pt2) pos) (gPar2 i j ga) := ⟨fun B F0 wx tk => by
  refine PS.imp (ps_par hc hN hi hj hij hx hy (ha.run B F0 wx tk) hw hs) fun D σ H ⟨F, ι, ρ, G, s, he, hp⟩ => ?_
  refine ⟨F, ι, ρ, G, s, he, (PostS.fstL he hp).imp fun v H1 ⟨F1, ι1, w, G1, e1, s1, r1, he1, p1⟩ => ?_⟩
  split at p1
  · simp only [RpWL] at r1
    obtain ⟨v1, _, rfl, r1, v2, _, rfl, r2, rfl⟩ := r1
    exact ⟨v1, v2, rfl, p1 _ H1 ⟨F1, ι1, .refl, s1, (he1.set _ r1).set _ r2⟩⟩
  · exact p1.elim⟩
theorem gs_par3 {i j l : Nat} {x y z : Str} {a b c : Expr} {ga : GEs} {px py pz pt pos : Pos} {kt k2 pt2} (hN : X.N.Nodup) (ha : GJA X [a, b, c] ga) (hc : X.calm = true := by rfl) (hi : X.N[i]? = some x := by rfl) (hj : X.N[j]? = some y := by rfl) (hl : X.N[l]? = some z := by rfl) (hij : i ≠ j := by decide) (hil : i ≠ l := by decide) (hjl : j ≠ l := by decide)
    (hx : X.env.scope.names.lookup x = some .local := by rfl) (hy : X.env.scope.names.lookup y = some .local := by rfl) (hz : X.env.scope.names.lookup z = some .local := by rfl)
    (hw : swappedStores [.Tuple [.Name x px, .Name y py, .Name z pz] kt pt] (.Tuple [a, b, c] k2 pt2) X.env = pure (some [x, y, z]) := by rfl)
    (hs : swapsWithSole [.Tuple [.Name x px, .Name y py, .Name z pz] kt pt] (.Tuple [a, b, c] k2 pt2) pos.line X.env = pure false := by rfl) :
    GJS X (.Assign [.Tuple [.Name x px, .Name y py, .Name z pz] kt pt] (.Tuple [a, b, c] k2 pt2) pos) (gPar3 i j l ga) := ⟨fun B F0 wx tk => by
  refine PS.imp (ps_par3 hc hN hi hj hl hij hil hjl hx hy hz (ha.run B F0 wx tk) hw hs) fun D σ H ⟨F, ι, ρ, G, s, he, hp⟩ => ?_
  refine ⟨F, ι, ρ, G, s, he, (PostS.fstL he hp).imp fun v H1 ⟨F1, ι1, w, G1, e1, s1, r1, he1, p1⟩ => ?_⟩
  split at p1
  · simp only [RpWL] at r1
    obtain ⟨v1, _, rfl, r1, v2, _, rfl, r2, v3, _, rfl, r3, rfl⟩ := r1
    exact ⟨v1, v2, v3, rfl, p1 _ H1 ⟨F1, ι1, .refl, s1, ((he1.set _ r1).set _ r2).set _ r3⟩⟩
  · exact p1.elim⟩
end
end Gh

set_option Elab.async false
set_option linter.all false
set_option maxRecDepth 100000
set_option maxHeartbeats 4000000
namespace Gh
open PySem PySem.Spec PyProof.Rows L2

/-! ### list(zip(xs, ys)) -/
/-- a zip whose last tuple is kept by someone -/
abbrev IsZipB (h : Heap) (z TI TO T : Addr) (b : Bool) : Prop :=
  h.get? z = some { cls := .type "zip", dict := none, data := .fields #[rawInt T, .bool b, .bool false, .ref TI, .ref TO], slots := #[] }
section
variable {prog : Program} {w : World} {A : Around} {E : Value → Shared → Prop} {s : Shared}
theorem zipB_free {z TI TO T : Addr} {b : Bool} {oT : Obj} {Q : Bool → Shared → Prop} (hz : IsZipB s.heap z TI TO T b) (hT : s.heap.get? T = some oT)
    (h : ∀ h0, IsZipB h0 z TI TO T true → Heap.SameBut z s.heap h0 → Q false { s with heap := h0 }) : wpAny (model prog w) A (Builtin.SmallTypes.ownedTupleIsFree (.ref z)) Q E s := by
  unfold Builtin.SmallTypes.ownedTupleIsFree
  refine wpAny_bind (wpAny_field hz rfl (x := rawInt T) rfl ?_)
  show wpAny _ _ (loadIfAlive ((T : Int).toNat) >>= _) _ _ _
  rw [Int.toNat_natCast]
  refine wpAny_bind (alive_any ?_)
  rw [hT]
  show wpAny _ _ (if (Option.isNone (some oT)) = true then _ else _) _ _ _
  rw [if_neg (show ¬ (Option.isNone (some oT) = true) from Bool.false_ne_true)]
  refine wpAny_bind (wpAny_field hz rfl (x := .bool b) rfl ?_)
  cases b with
  | true =>
    rw [if_neg (show ¬ ((Value.bool true != Value.bool true) = true) by simp)]
    exact wpAny_pure (h s.heap hz (Heap.SameBut.refl _ _))
  | false =>
    rw [if_pos (show (Value.bool false != Value.bool true) = true by simp)]
    exact wpAny_bind (wpAny_setField_rec hz (by simp) fun h0 hz0 hs0 => wpAny_pure (h h0 hz0 hs0))
theorem zipB_next {z TI TO T i1 i2 l1 l2 : Addr} {b : Bool} {oT : Obj} {k1 k2 : Nat} {xs ys : Array Value} {x y : Value} {Q : Value → Shared → Prop} (D : ZipApart z TI TO i1 i2 l1 l2)
    (hz : IsZipB s.heap z TI TO T b) (hT : s.heap.get? T = some oT) (hTI : IsPair s.heap TI (.ref i1) (.ref i2))
    (h1 : s.heap.IsListIter i1 l1 k1) (h2 : s.heap.IsListIter i2 l2 k2) (hl1 : s.heap.IsList l1 xs) (hl2 : s.heap.IsList l2 ys) (hx : xs[k1]? = some x) (hy : ys[k2]? = some y)
    (hQ : ∀ h', IsZipB h' z TI TO T true → h'.IsListIter i1 l1 (k1 + 1) → h'.IsListIter i2 l2 (k2 + 1) → IsPair h' s.heap.objs.size x y →
      (∀ c o, c ≠ z → c ≠ i1 → c ≠ i2 → s.heap.get? c = some o → h'.get? c = some o) → Q (.ref s.heap.objs.size) { s with heap := h' }) :
    wpAny (model prog w) A (Builtin.«zip.__next__» ⟨[.ref z], []⟩) (fun fin s' => ∃ v, fin = .done (.ret v) ∧ Q v s') E s := by
  show wpAny _ _ (field (.ref z) 2 >>= _) _ _ _
  refine wpAny_bind (wpAny_field hz rfl (x := .bool false) rfl ?_)
  show wpAny _ _ (field (.ref z) 3 >>= _) _ _ _
  refine wpAny_bind (wpAny_field hz rfl (x := .ref TI) rfl ?_)
  refine wpAny_bind (wpAny_seqItems hTI rfl ?_)
  show wpAny _ _ (Builtin.SmallTypes.ownedTupleIsFree (.ref z) >>= _) _ _ _
  refine wpAny_bind (zipB_free hz hT fun h0 hz0 hs0 => ?_)
  rw [if_neg Bool.false_ne_true]
  simp only [← Array.forIn_toList, List.forIn_cons, List.forIn_nil]
  have hI1 : h0.IsListIter i1 l1 k1 := h1.extBut hs0.extBut D.i1z
  refine wpAny_bind (wpAny_bind (wpAny_bind (wpAny_holding ?_)))
  show wpAny _ _ (Builtin.SmallTypes.nextOf (.ref i1) >>= fun x => pure (some x)) _ _ _
  refine wpAny_bind (wpAny_nextOf_list_item hI1 (hl1.extBut hs0.extBut D.l1z) hx fun h₂ h1₂ hs₂ => wpAny_pure (wpAny_pure ?_))
  refine wpAny_bind (wpAny_bind (wpAny_holding ?_))
  show wpAny _ _ (Builtin.SmallTypes.nextOf (.ref i2) >>= fun x => pure (some x)) _ _ _
  refine wpAny_bind (wpAny_nextOf_list_item ((h2.extBut hs0.extBut D.i2z).extBut hs₂.extBut D.i12.symm) ((hl2.extBut hs0.extBut D.l2z).extBut hs₂.extBut D.l2i1) hy fun h₃ h2₃ hs₃ => wpAny_pure (wpAny_pure (wpAny_pure ?_)))
  refine wpAny_bind (wpAny_newTuple (hsz := by show 2 ≤ sizeLine; rw [sizeLine_eq]; decide) ?_)
  have hsz : h₃.objs.size = s.heap.objs.size := by rw [hs₃.1, hs₂.1, hs0.1]
  have hz₃ : IsZipB h₃ z TI TO T true := hs₃.extBut _ _ D.i2z.symm (hs₂.extBut _ _ D.i1z.symm hz0)
  have hk₃ : ∀ c o, c ≠ z → c ≠ i1 → c ≠ i2 → s.heap.get? c = some o → h₃.get? c = some o := fun c o c1 c2 c3 e => hs₃.extBut _ _ c3 (hs₂.extBut _ _ c2 (hs0.extBut _ _ c1 e))
  refine wpAny_pure ⟨_, rfl, ?_⟩
  show Q (.ref h₃.objs.size) _
  rw [hsz]
  exact hQ _ (Heap.get?_push_of_some _ hz₃) ((h1₂.extBut hs₃.extBut D.i12).at fun o e => Heap.get?_push_of_some _ e) (h2₃.at fun o e => Heap.get?_push_of_some _ e) (by rw [← hsz]; exact Heap.get?_push_size _ rfl) fun c o c1 c2 c3 e => Heap.get?_push_of_some _ (hk₃ c o c1 c2 c3 e)
theorem zipB_end {z TI TO T i1 i2 l1 l2 : Addr} {b : Bool} {oT : Obj} {k1 k2 : Nat} {xs ys : Array Value} {Q : Fin → Shared → Prop} (hh : A.handled = none) (D : ZipApart z TI TO i1 i2 l1 l2)
    (hz : IsZipB s.heap z TI TO T b) (hT : s.heap.get? T = some oT) (hTI : IsPair s.heap TI (.ref i1) (.ref i2))
    (h1 : s.heap.IsListIter i1 l1 k1) (h2 : s.heap.IsListIter i2 l2 k2) (hl1 : s.heap.IsList l1 xs) (hl2 : s.heap.IsList l2 ys) (hend : xs[k1]? = none ∨ ys[k2]? = none)
    (hE : ∀ h' e, (∀ c o, c ≠ z → c ≠ i1 → c ≠ i2 → s.heap.get? c = some o → h'.get? c = some o) → (∃ o, h'.get? e = some o ∧ o.cls = .type "StopIteration") → E (.ref e) { s with heap := h' }) :
    wpAny (model prog w) A (Builtin.«zip.__next__» ⟨[.ref z], []⟩) Q E s := by
  show wpAny _ _ (field (.ref z) 2 >>= _) _ _ _
  refine wpAny_bind (wpAny_field hz rfl (x := .bool false) rfl ?_)
  show wpAny _ _ (field (.ref z) 3 >>= _) _ _ _
  refine wpAny_bind (wpAny_field hz rfl (x := .ref TI) rfl ?_)
  refine wpAny_bind (wpAny_seqItems hTI rfl ?_)
  show wpAny _ _ (Builtin.SmallTypes.ownedTupleIsFree (.ref z) >>= _) _ _ _
  refine wpAny_bind (zipB_free hz hT fun h0 hz0 hs0 => ?_)
  rw [if_neg Bool.false_ne_true]
  simp only [← Array.forIn_toList, List.forIn_cons, List.forIn_nil]
  have hI1 : h0.IsListIter i1 l1 k1 := h1.extBut hs0.extBut D.i1z
  refine wpAny_bind (wpAny_bind (wpAny_bind (wpAny_holding ?_)))
  show wpAny _ _ (Builtin.SmallTypes.nextOf (.ref i1) >>= fun x => pure (some x)) _ _ _
  cases hx : xs[k1]? with
  | none =>
    refine wpAny_bind (wpAny_nextOf_list_end hh hI1 (hl1.extBut hs0.extBut D.l1z) hx fun h₂ e hs₂ he => ?_)
    exact hE h₂ e (fun c o c1 c2 _ x => hs₂ _ _ c2 (hs0.extBut _ _ c1 x)) he
  | some x =>
    have hy : ys[k2]? = none := by rcases hend with h | h; rw [hx] at h; cases h; exact h
    refine wpAny_bind (wpAny_nextOf_list_item hI1 (hl1.extBut hs0.extBut D.l1z) hx fun h₂ h1₂ hs₂ => wpAny_pure (wpAny_pure ?_))
    refine wpAny_bind (wpAny_bind (wpAny_holding ?_))
    show wpAny _ _ (Builtin.SmallTypes.nextOf (.ref i2) >>= fun x => pure (some x)) _ _ _
    refine wpAny_bind (wpAny_nextOf_list_end hh ((h2.extBut hs0.extBut D.i2z).extBut hs₂.extBut D.i12.symm) ((hl2.extBut hs0.extBut D.l2z).extBut hs₂.extBut D.l2i1) hy fun h₃ e hs₃ he => ?_)
    exact hE h₃ e (fun c o c1 c2 c3 x => hs₃ _ _ c3 (hs₂.extBut _ _ c2 (hs0.extBut _ _ c1 x))) he
theorem pyNext_zipB {z TI TO T i1 i2 l1 l2 : Addr} {b : Bool} {oT : Obj} {k1 k2 : Nat} {xs ys : Array Value} {x y : Value} {Q : Option Value → Shared → Prop} (D : ZipApart z TI TO i1 i2 l1 l2)
    (hz : IsZipB s.heap z TI TO T b) (hT : s.heap.get? T = some oT) (hTI : IsPair s.heap TI (.ref i1) (.ref i2))
    (h1 : s.heap.IsListIter i1 l1 k1) (h2 : s.heap.IsListIter i2 l2 k2) (hl1 : s.heap.IsList l1 xs) (hl2 : s.heap.IsList l2 ys) (hx : xs[k1]? = some x) (hy : ys[k2]? = some y)
    (hQ : ∀ h', IsZipB h' z TI TO T true → h'.IsListIter i1 l1 (k1 + 1) → h'.IsListIter i2 l2 (k2 + 1) → IsPair h' s.heap.objs.size x y →
      (∀ c o, c ≠ z → c ≠ i1 → c ≠ i2 → s.heap.get? c = some o → h'.get? c = some o) → Q (some (.ref s.heap.objs.size)) { s with heap := h' }) :
    wpAny (model prog w) A (pyNext (.ref z)) Q E s := by
  have hty : s.TypeIs (.ref z) "zip" := ⟨_, hz, rfl⟩
  unfold pyNext
  exact wpAny_bind (wpAny_attempt (wpAny_callSpecial?_slot (name := Str.ofString "__next__") hty F.slot_zip_next
    (wpAny_call_entry F.slot_zip_next hty F.entry_zip_next
      (zipB_next D hz hT hTI h1 h2 hl1 hl2 hx hy fun h' a1 a2 a3 a4 a5 => wpAny_pure (hQ h' a1 a2 a3 a4 a5)) (F.args_zip_next_1 _))))
theorem pyNext_zipB_end {z TI TO T i1 i2 l1 l2 : Addr} {b : Bool} {oT : Obj} {k1 k2 : Nat} {xs ys : Array Value} {Q : Option Value → Shared → Prop} (hh : A.handled = none) (D : ZipApart z TI TO i1 i2 l1 l2)
    (hz : IsZipB s.heap z TI TO T b) (hT : s.heap.get? T = some oT) (hTI : IsPair s.heap TI (.ref i1) (.ref i2))
    (h1 : s.heap.IsListIter i1 l1 k1) (h2 : s.heap.IsListIter i2 l2 k2) (hl1 : s.heap.IsList l1 xs) (hl2 : s.heap.IsList l2 ys) (hend : xs[k1]? = none ∨ ys[k2]? = none)
    (hQ : ∀ h', (∀ c o, c ≠ z → c ≠ i1 → c ≠ i2 → s.heap.get? c = some o → h'.get? c = some o) → Q none { s with heap := h' }) : wpAny (model prog w) A (pyNext (.ref z)) Q E s := by
  have hty : s.TypeIs (.ref z) "zip" := ⟨_, hz, rfl⟩
  unfold pyNext
  refine wpAny_bind (wpAny_attempt (wpAny_callSpecial?_slot (name := Str.ofString "__next__") hty F.slot_zip_next
    (wpAny_call_entry F.slot_zip_next hty F.entry_zip_next (zipB_end hh D hz hT hTI h1 h2 hl1 hl2 hend fun h' e hk he => ?_) (F.args_zip_next_1 _))))
  obtain ⟨o, ho, hc⟩ := he
  refine wpAny_bind (wpAny_isInstance (T := "StopIteration") (b := true) ⟨o, ho, hc⟩ isSubtype_stop ?_)
  exact wpAny_pure (hQ _ hk)
structure ZS (h : Heap) (z TI TO i1 i2 l1 l2 S n0 : Addr) (xs ys : Array Value) (Ts : List Addr) : Prop where
  st : (Ts = [] ∧ IsZip h z TI TO .none ∧ ∃ a b, IsPair h TO a b) ∨ ∃ T b oT, IsZipB h z TI TO T b ∧ h.get? T = some oT ∧ n0 ≤ T
  ti : IsPair h TI (.ref i1) (.ref i2)
  h1 : h.IsListIter i1 l1 Ts.length
  h2 : h.IsListIter i2 l2 Ts.length
  hl1 : h.IsList l1 xs
  hl2 : h.IsList l2 ys
  ps : ∀ (j : Nat) (T : Addr), Ts[j]? = some T → ∃ x y, xs[j]? = some x ∧ ys[j]? = some y ∧ IsPair h T x y
  nd : Ts.Nodup
  ge : ∀ T ∈ Ts, n0 ≤ T
structure ZLt (z TI TO i1 i2 l1 l2 S n0 : Addr) : Prop where
  D : ZipApart z TI TO i1 i2 l1 l2
  lz : z < n0
  lTI : TI < n0
  lTO : TO < n0
  li1 : i1 < n0
  li2 : i2 < n0
  ll1 : l1 < n0
  ll2 : l2 < n0
  lS : S < n0
  Sz : S ≠ z
  STI : S ≠ TI
  STO : S ≠ TO
  Si1 : S ≠ i1
  Si2 : S ≠ i2
  Sl1 : S ≠ l1
  Sl2 : S ≠ l2
section
variable {z TI TO i1 i2 l1 l2 S n0 : Addr} {xs ys : Array Value} {Ts : List Addr} {h h' : Heap}
/-- the list alone is changed -/
theorem ZS.list (L : ZLt z TI TO i1 i2 l1 l2 S n0) (q : ZS h z TI TO i1 i2 l1 l2 S n0 xs ys Ts) (k : ∀ b o, b ≠ S → h.get? b = some o → h'.get? b = some o) : ZS h' z TI TO i1 i2 l1 l2 S n0 xs ys Ts where
  st := by
    rcases q.st with ⟨a, b, x, y, c⟩ | ⟨T, b, oT, c, d, e⟩
    · exact .inl ⟨a, k _ _ L.Sz.symm b, x, y, k _ _ L.STO.symm c⟩
    · exact .inr ⟨T, b, oT, k _ _ L.Sz.symm c, k _ _ (Nat.ne_of_gt (Nat.lt_of_lt_of_le L.lS e)) d, e⟩
  ti := k _ _ L.STI.symm q.ti
  h1 := q.h1.at fun o e => k _ _ L.Si1.symm e
  h2 := q.h2.at fun o e => k _ _ L.Si2.symm e
  hl1 := by obtain ⟨o, e, r⟩ := q.hl1; exact ⟨o, k _ _ L.Sl1.symm e, r⟩
  hl2 := by obtain ⟨o, e, r⟩ := q.hl2; exact ⟨o, k _ _ L.Sl2.symm e, r⟩
  ps := fun j T e => by
    obtain ⟨x, y, a, b, c⟩ := q.ps j T e
    exact ⟨x, y, a, b, k _ _ (Nat.ne_of_gt (Nat.lt_of_lt_of_le L.lS (q.ge T (List.mem_of_getElem? e)))) c⟩
  nd := q.nd
  ge := q.ge
theorem ZS.snoc (L : ZLt z TI TO i1 i2 l1 l2 S n0) (q : ZS h z TI TO i1 i2 l1 l2 S n0 xs ys Ts) {T : Addr} {x y : Value} (hx : xs[Ts.length]? = some x) (hy : ys[Ts.length]? = some y) (hT : IsPair h' T x y) (hge : n0 ≤ T) (hlt : ∀ U ∈ Ts, U < T)
    (k : ∀ b o, b ≠ z → b ≠ TO → b ≠ i1 → b ≠ i2 → h.get? b = some o → h'.get? b = some o) (hst : ∃ T b oT, IsZipB h' z TI TO T b ∧ h'.get? T = some oT ∧ n0 ≤ T) (h1 : h'.IsListIter i1 l1 (Ts.length + 1)) (h2 : h'.IsListIter i2 l2 (Ts.length + 1)) :
    ZS h' z TI TO i1 i2 l1 l2 S n0 xs ys (Ts ++ [T]) where
  st := .inr hst
  ti := k _ _ L.D.TIz L.D.TITO L.D.TIi1 L.D.TIi2 q.ti
  h1 := by rw [List.length_append]; exact h1
  h2 := by rw [List.length_append]; exact h2
  hl1 := by obtain ⟨o, e, r⟩ := q.hl1; exact ⟨o, k _ _ L.D.l1z L.D.l1TO L.D.l1i1 L.D.l1i2 e, r⟩
  hl2 := by obtain ⟨o, e, r⟩ := q.hl2; exact ⟨o, k _ _ L.D.l2z L.D.l2TO L.D.l2i1 L.D.l2i2 e, r⟩
  ps := fun j U e => by
    by_cases c : j < Ts.length
    · rw [List.getElem?_append_left c] at e
      obtain ⟨x, y, a, b, d⟩ := q.ps j U e
      have g := q.ge U (List.mem_of_getElem? e)
      have ne : ∀ {v : Addr}, v < n0 → U ≠ v := fun hv => Nat.ne_of_gt (Nat.lt_of_lt_of_le hv g)
      exact ⟨x, y, a, b, k _ _ (ne L.lz) (ne L.lTO) (ne L.li1) (ne L.li2) d⟩
    · have hj : j = Ts.length := by
        have := (List.getElem?_eq_some_iff.mp e).1
        rw [List.length_append] at this
        simp only [List.length_cons, List.length_nil] at this
        omega
      subst hj
      rw [List.getElem?_append_right (Nat.le_refl _), Nat.sub_self] at e
      cases e
      exact ⟨x, y, hx, hy, hT⟩
  nd := by
    rw [List.nodup_append]
    refine ⟨q.nd, by simp, fun a ha b hb => ?_⟩
    simp only [List.mem_cons, List.not_mem_nil, or_false] at hb
    subst hb
    exact Nat.ne_of_lt (hlt a ha)
  ge := fun U hU => by
    rcases List.mem_append.mp hU with e | e
    · exact q.ge U e
    · simp only [List.mem_cons, List.not_mem_nil, or_false] at e; subst e; exact hge
end
theorem zip_loop {R : Result → Shared → Prop} {z TI TO i1 i2 l1 l2 S n0 : Addr} {xs ys : Array Value} (hh : A.handled = none) (L : ZLt z TI TO i1 i2 l1 l2 S n0) (res : Value) (hmin : min xs.size ys.size ≤ sizeLine) :
    ∀ (k : Nat) (s : Shared) (acc : Array Value) (c : Nat) (Ts : List Addr), min xs.size ys.size - Ts.length = k → Ts.length ≤ min xs.size ys.size → ZS s.heap z TI TO i1 i2 l1 l2 S n0 xs ys Ts → n0 ≤ s.heap.objs.size → (∀ T ∈ Ts, T < s.heap.objs.size) →
    s.heap.get? S = some { cls := .type "list", dict := none, data := .seq acc c, slots := #[] } → acc.toList = Ts.map Value.ref →
    (∀ (h' : Heap) (acc' : Array Value) (c' : Nat) (Ts' : List Addr), acc'.toList = Ts'.map Value.ref → h'.get? S = some { cls := .type "list", dict := none, data := .seq acc' c', slots := #[] } → Ts'.length = min xs.size ys.size → Ts'.Nodup → (∀ T ∈ Ts', n0 ≤ T) →
      (∀ (j : Nat) (T : Addr), Ts'[j]? = some T → ∃ x y, xs[j]? = some x ∧ ys[j]? = some y ∧ IsPair h' T x y) →
      (∀ b o, b < n0 → b ≠ S → b ≠ z → b ≠ TO → b ≠ i1 → b ≠ i2 → s.heap.get? b = some o → h'.get? b = some o) → R (.ok (.ret res)) { s with heap := h' }) →
    codeAny (model prog w) A (.builtin "list.extend.loop" ⟨[.ref S, .ref z, res], []⟩) R s := by
  intro k
  induction k with
  | zero =>
    intro s acc c Ts hk hi q hn hlt hS hacc hR
    refine codeAny_builtin F.entry_extend_loop ?_
    rw [Around.under_plainId F.plain_extend_loop _]
    show wpAny _ A.in1 (pyNext (.ref z) >>= _) _ _ s
    have hend : xs[Ts.length]? = none ∨ ys[Ts.length]? = none := by
      rcases Nat.le_total xs.size ys.size with c | c
      · exact .inl (by rw [Array.getElem?_eq_none_iff]; omega)
      · exact .inr (by rw [Array.getElem?_eq_none_iff]; omega)
    have fin : ∀ h' : Heap, (∀ c o, c ≠ z → c ≠ TO → c ≠ i1 → c ≠ i2 → s.heap.get? c = some o → h'.get? c = some o) → R (.ok (.ret res)) { s with heap := h' } := fun h' k => by
      refine hR h' acc c Ts hacc (k _ _ L.Sz L.STO L.Si1 L.Si2 hS) (by omega) q.nd q.ge (fun j T e => ?_) fun b o _ b1 b2 b3 b4 b5 e => k _ _ b2 b3 b4 b5 e
      obtain ⟨x, y, a, b, d⟩ := q.ps j T e
      have g := q.ge T (List.mem_of_getElem? e)
      have ne : ∀ {v : Addr}, v < n0 → T ≠ v := fun hv => Nat.ne_of_gt (Nat.lt_of_lt_of_le hv g)
      exact ⟨x, y, a, b, k _ _ (ne L.lz) (ne L.lTO) (ne L.li1) (ne L.li2) d⟩
    rcases q.st with ⟨_, b, x, y, c⟩ | ⟨T, b, oT, c, d, e⟩
    · exact wpAny_bind (wpAny_pyNext_zip_end (by exact hh) L.D b q.ti c q.h1 q.h2 q.hl1 q.hl2 hend fun h' k => wpAny_pure (fin h' k))
    · exact wpAny_bind (pyNext_zipB_end (by exact hh) L.D c d q.ti q.h1 q.h2 q.hl1 q.hl2 hend fun h' k => wpAny_pure (fin h' fun c o a1 _ a3 a4 e => k c o a1 a3 a4 e))
  | succ k ih =>
    intro s acc c Ts hk hi q hn hlt hS hacc hR
    refine codeAny_builtin F.entry_extend_loop ?_
    rw [Around.under_plainId F.plain_extend_loop _]
    show wpAny _ A.in1 (pyNext (.ref z) >>= _) _ _ s
    have hlen : Ts.length < min xs.size ys.size := by omega
    obtain ⟨x, hx⟩ : ∃ x, xs[Ts.length]? = some x := ⟨_, Array.getElem?_eq_getElem (by omega)⟩
    obtain ⟨y, hy⟩ : ∃ y, ys[Ts.length]? = some y := ⟨_, Array.getElem?_eq_getElem (by omega)⟩
    have accs : acc.size = Ts.length := by have := congrArg List.length hacc; simpa using this
    have next : ∀ h' : Heap, (∃ T b oT, IsZipB h' z TI TO T b ∧ h'.get? T = some oT ∧ n0 ≤ T) → h'.IsListIter i1 l1 (Ts.length + 1) → h'.IsListIter i2 l2 (Ts.length + 1) → IsPair h' s.heap.objs.size x y →
        (∀ c o, c ≠ z → c ≠ TO → c ≠ i1 → c ≠ i2 → s.heap.get? c = some o → h'.get? c = some o) → wpAny (model prog w) A.in1 (updateSeq S (·.push (.ref s.heap.objs.size)) >>= fun _ => again (.builtin "list.extend.loop" ⟨[.ref S, .ref z, res], []⟩))
          (fun fin s' => match fin with | .done f => R (.ok f) s' | .again c' => c'.quiet = true ∧ codeAny (model prog w) A c' R s') (fun e s' => R (.error e) s') { s with heap := h' } := fun h' hst g1 g2 hT k => by
      have hS' := k _ _ L.Sz L.STO L.Si1 L.Si2 hS
      have q' := q.snoc L hx hy hT hn hlt k hst g1 g2
      have hle : s.heap.objs.size < h'.objs.size := Heap.lt_size hT
      refine wpAny_bind ?_
      refine wpAny_updateSeq hS' rfl (wpAny_pure ⟨plainId_quiet F.plain_extend_loop _, ih _ (acc.push (.ref s.heap.objs.size)) _ (Ts ++ [s.heap.objs.size]) (by rw [List.length_append]; simp only [List.length_cons, List.length_nil]; omega) (by rw [List.length_append]; simp only [List.length_cons, List.length_nil]; omega)
        (q'.list L fun b o hb e => (Heap.get?_update_other _ _ (Ne.symm hb)).trans e) ?_ ?_ (Heap.get?_update_self _ hS' rfl) (by rw [Array.toList_push, hacc, List.map_append]; rfl) fun h'' acc' c' Ts' a1 a2 a3 a4 a5 a6 a7 => hR h'' acc' c' Ts' a1 a2 a3 a4 a5 a6 fun b o b0 b1 b2 b3 b4 b5 e => a7 b o b0 b1 b2 b3 b4 b5 ((Heap.get?_update_other _ _ (Ne.symm b1)).trans (k _ _ b2 b3 b4 b5 e))⟩)
        (by rw [accs]; omega) (by show (acc.push _).size ≤ sizeLine + 1; rw [Array.size_push, accs]; omega)
      · show n0 ≤ (h'.update S _).objs.size
        rw [Heap.size_update]
        exact Nat.le_trans hn (Nat.le_of_lt hle)
      · intro T hT'
        show T < (h'.update S _).objs.size
        rw [Heap.size_update]
        rcases List.mem_append.mp hT' with e | e
        · exact Nat.lt_trans (hlt T e) hle
        · simp only [List.mem_cons, List.not_mem_nil, or_false] at e; rw [e]; exact hle
    rcases q.st with ⟨_, b, a1, a2, c⟩ | ⟨T, b, oT, c, d, e⟩
    · exact wpAny_bind (wpAny_pyNext_zip_item L.D b q.ti c q.h1 q.h2 q.hl1 q.hl2 hx hy fun h' e1 e2 e3 e4 e5 e6 e7 => next h' ⟨_, false, _, e1, e5, hn⟩ e3 e4 e5 e7)
    · refine wpAny_bind (pyNext_zipB L.D c d q.ti q.h1 q.h2 q.hl1 q.hl2 hx hy fun h' e1 e3 e4 e5 e7 => next h' ⟨T, true, oT, e1, e7 _ _ (Nat.ne_of_gt (Nat.lt_of_lt_of_le L.lz e)) (Nat.ne_of_gt (Nat.lt_of_lt_of_le L.li1 e)) (Nat.ne_of_gt (Nat.lt_of_lt_of_le L.li2 e)) d, e⟩ e3 e4 e5 fun c o c1 _ c3 c4 q => e7 c o c1 c3 c4 q)
end
end Gh

set_option Elab.async false
set_option linter.all false
set_option maxRecDepth 100000
set_option maxHeartbeats 4000000
namespace Gh
open PySem PySem.Spec PyProof.Rows L2
theorem zip_no_len : typeLookup (.type "zip") "__len__" = pure none := by rw [typeLookup_type, builtinLookup_eq_fast]; kernel_rfl
theorem zip_no_hint : typeLookup (.type "zip") "__length_hint__" = pure none := by rw [typeLookup_type, builtinLookup_eq_fast]; kernel_rfl
/-- what the list holds at the end -/
structure ZDone (h' : Heap) (S n0 : Addr) (xs ys : Array Value) (acc : Array Value) (c : Nat) (Ts : List Addr) : Prop where
  ha : acc.toList = Ts.map Value.ref
  hS : h'.get? S = some { cls := .type "list", dict := none, data := .seq acc c, slots := #[] }
  len : Ts.length = min xs.size ys.size
  nd : Ts.Nodup
  ge : ∀ T ∈ Ts, n0 ≤ T
  ps : ∀ (j : Nat) (T : Addr), Ts[j]? = some T → ∃ x y, xs[j]? = some x ∧ ys[j]? = some y ∧ IsPair h' T x y
section
variable {prog : Program} {w : World} {A : Around} {E : Value → Shared → Prop} {s : Shared} {z TI TO i1 i2 l1 l2 : Addr} {xs ys : Array Value}
theorem zip_extend {R : Result → Shared → Prop} {S : Addr} (hh : A.handled = none) (L : ZLt z TI TO i1 i2 l1 l2 S s.heap.objs.size) (res : Value) (c₀ : Nat) (hmin : min xs.size ys.size ≤ sizeLine) (hS : s.heap.get? S = some { cls := .type "list", data := .seq #[] c₀ })
    (q : ZS s.heap z TI TO i1 i2 l1 l2 S s.heap.objs.size xs ys [])
    (hR : ∀ (h' : Heap) (acc' : Array Value) (c' : Nat) (Ts' : List Addr), ZDone h' S s.heap.objs.size xs ys acc' c' Ts' → (∀ b o, b < s.heap.objs.size → b ≠ S → b ≠ z → b ≠ TO → b ≠ i1 → b ≠ i2 → s.heap.get? b = some o → h'.get? b = some o) → R (.ok (.ret res)) { s with heap := h' }) :
    wpAny (model prog w) A.in1 (Builtin.List.listExtendWith (.ref S) (.ref z) res)
      (fun fin s' => match fin with | .done f => R (.ok f) s' | .again c' => c'.quiet = true ∧ codeAny (model prog w) A c' R s') (fun e s' => R (.error e) s') s := by
  obtain ⟨f0, hz⟩ : ∃ f0, IsZip s.heap z TI TO f0 := by
    rcases q.st with ⟨_, a, _⟩ | ⟨T, b, oT, a, d, e⟩
    · exact ⟨_, a⟩
    · exact absurd (Heap.lt_size d) (Nat.not_lt.mpr e)
  have hty : s.TypeIs (.ref z) "zip" := ⟨_, hz, rfl⟩
  unfold Builtin.List.listExtendWith
  refine wpAny_bind (wpAny_typeOf (T := "zip") hty ?_)
  have h1 : Builtin.List.listSameRef (.ref S) (.ref z) = false := by simp [Builtin.List.listSameRef, L.Sz]
  have h2 : (Value.type "zip" == Value.type "list") = false := by decide
  have h3 : (Value.type "zip" == Value.type "tuple") = false := by decide
  simp only [h1, h2, h3, Bool.or_false, Bool.false_eq_true, if_false]
  refine wpAny_bind (wpAny_pyIter_zip hz ?_)
  refine wpAny_bind (wpAny_holding ?_)
  unfold Builtin.List.listLengthHint
  refine wpAny_bind (wpAny_specialOf hty zip_no_len ?_)
  show wpAny _ A.in1 (specialOf (Value.ref z) (Str.ofString "__length_hint__") >>= _) _ _ _
  refine wpAny_bind (wpAny_specialOf hty zip_no_hint ?_)
  refine wpAny_pure ?_
  show wpAny _ A.in1 (rule "list.extend.makes-room" >>= fun _ => Builtin.List.listTouch (.ref S) >>= fun _ =>
    again (.builtin "list.extend.loop" ⟨[.ref S, .ref z, res], []⟩)) _ _ _
  refine wpAny_bind (wpAny_rule ?_)
  refine wpAny_bind ?_
  show wpAny _ A.in1 (updateSeq S (·.push .none) >>= fun _ => updateSeq S (·.pop)) _ _ _
  refine wpAny_bind (wpAny_updateSeq hS rfl ?_)
  have hS₂ := Heap.get?_update_self (Obj.mapSeq (·.push Value.none)) hS rfl
  refine wpAny_updateSeq (hz := by seq_fits) hS₂ rfl ?_
  have hS₃ := Heap.get?_update_self (Obj.mapSeq (·.pop)) hS₂ rfl
  have oth : ∀ b o, b ≠ S → s.heap.get? b = some o → ((s.heap.update S (Obj.mapSeq (·.push Value.none))).update S (Obj.mapSeq (·.pop))).get? b = some o :=
    fun b o hb e => (Heap.get?_update_other _ _ (Ne.symm hb)).trans ((Heap.get?_update_other _ _ (Ne.symm hb)).trans e)
  refine wpAny_pure ⟨plainId_quiet F.plain_extend_loop _, zip_loop hh L res hmin _ _ _ _ [] rfl (Nat.zero_le _) (q.list L oth) ?_ (fun T hT => by cases hT) hS₃ rfl fun h' acc' c' Ts' a1 a2 a3 a4 a5 a6 a7 => hR h' acc' c' Ts' ⟨a1, a2, a3, a4, a5, a6⟩ fun b o b0 b1 b2 b3 b4 b5 e => a7 b o b0 b1 b2 b3 b4 b5 (oth b o b1 e)⟩
  show s.heap.objs.size ≤ ((s.heap.update S _).update S _).objs.size
  rw [Heap.size_update, Heap.size_update]
  exact Nat.le_refl _
theorem call_list_zip {Q : Value → Shared → Prop} (hh : A.handled = none) (L : ZLt z TI TO i1 i2 l1 l2 s.heap.objs.size (s.heap.objs.size + 1)) (hmin : min xs.size ys.size ≤ sizeLine)
    (hz : IsZip s.heap z TI TO .none) (hTI : IsPair s.heap TI (.ref i1) (.ref i2)) {a b : Value} (hTO : IsPair s.heap TO a b) (h1 : s.heap.IsListIter i1 l1 0) (h2 : s.heap.IsListIter i2 l2 0) (hl1 : s.heap.IsList l1 xs) (hl2 : s.heap.IsList l2 ys)
    (hQ : ∀ (h' : Heap) (acc' : Array Value) (c' : Nat) (Ts' : List Addr), ZDone h' s.heap.objs.size (s.heap.objs.size + 1) xs ys acc' c' Ts' → (∀ b o, b ≠ z → b ≠ TO → b ≠ i1 → b ≠ i2 → s.heap.get? b = some o → h'.get? b = some o) → Q (.ref s.heap.objs.size) { s with heap := h' }) :
    wpAny (model prog w) A (call (.type "list") [.ref z]) Q E s := by
  refine callType_codes (Q₁ := fun obj s₁ => obj = .ref s.heap.objs.size ∧ s₁ = { s with heap := s.heap.push { cls := .type "list", data := .seq #[] } }) PySem.F.called_list (PySem.F.typeCall_list_1 _) PySem.F.entry_list_init
    (code_list_new _ ⟨rfl, rfl⟩) fun obj s₁ h₁ => ?_
  obtain ⟨rfl, rfl⟩ := h₁
  have hS : (s.heap.push { cls := .type "list", data := .seq #[] }).get? s.heap.objs.size = some { cls := .type "list", data := .seq #[] } := Heap.get?_push_size _ rfl
  have up : ∀ b o, s.heap.get? b = some o → (s.heap.push { cls := .type "list", data := .seq #[] }).get? b = some o := fun b o e => Heap.get?_push_of_some _ e
  refine ⟨⟨_, hS, rfl⟩, PySem.F.args_list_init_2 _ _, ?_⟩
  show wpAny _ _ (do let old ← Builtin.List.listItems (.ref s.heap.objs.size); Builtin.List.listUpdate (.ref s.heap.objs.size) (fun _ => #[]); letGo old.toList.reverse; Builtin.List.listExtendWith (.ref s.heap.objs.size) (.ref z) .none) _ _ _
  refine wpAny_bind ?_
  unfold Builtin.List.listItems
  refine wpAny_bind (wpAny_seqItems hS rfl (wpAny_pure ?_))
  show wpAny _ _ (updateSeq s.heap.objs.size (fun _ => #[]) >>= fun _ => letGo (#[] : Array Value).toList.reverse >>= fun _ => Builtin.List.listExtendWith (.ref s.heap.objs.size) (.ref z) .none) _ _ _
  refine wpAny_bind (wpAny_updateSeq hS rfl ?_)
  have hS₂ := Heap.get?_update_self (Obj.mapSeq (fun _ => (#[] : Array Value))) hS rfl
  have oth : ∀ b o, b ≠ s.heap.objs.size → s.heap.get? b = some o → ((s.heap.push { cls := .type "list", data := .seq #[] }).update s.heap.objs.size (Obj.mapSeq (fun _ => (#[] : Array Value)))).get? b = some o :=
    fun b o hb e => (Heap.get?_update_other _ _ (Ne.symm hb)).trans (up b o e)
  refine wpAny_bind (wpAny_letGo ?_)
  have sz : ((s.heap.push { cls := .type "list", data := .seq #[] }).update s.heap.objs.size (Obj.mapSeq (fun _ => (#[] : Array Value)))).objs.size = s.heap.objs.size + 1 := by rw [Heap.size_update, Heap.size_push]
  have q0 : ZS s.heap z TI TO i1 i2 l1 l2 s.heap.objs.size (s.heap.objs.size + 1) xs ys [] := ⟨.inl ⟨rfl, hz, a, b, hTO⟩, hTI, h1, h2, hl1, hl2, fun j T e => by simp at e, List.nodup_nil, fun T hT => by cases hT⟩
  have q1 := q0.list L oth
  rw [← sz] at L q1
  refine zip_extend (A := A.in1) (prog := prog) (w := w) (R := wants (fun r s₂ => r = Value.none ∧ Q (.ref s.heap.objs.size) s₂) E) (s := ({ s with heap := (s.heap.push { cls := .type "list", data := .seq #[] }).update s.heap.objs.size (Obj.mapSeq (fun _ => (#[] : Array Value))) } : Shared)) (S := s.heap.objs.size) (by exact hh) L .none _ hmin hS₂ q1 fun h' acc' c' Ts' dn k => ?_
  rw [show ({ s with heap := (s.heap.push { cls := .type "list", data := .seq #[] }).update s.heap.objs.size (Obj.mapSeq (fun _ => (#[] : Array Value))) } : Shared).heap.objs.size = s.heap.objs.size + 1 from sz] at dn k
  refine ⟨rfl, hQ h' acc' c' Ts' dn fun b o b1 b2 b3 b4 e => ?_⟩
  have lt := Heap.lt_size e
  exact k b o (Nat.lt_succ_of_lt lt) (Nat.ne_of_lt lt) b1 b2 b3 b4 (oth b o (Nat.ne_of_lt lt) e)
end
end Gh

set_option Elab.async false
set_option linter.all false
set_option maxRecDepth 100000
set_option maxHeartbeats 4000000
namespace Gh
open PySem PySem.Spec PyProof.Rows L2
/-- several new objects are tracked at once -/
theorem Inv.news {X : Cx} {pins : List (Addr × Obj)} {σ : L2.St} {H H' : Hp} {s : Shared} {h' : Heap} {t' : Nat} (I : L2.Inv X pins σ H s) (k : ∀ b u, s.heap.get? b = some u → h'.get? b = some u)
    (old : ∀ b, b < s.heap.objs.size → H' b = H b) (new : ∀ b o, s.heap.objs.size ≤ b → H' b = some o → ObjOk X.prog X.w H' h' b o) : L2.Inv X pins σ H' { s with heap := h', toks := t' } := by
  have tr : ∀ b o, H b = some o → H' b = some o := fun b o e => by rw [old b (I.hok.lt e)]; exact e
  refine I.un ⟨fun b o q _ _ _ => k b o q, fun b o q _ _ _ => ⟨o.slots, k b o q⟩, fun b o q n _ => by rw [old b (Heap.lt_size q)]; exact n, fun b o q _ => ⟨o, k b o q⟩, fun b xs e => tr _ _ e, fun b o u e => tr _ _ e, fun b ps e => ⟨#[], by rw [Array.append_empty]; exact tr _ _ e⟩⟩ fun b o e => ?_
  rcases Nat.lt_or_ge b s.heap.objs.size with c | c
  · rw [old b c] at e
    exact (I.hok b o e).stay (fun b u _ q => k b u q) (fun b q => tr _ _ q) fun b xs q => tr _ _ q
  · exact new b o c e
def lays (H : Hp) : List Addr → List (V × V) → Hp
  | T :: Ts, p :: ps => lays (upd H T (.tup [p.1, p.2])) Ts ps
  | _, _ => H
theorem lays_ne {b : Addr} : ∀ {Ts : List Addr} {ps : List (V × V)} {H : Hp}, b ∉ Ts → lays H Ts ps b = H b
  | [], _, _, _ => by simp only [lays]
  | _ :: _, [], _, _ => by simp only [lays]
  | T :: Ts, p :: ps, H, h => by
    simp only [List.mem_cons, not_or] at h
    simp only [lays]
    rw [lays_ne h.2, upd_ne h.1]
theorem lays_at : ∀ {Ts : List Addr} {ps : List (V × V)} {H : Hp} {j : Nat} {T : Addr} {p : V × V}, Ts.Nodup → Ts[j]? = some T → ps[j]? = some p → lays H Ts ps T = some (.tup [p.1, p.2])
  | [], _, _, _, _, _, _, h, _ => by simp at h
  | _ :: _, [], _, _, _, _, _, _, h => by simp at h
  | U :: Ts, q :: ps, H, 0, T, p, nd, h, k => by
    simp only [List.getElem?_cons_zero, Option.some.injEq] at h k
    subst h k
    simp only [lays]
    rw [lays_ne (List.nodup_cons.mp nd).1, upd_same]
  | U :: Ts, q :: ps, H, j + 1, T, p, nd, h, k => by
    simp only [List.getElem?_cons_succ] at h k
    simp only [lays]
    exact lays_at (List.nodup_cons.mp nd).2 h k
def tLstZip (K : PySem.W.Frag) (ta : TA) : TE := fun σ H Q => ta σ H fun vs H1 => ∃ a b xs ys, vs = [.ref a, .ref b] ∧ SqL K H1 a xs ∧ SqL K H1 b ys ∧
  ∀ (Ts : List Addr) (S : Addr), Ts.length = (xs.zip ys).length → Ts.Nodup → S ∉ Ts → (∀ T ∈ Ts, H1 T = none) → H1 S = none → Q (.ref S) (upd (lays H1 Ts (xs.zip ys)) S (.lst (Ts.map V.ref)))
theorem vals_refs' : ∀ bs : List Addr, Vals (bs.map V.ref) (bs.map Value.ref)
  | [] => .nil
  | _ :: bs => .cons rfl (vals_refs' bs)
theorem vals_at {xs : List V} {us : List Value} (r : Vals xs us) {j : Nat} {u : Value} (h : us[j]? = some u) : ∃ x, xs[j]? = some x ∧ RelV x u := by
  induction r generalizing j with
  | nil => simp at h
  | @cons x u' xs us hr t ih =>
    cases j with
    | zero => simp only [List.getElem?_cons_zero, Option.some.injEq] at h; subst h; exact ⟨x, rfl, hr⟩
    | succ j => simp only [List.getElem?_cons_succ] at h ⊢; exact ih h
theorem pe_listZip {X : Cx} {e f : Expr} {ta : TA} {p p2 pos pos2 : Pos} (hc : X.calm = true) (hg : Gl X "list") (hm : X.mg "list" = none) (hg2 : Gl X "zip") (hm2 : X.mg "zip" = none) (ha : PA X [e, f] ta)
    (hs : starEach [e, f] X.env = (false, eval e X.env) :: starEach [f] X.env := by rfl) (hpl : (backTo pos2 (starEach [f] X.env)).any (·.1) = false := by rfl)
    (na : starEach [.Call (.Name "zip" p2) [e, f] [] pos2] X.env = (false, eval (.Call (.Name "zip" p2) [e, f] [] pos2) X.env) :: starEach [] X.env := by rfl) :
    PE X (.Call (.Name "list" p) [.Call (.Name "zip" p2) [e, f] [] pos2] [] pos) (tLstZip X.K ta) := by
  refine ⟨fun pins s σ H Q I h => ?_⟩
  have inner : wpAny (model X.prog X.w) X.A (eval (.Call (.Name "zip" p2) [e, f] [] pos2) X.env) (fun v s2 => ∃ (s1 : Shared) (h2 : Heap) (H1 : Hp) (a b : Addr) (xs ys : List V) (its its2 : List Value) (n : Nat), s2 = { s1 with heap := h2 } ∧ n = s1.heap.objs.size ∧ L2.Inv X pins σ H1 s1 ∧ v = .ref (n + 4) ∧
      IsZip h2 (n + 4) (n + 2) (n + 3) .none ∧ IsPair h2 (n + 2) (.ref n) (.ref (n + 1)) ∧ IsPair h2 (n + 3) .none .none ∧ h2.IsListIter n a 0 ∧ h2.IsListIter (n + 1) b 0 ∧ h2.objs.size = n + 5 ∧ (∀ c o, s1.heap.get? c = some o → h2.get? c = some o) ∧
      Vals xs its ∧ Vals ys its2 ∧ h2.IsList a its.toArray ∧ h2.IsList b its2.toArray ∧ a < n ∧ b < n ∧ xs.length ≤ sizeLine ∧
      ∀ (Ts : List Addr) (S : Addr), Ts.length = (xs.zip ys).length → Ts.Nodup → S ∉ Ts → (∀ T ∈ Ts, H1 T = none) → H1 S = none → Q (.ref S) (upd (lays H1 Ts (xs.zip ys)) S (.lst (Ts.map V.ref)))) X.xe s := by
    refine Call_ (ld_blt I hg2 hm2 PyProof.Rows.boot_zip (PyProof.Rows.callWith_type1 (thn (ha.run pos2 pins s σ H _ I h) fun us s1 ⟨vs, H1, I1, r1, q1⟩ => ?_) hs hpl))
    obtain ⟨a, b, xs, ys, ex, hqx, hqy, q⟩ := q1
    subst ex
    cases r1 with
    | cons r rr =>
      cases rr with
      | cons r' rr =>
        cases rr
        cases r
        cases r'
        obtain ⟨its, rv, p1, hzx⟩ := I1.list hqx
        obtain ⟨its2, rv2, p2, _⟩ := I1.list hqy
        refine call_zip_2 p1.isList p2.isList fun h' hz hTI hTO h1 h2 hsz hk => ⟨s1, h', H1, a, b, xs, ys, its, its2, s1.heap.objs.size, rfl, rfl, I1, rfl, hz, hTI, hTO, h1, h2, hsz, hk, rv, rv2, ?_, ?_, p1.lt, p2.lt, hzx, q⟩
        · obtain ⟨o, e, r⟩ := p1.isList; exact ⟨o, hk _ _ e, r⟩
        · obtain ⟨o, e, r⟩ := p2.isList; exact ⟨o, hk _ _ e, r⟩
  refine Call_ (ld_blt I hg hm boot_list (PyProof.Rows.callWith_type1 (args_cons (thn inner fun x s2 hx => args_nil ?_) na) na))
  obtain ⟨s1, h2, H1, a, b, xs, ys, its, its2, n, rfl, hn, I1, rfl, hz, hTI, hTO, hi1, hi2, hsz, hk, rv, rv2, hl1, hl2, la, lb, hzx, q⟩ := hx
  have lx := rv.length
  have ly := rv2.length
  have L : ZLt (n + 4) (n + 2) (n + 3) n (n + 1) a b h2.objs.size (h2.objs.size + 1) := by
    rw [hsz]
    have la' : (a : Nat) < n := la
    have lb' : (b : Nat) < n := lb
    exact ⟨PySem.W.ktu_apart n a b la lb, show n + 4 < n + 5 + 1 by omega, show n + 2 < n + 5 + 1 by omega, show n + 3 < n + 5 + 1 by omega, show n < n + 5 + 1 by omega, show n + 1 < n + 5 + 1 by omega, Nat.lt_trans la' (by omega), Nat.lt_trans lb' (by omega), show n + 5 < n + 5 + 1 by omega,
      show n + 5 ≠ n + 4 by omega, show n + 5 ≠ n + 2 by omega, show n + 5 ≠ n + 3 by omega, show n + 5 ≠ n by omega, show n + 5 ≠ n + 1 by omega, Nat.ne_of_gt (Nat.lt_trans la' (by omega)), Nat.ne_of_gt (Nat.lt_trans lb' (by omega))⟩
  refine call_list_zip (s := ({ s1 with heap := h2 } : Shared)) (I1.ok.hd hc) L (by rw [List.size_toArray, ← lx]; omega) hz hTI hTO hi1 hi2 hl1 hl2 fun h' acc' c' Ts dn kk => ?_
  have hn5 : s1.heap.objs.size ≤ h2.objs.size := by rw [hsz, hn]; exact Nat.le_add_right _ _
  have tge : ∀ T ∈ Ts, s1.heap.objs.size ≤ T := fun T hT => Nat.le_trans hn5 (Nat.le_trans (Nat.le_succ _) (dn.ge T hT))
  have Sn : h2.objs.size ∉ Ts := fun z => absurd (dn.ge _ z) (Nat.not_succ_le_self _)
  have tl : Ts.length = (xs.zip ys).length := by rw [dn.len, List.length_zip, lx, ly, List.size_toArray, List.size_toArray]
  have keep : ∀ b u, s1.heap.get? b = some u → h'.get? b = some u := fun b u e => by
    have lt : b < n := by rw [hn]; exact Heap.lt_size e
    have ne : ∀ {m : Nat}, n ≤ m → b ≠ m := fun hm => Nat.ne_of_lt (Nat.lt_of_lt_of_le lt hm)
    exact kk b u (ne (Nat.le_add_right _ _)) (ne (Nat.le_add_right _ _)) (ne (Nat.le_refl _)) (ne (Nat.le_add_right _ _)) (hk b u e)
  have tn : ∀ T, s1.heap.objs.size ≤ T → H1 T = none := fun T hT => I1.hok.fresh hT
  refine ⟨.ref h2.objs.size, _, Inv.news (s := s1) I1 (t' := s1.toks) keep (fun b hb => ?_) (fun b o hb e => ?_), rfl, q Ts h2.objs.size tl dn.nd Sn (fun T hT => tn T (tge T hT)) (tn _ hn5)⟩
  · rw [upd_ne (Nat.ne_of_lt (Nat.lt_of_lt_of_le hb hn5)), lays_ne (fun z => absurd hb (Nat.not_lt.mpr (tge b z)))]
  · by_cases c : b = h2.objs.size
    · subst c
      rw [upd_same] at e
      cases e
      refine ⟨by rw [List.length_map, tl, List.length_zip]; omega, Ts.map Value.ref, c', vals_refs' Ts, ?_⟩
      rw [← dn.ha, Array.toArray_toList]
      exact dn.hS
    · rw [upd_ne c] at e
      by_cases m : b ∈ Ts
      · obtain ⟨j, hj⟩ := List.mem_iff_getElem?.mp m
        obtain ⟨x, y, hx, hy, hp⟩ := dn.ps j b hj
        obtain ⟨vx, e1, r1⟩ := vals_at rv (by simpa using hx)
        obtain ⟨vy, e2, r2⟩ := vals_at rv2 (by simpa using hy)
        have ez : (xs.zip ys)[j]? = some (vx, vy) := by rw [List.getElem?_zip_eq_some]; exact ⟨e1, e2⟩
        rw [lays_at dn.nd hj ez] at e
        cases e
        exact ⟨by show 2 ≤ sizeLine; rw [sizeLine_eq]; decide, [x, y], .cons r1 (.cons r2 .nil), ⟨_, hp, rfl, _, rfl⟩⟩
      · rw [lays_ne m, tn b hb] at e
        cases e
end Gh

set_option Elab.async false
set_option linter.all false
set_option maxRecDepth 100000
set_option maxHeartbeats 4000000
namespace Gh
open PySem PySem.Spec PyProof.Rows L2
/-! ### list(zip(xs, ys)) of lists, on the ghost side -/
def zipD : List D → List D → List D
  | x :: r, y :: s => .tup [x, y] :: zipD r s
  | _, _ => []
theorem lay_zip {C : GC} {ι : Nat → Addr} {G : Hg} : ∀ {ds es : List D} {xs ys : List V} {Ts : List Addr} {F H : Hp}, Sim C F H ι G → RpL C.m F ds xs → RpL C.m F es ys → Ts.length = (xs.zip ys).length → Ts.Nodup → (∀ T ∈ Ts, H T = none) →
    Sim C (lays F Ts (xs.zip ys)) (lays H Ts (xs.zip ys)) ι G ∧ Ext F ι G.length (lays F Ts (xs.zip ys)) ι G.length ∧ RpL C.m (lays F Ts (xs.zip ys)) (zipD ds es) (Ts.map V.ref)
  | [], es, xs, ys, Ts, F, H, s, r1, r2, hl, nd, fr => by
    simp only [RpL] at r1
    subst r1
    have : Ts = [] := List.eq_nil_of_length_eq_zero (by simpa using hl)
    subst this
    exact ⟨s, .refl, by simp only [zipD, List.map_nil, RpL]⟩
  | d :: ds, [], xs, ys, Ts, F, H, s, r1, r2, hl, nd, fr => by
    simp only [RpL] at r2
    subst r2
    have : Ts = [] := List.eq_nil_of_length_eq_zero (by simpa using hl)
    subst this
    exact ⟨s, .refl, by simp only [zipD, List.map_nil, RpL]⟩
  | d :: ds, e :: es, xs, ys, Ts, F, H, s, r1, r2, hl, nd, fr => by
    simp only [RpL] at r1 r2
    obtain ⟨x, xr, rfl, h1, h2⟩ := r1
    obtain ⟨y, yr, rfl, h3, h4⟩ := r2
    cases Ts with
    | nil => simp at hl
    | cons T Ts =>
      obtain ⟨nd1, nd2⟩ := List.nodup_cons.mp nd
      obtain ⟨s', ee⟩ := s.lay (o := .tup [x, y]) (fr T List.mem_cons_self)
      obtain ⟨s2, e2, r⟩ := lay_zip (ds := ds) (es := es) (xs := xr) (ys := yr) (Ts := Ts) s' (h2.mono ee.fr) (h4.mono ee.fr) (by simpa using hl) nd2 (fun U hU => by
        rw [upd_ne (fun z => nd1 (by rw [← z]; exact hU))]
        exact fr U (List.mem_cons_of_mem _ hU))
      refine ⟨s2, ee.trans e2, ?_⟩
      simp only [zipD, List.map_cons, RpL, Rp]
      refine ⟨_, _, rfl, ⟨T, [x, y], rfl, .inl (.inl (e2.fr _ _ upd_same)), x, [y], rfl, (h1.mono ee.fr).mono e2.fr, y, [], rfl, (h3.mono ee.fr).mono e2.fr, rfl⟩, r⟩
def gListZip (a : GEs) : GE := fun ρ G => (a ρ G).bind fun ws G1 => match ws with
  | [w, u] => (match seqW w G1, seqW u G1 with
    | some (true, ws), some (true, us) => (match allD ws, allD us with
      | some ds, some es => .ok (.d (.lst (zipD ds es))) G1
      | _, _ => .stuck)
    | _, _ => .stuck)
  | _ => .stuck
section
variable {X : Cx} {e f : Expr} {gs : GEs} {p p2 pos pos2 : Pos}
theorem ge_listZip (hm : X.mg "list" = none) (hm2 : X.mg "zip" = none) (hc : X.calm = true) (ha : GJA X [e, f] gs) (hg : Gl X "list" := by rfl) (hg2 : Gl X "zip" := by rfl)
    (hs : starEach [e, f] X.env = (false, eval e X.env) :: starEach [f] X.env := by rfl) (hpl : (backTo pos2 (starEach [f] X.env)).any (·.1) = false := by rfl)
    (na : starEach [.Call (.Name "zip" p2) [e, f] [] pos2] X.env = (false, eval (.Call (.Name "zip" p2) [e, f] [] pos2) X.env) :: starEach [] X.env := by rfl) :
    GJE X (.Call (.Name "list" p) [.Call (.Name "zip" p2) [e, f] [] pos2] [] pos) (gListZip gs) := ⟨fun B F0 wx tk => by
  refine PE.imp (pe_listZip hc hg hm hg2 hm2 (ha.run B F0 wx tk) hs hpl na) fun σ H Q ⟨F, ι, ρ, G, s, hr, hp⟩ => ?_
  refine ⟨F, ι, ρ, G, s, hr, (PostL.fst hp).imp fun vs H1 ⟨F1, ι1, ws, G1, e1, s1, r1, p1⟩ => ?_⟩
  split at p1
  · rename_i w u
    simp only [RpWL] at r1
    obtain ⟨x, _, rfl, r1, y, _, rfl, r2, rfl⟩ := r1
    split at p1
    · rename_i ws us q1 q2
      split at p1
      · rename_i ds es q3 q4
        obtain ⟨a, xs, rfl, h1, h2⟩ := s1.seq q1 r1
        obtain ⟨b, ys, rfl, h3, h4⟩ := s1.seq q2 r2
        rw [if_pos rfl] at h1 h3
        refine ⟨a, b, xs, ys, rfl, h1, h3, fun Ts S hl nd hn fr fS => ?_⟩
        obtain ⟨s2, e2, r⟩ := lay_zip (Ts := Ts) s1 (allD_rp q3 h2) (allD_rp q4 h4) hl nd fr
        exact p1 _ _ ((out_lst s2 r (by rw [lays_ne hn]; exact fS)).base e2)
      · exact p1.elim
    · exact p1.elim
  · exact p1.elim⟩
end
end Gh

set_option Elab.async false
set_option linter.all false
set_option maxRecDepth 100000
set_option maxHeartbeats 4000000
/-! rows that do writes one after the other: what they do, and how many they are -/
namespace Sq
variable {T : Type} [DecidableEq T]
abbrev S (T : Type) := Sum Int T
abbrev Wr (T : Type) := List (Int × S T)
def keys (l : Wr T) : List Int := l.map (·.1)
def vals (l : Wr T) : List (S T) := l.map (·.2)
def pop (l : Wr T) (m : Int) : Wr T := l.filter fun p => !decide (p.1 = m)
def red (l : Wr T) (m k : Int) : Wr T := l.map fun p => if p.2 = .inl m then (p.1, .inl k) else p
inductive Row (T : Type) where
  | copy (m k : Int)
  | const (t : T) (m : Int)
def rowOf (m : Int) : S T → Row T
  | .inl k => .copy m k
  | .inr t => .const t m
def kset (f : Int → Option Int) (s : S T) (m : Int) : Int → Option Int := fun x => if s = .inl x then some m else f x
def put {V : Type} (c : Int → V) (m : Int) (v : V) : Int → V := fun x => if x = m then v else c x
def act (c : Int → S T) : Row T → Int → S T
  | .copy m k => put c m (c k)
  | .const t m => put c m (.inr t)
def acts (c : Int → S T) (rs : List (Row T)) : Int → S T := rs.foldl act c
def val (c : Int → S T) : S T → S T
  | .inl k => c k
  | .inr t => .inr t
theorem act_row {c : Int → S T} {m : Int} {s : S T} : act c (rowOf m s) = put c m (val c s) := by cases s <;> rfl
theorem put_same {V : Type} {c : Int → V} {m : Int} {v : V} : put c m v m = v := if_pos rfl
theorem put_ne {V : Type} {c : Int → V} {m x : Int} {v : V} (h : x ≠ m) : put c m v x = c x := if_neg h

/-- what the rows are, whichever marks are chosen -/
inductive Go (sp : Int) : Wr T → (Int → Option Int) → List (Row T) → Prop
  | done {f} : Go sp [] f []
  | free {l f m s rs} : (m, s) ∈ l → .inl m ∉ vals l → Go sp (pop l m) (kset f s m) rs → Go sp l f (rowOf m s :: rs)
  | saved {l f m k s rs} : (∀ x ∈ keys l, .inl x ∈ vals l) → m ∈ keys l → f m = some k → (m, s) ∈ red l m k → Go sp (pop (red l m k) m) (kset f s m) rs → Go sp l f (rowOf m s :: rs)
  | spare {l f m s rs} : (∀ x ∈ keys l, .inl x ∈ vals l) → (∀ x ∈ keys l, f x = none) → m ∈ keys l → (m, s) ∈ red l m sp → Go sp (pop (red l m sp) m) (kset f s m) rs → Go sp l f (.copy sp m :: rowOf m s :: rs)

/-! ### lists -/
theorem pig {α : Type} [DecidableEq α] : ∀ {B A : List α}, B.Nodup → B ⊆ A → A.length ≤ B.length → A.Perm B
  | [], A, _, _, h => by
    have : A = [] := List.length_eq_zero_iff.mp (Nat.le_zero.mp h)
    rw [this]
  | b :: B, A, nd, sub, h => by
    have hb : b ∈ A := sub (List.mem_cons_self ..)
    have p := List.perm_cons_erase hb
    have nd' := List.nodup_cons.mp nd
    have q : (A.erase b).Perm B := pig nd'.2 (fun x hx => (List.mem_erase_of_ne (fun (e : x = b) => nd'.1 (by rw [← e]; exact hx))).mpr (sub (List.mem_cons_of_mem _ hx))) (by
      rw [List.length_erase_of_mem hb]; simp only [List.length_cons] at h; omega)
    exact p.trans (q.cons b)
theorem mem_keys {l : Wr T} {m : Int} : m ∈ keys l ↔ ∃ s, (m, s) ∈ l := by
  unfold keys
  rw [List.mem_map]
  exact ⟨fun ⟨p, h, e⟩ => ⟨p.2, by rw [← e]; exact h⟩, fun ⟨s, h⟩ => ⟨_, h, rfl⟩⟩
theorem key_of {l : Wr T} {p : Int × S T} (h : p ∈ l) : p.1 ∈ keys l := mem_keys.mpr ⟨p.2, h⟩
theorem uniq {l : Wr T} (nd : (keys l).Nodup) {m : Int} {s t : S T} : (m, s) ∈ l → (m, t) ∈ l → s = t := by
  induction l with
  | nil => intro h; cases h
  | cons p l ih =>
    have nd' := List.nodup_cons.mp (show (p.1 :: keys l).Nodup from nd)
    intro h1 h2
    rcases List.mem_cons.mp h1 with e1 | e1 <;> rcases List.mem_cons.mp h2 with e2 | e2
    · exact congrArg Prod.snd (e1.trans e2.symm)
    · have z : m = p.1 := congrArg Prod.fst e1
      exact absurd (key_of e2) (by show m ∉ keys l; rw [z]; exact nd'.1)
    · have z : m = p.1 := congrArg Prod.fst e2
      exact absurd (key_of e1) (by show m ∉ keys l; rw [z]; exact nd'.1)
    · exact ih nd'.2 e1 e2
theorem mem_pop {l : Wr T} {m : Int} {p : Int × S T} : p ∈ pop l m ↔ p ∈ l ∧ p.1 ≠ m := by
  unfold pop
  rw [List.mem_filter]
  simp
theorem keys_pop {l : Wr T} {m x : Int} : x ∈ keys (pop l m) ↔ x ∈ keys l ∧ x ≠ m := by
  rw [mem_keys, mem_keys]
  exact ⟨fun ⟨s, h⟩ => ⟨⟨s, (mem_pop.mp h).1⟩, (mem_pop.mp h).2⟩, fun ⟨⟨s, h⟩, n⟩ => ⟨s, mem_pop.mpr ⟨h, n⟩⟩⟩
theorem keys_red {l : Wr T} {m k : Int} : keys (red l m k) = keys l := by
  unfold keys red
  rw [List.map_map]
  refine List.map_congr_left fun p _ => ?_
  show (if p.2 = .inl m then ((p.1, .inl k) : Int × S T) else p).1 = p.1
  by_cases e : p.2 = .inl m
  · rw [if_pos e]
  · rw [if_neg e]
theorem nodup_pop {l : Wr T} {m : Int} (nd : (keys l).Nodup) : (keys (pop l m)).Nodup := by
  unfold keys pop
  exact nd.sublist (List.filter_sublist.map _)
theorem len_pop {l : Wr T} {m : Int} (nd : (keys l).Nodup) (h : m ∈ keys l) : l.length = (pop l m).length + 1 := by
  induction l with
  | nil => cases h
  | cons p l ih =>
    have nd' := List.nodup_cons.mp (show (p.1 :: keys l).Nodup from nd)
    unfold pop
    rw [List.filter_cons]
    by_cases e : p.1 = m
    · have e2 : l.filter (fun p => !decide (p.1 = m)) = l := List.filter_eq_self.mpr fun q hq => by
        have : q.1 ≠ m := fun z => nd'.1 (by rw [e, ← z]; exact key_of hq)
        simp [this]
      rw [if_neg (by simp [e]), e2, List.length_cons]
    · rw [if_pos (by simp [e]), List.length_cons, List.length_cons]
      have hm : m ∈ keys l := by
        rcases List.mem_cons.mp (show m ∈ p.1 :: keys l from h) with z | z
        · exact absurd z.symm e
        · exact z
      exact congrArg (· + 1) (ih nd'.2 hm)
theorem mem_red {l : Wr T} {m k : Int} {p : Int × S T} (h : p ∈ red l m k) : (p ∈ l ∧ p.2 ≠ .inl m) ∨ ((p.1, .inl m) ∈ l ∧ p.2 = .inl k) := by
  unfold red at h
  obtain ⟨q, hq, e⟩ := List.mem_map.mp h
  by_cases z : q.2 = .inl m
  · rw [if_pos z] at e
    subst e
    exact .inr ⟨by rw [← z]; exact hq, rfl⟩
  · rw [if_neg z] at e
    subst e
    exact .inl ⟨hq, z⟩
theorem red_mem {l : Wr T} {m k : Int} {p : Int × S T} (h : p ∈ l) (n : p.2 ≠ .inl m) : p ∈ red l m k := List.mem_map.mpr ⟨p, h, if_neg n⟩
theorem len_red {l : Wr T} {m k : Int} : (red l m k).length = l.length := List.length_map ..

/-! ### what the rows do -/
structure Org (O : Wr T) (sp : Int) : Prop where
  nd : (keys O).Nodup
  ns : ∀ m, (m, .inl m) ∉ O
  spk : sp ∉ keys O
  spv : ∀ m, (m, .inl sp) ∉ O
structure I (O : Wr T) (sp : Int) (l : Wr T) (f : Int → Option Int) (c : Int → S T) : Prop where
  nd : (keys l).Nodup
  sub : ∀ m ∈ keys l, m ∈ keys O
  src : ∀ m s, (m, s) ∈ l → (m, s) ∈ O ∨ ∃ k x, s = .inl k ∧ k ∉ keys l ∧ (m, .inl x) ∈ O ∧ x ∉ keys l
  vl : ∀ m s t, (m, s) ∈ l → (m, t) ∈ O → val c s = t
  dn : ∀ m t, (m, t) ∈ O → m ∉ keys l → c m = t
  ot : ∀ m, m ∉ keys O → m ≠ sp → c m = .inl m
  un : ∀ m ∈ keys l, c m = .inl m
  ka : ∀ m k, f m = some k → m ∈ keys l → k ∉ keys l ∧ k ≠ sp ∧ c k = .inl m ∧ (k, .inl m) ∈ O
  kb : ∀ y x, (y, .inl x) ∈ O → x ∈ keys l → y ∉ keys l → (f x).isSome = true
variable {O : Wr T} {sp : Int}
/-- one that no one reads is written -/
theorem pop_I (Q : Org O sp) {l : Wr T} {f : Int → Option Int} {c : Int → S T} {m : Int} {s : S T} (nd : (keys l).Nodup) (sub : ∀ m ∈ keys l, m ∈ keys O)
    (src : ∀ y s, (y, s) ∈ l → (y, s) ∈ O ∨ ∃ k x, s = .inl k ∧ k ∉ keys l ∧ (y, .inl x) ∈ O ∧ (x ∉ keys l ∨ x = m))
    (vl : ∀ m s t, (m, s) ∈ l → (m, t) ∈ O → val c s = t) (dn : ∀ m t, (m, t) ∈ O → m ∉ keys l → c m = t) (ot : ∀ m, m ∉ keys O → m ≠ sp → c m = .inl m) (un : ∀ m ∈ keys l, c m = .inl m)
    (ka : ∀ m k, f m = some k → m ∈ keys l → k ∉ keys l ∧ k ≠ sp ∧ c k = .inl m ∧ (k, .inl m) ∈ O) (kb : ∀ y x, (y, .inl x) ∈ O → x ∈ keys l → y ∉ keys l → (f x).isSome = true)
    (hm : (m, s) ∈ l) (hf : .inl m ∉ vals l) : I O sp (pop l m) (kset f s m) (put c m (val c s)) := by
  have mk : m ∈ keys l := key_of hm
  have nv : ∀ y t, (y, t) ∈ l → t ≠ .inl m := fun y t h e => hf (e ▸ List.mem_map.mpr ⟨_, h, rfl⟩)
  have out : ∀ x, x ∉ keys l → x ∉ keys (pop l m) := fun x h z => h (keys_pop.mp z).1
  refine ⟨nodup_pop nd, fun x h => sub x (keys_pop.mp h).1, fun y t h => ?_, fun y t u h h2 => ?_, fun y t h h2 => ?_, fun x h h2 => ?_, fun x h => ?_, fun x k h h2 => ?_, fun y x h h2 h3 => ?_⟩
  · obtain ⟨h1, h2⟩ := mem_pop.mp h
    rcases src y t h1 with z | ⟨k, x, e, hk, ho, hx⟩
    · exact .inl z
    · refine .inr ⟨k, x, e, out k hk, ho, ?_⟩
      rcases hx with hx | hx
      · exact out x hx
      · exact fun z => (keys_pop.mp z).2 hx
  · obtain ⟨h1, _⟩ := mem_pop.mp h
    have e := vl y t u h1 h2
    have n := nv y t h1
    cases t with
    | inl k => exact (put_ne (fun z => n (by rw [z]))).trans e
    | inr _ => exact e
  · by_cases e : y = m
    · subst e
      rw [put_same]
      exact vl y s t hm h
    · rw [put_ne e]
      exact dn y t h fun z => h2 (keys_pop.mpr ⟨z, e⟩)
  · rw [put_ne (fun (z : x = m) => h (by rw [z]; exact sub m mk))]
    exact ot x h h2
  · obtain ⟨h1, h2⟩ := keys_pop.mp h
    rw [put_ne h2]
    exact un x h1
  · obtain ⟨h3, h4⟩ := keys_pop.mp h2
    unfold kset at h
    by_cases e : s = .inl x
    · rw [if_pos e] at h
      have ek : m = k := Option.some.inj h
      subst ek
      refine ⟨fun z => (keys_pop.mp z).2 rfl, fun (z : m = sp) => Q.spk (by rw [← z]; exact sub _ mk), ?_, ?_⟩
      · rw [put_same, e]
        exact un x h3
      · rcases src m s hm with z | ⟨k', x', e', hk, _⟩
        · rw [← e]; exact z
        · exact absurd h3 (by rw [e] at e'; cases e'; exact hk)
    · rw [if_neg e] at h
      obtain ⟨q1, q2, q3, q4⟩ := ka x k h h3
      exact ⟨out k q1, q2, (put_ne (fun (z : k = m) => q1 (by rw [z]; exact mk))).trans q3, q4⟩
  · obtain ⟨h4, h5⟩ := keys_pop.mp h2
    unfold kset
    by_cases e : s = .inl x
    · rw [if_pos e]; rfl
    · rw [if_neg e]
      by_cases ey : y = m
      · subst ey
        rcases src y s hm with z | ⟨k', x', e', hk, ho, hx⟩
        · exact absurd (uniq Q.nd z h) e
        · have ex : x' = x := by have := uniq Q.nd ho h; injection this
          subst ex
          rcases hx with hx | hx
          · exact absurd h4 hx
          · exact absurd hx h5
      · exact kb y x h h4 fun z => h3 (keys_pop.mpr ⟨z, ey⟩)
theorem nv_of {l : Wr T} {k : Int} {y : Int} {t : S T} (hf : Sum.inl k ∉ vals l) (h : (y, t) ∈ l) : t ≠ .inl k := fun e => hf (e ▸ List.mem_map.mpr ⟨_, h, rfl⟩)
theorem nv_red {l : Wr T} {m k : Int} (h : k ≠ m) : Sum.inl m ∉ vals (red l m k) := fun z => by
  obtain ⟨p, hp, e⟩ := List.mem_map.mp z
  rcases mem_red hp with ⟨_, h2⟩ | ⟨_, h2⟩
  · exact h2 e
  · rw [h2] at e
    injection e with e
    exact h e
/-- one that all read is written, behind its content has been put elsewhere -/
theorem red_I (Q : Org O sp) {l : Wr T} {f : Int → Option Int} {c : Int → S T} {m k : Int} {s : S T} (i : I O sp l f c) (mk : m ∈ keys l) (hk : k ∉ keys l) (ck : c k = .inl m) (hm : (m, s) ∈ red l m k) :
    I O sp (pop (red l m k) m) (kset f s m) (put c m (val c s)) := by
  have km : k ≠ m := fun (z : k = m) => hk (by rw [z]; exact mk)
  refine pop_I Q (by rw [keys_red]; exact i.nd) (by rw [keys_red]; exact i.sub) (fun y t h => ?_) (fun y t u h h2 => ?_) (by rw [keys_red]; exact i.dn) i.ot (by rw [keys_red]; exact i.un) (by rw [keys_red]; exact i.ka) (by rw [keys_red]; exact i.kb) hm (nv_red km)
  · rw [keys_red]
    rcases mem_red h with ⟨h1, _⟩ | ⟨h1, h2⟩
    · rcases i.src y t h1 with z | ⟨k', x, e, q, ho, hx⟩
      · exact .inl z
      · exact .inr ⟨k', x, e, q, ho, .inl hx⟩
    · rcases i.src y _ h1 with z | ⟨k', x, e, q, _⟩
      · exact .inr ⟨k, m, h2, hk, z, .inr rfl⟩
      · have e' : m = k' := by injection e
        exact absurd (by rw [← e']; exact mk) q
  · rcases mem_red h with ⟨h1, _⟩ | ⟨h1, h3⟩
    · exact i.vl y t u h1 h2
    · have e := i.vl y _ u h1 h2
      have ht : t = .inl k := h3
      rw [ht]
      show c k = u
      rw [ck, ← e]
      exact (i.un m mk).symm
/-- the spare one is written -/
theorem spare_I (Q : Org O sp) {l : Wr T} {f : Int → Option Int} {c : Int → S T} {v : S T} (i : I O sp l f c) (hv : Sum.inl sp ∉ vals l) : I O sp l f (put c sp v) := by
  have nk : ∀ x ∈ keys l, x ≠ sp := fun x h z => Q.spk (by rw [← z]; exact i.sub x h)
  refine ⟨i.nd, i.sub, i.src, fun y t u h h2 => ?_, fun y t h h2 => ?_, fun x h h2 => ?_, fun x h => ?_, fun x k h h2 => ?_, i.kb⟩
  · have e := i.vl y t u h h2
    have n := nv_of hv h
    cases t with
    | inl k => exact (put_ne (fun (z : k = sp) => n (by rw [z]))).trans e
    | inr _ => exact e
  · rw [put_ne (fun (z : y = sp) => Q.spk (by rw [← z]; exact key_of h))]
    exact i.dn y t h h2
  · rw [put_ne h2]; exact i.ot x h h2
  · rw [put_ne (nk x h)]; exact i.un x h
  · obtain ⟨q1, q2, q3, q4⟩ := i.ka x k h h2
    exact ⟨q1, q2, by rw [put_ne q2]; exact q3, q4⟩
/-- where all are read, each is read once, by one of them -/
theorem full {l : Wr T} (nd : (keys l).Nodup) (h : ∀ x ∈ keys l, Sum.inl x ∈ vals l) : (vals l).Perm ((keys l).map Sum.inl) := by
  refine pig (nd.map _ fun a b n e => n (by injection e)) (fun v hv => ?_) (by unfold vals keys; simp)
  obtain ⟨x, hx, e⟩ := List.mem_map.mp hv
  rw [← e]
  exact h x hx
theorem full_src {l : Wr T} (nd : (keys l).Nodup) (h : ∀ x ∈ keys l, Sum.inl x ∈ vals l) {y : Int} {t : S T} (m : (y, t) ∈ l) : ∃ x ∈ keys l, t = .inl x := by
  obtain ⟨x, hx, e⟩ := List.mem_map.mp ((full nd h).subset (List.mem_map.mpr ⟨_, m, rfl⟩))
  exact ⟨x, hx, e.symm⟩
theorem vals_nodup {l : Wr T} (nd : (vals l).Nodup) {x y : Int} {t : S T} : (x, t) ∈ l → (y, t) ∈ l → x = y := by
  induction l with
  | nil => intro h; cases h
  | cons p l ih =>
    have nd' := List.nodup_cons.mp (show (p.2 :: vals l).Nodup from nd)
    intro h1 h2
    rcases List.mem_cons.mp h1 with e1 | e1 <;> rcases List.mem_cons.mp h2 with e2 | e2
    · exact congrArg Prod.fst (e1.trans e2.symm)
    · have z : t = p.2 := congrArg Prod.snd e1
      exact absurd (List.mem_map.mpr ⟨_, e2, rfl⟩) (by show t ∉ vals l; rw [z]; exact nd'.1)
    · have z : t = p.2 := congrArg Prod.snd e2
      exact absurd (List.mem_map.mpr ⟨_, e1, rfl⟩) (by show t ∉ vals l; rw [z]; exact nd'.1)
    · exact ih nd'.2 e1 e2
theorem full_inj {l : Wr T} (nd : (keys l).Nodup) (h : ∀ x ∈ keys l, Sum.inl x ∈ vals l) {x y : Int} {t : S T} (h1 : (x, t) ∈ l) (h2 : (y, t) ∈ l) : x = y :=
  vals_nodup (((full nd h).nodup_iff).mpr (nd.map _ fun a b n e => n (by injection e))) h1 h2
theorem full_sp (Q : Org O sp) {l : Wr T} {f : Int → Option Int} {c : Int → S T} (i : I O sp l f c) (h : ∀ x ∈ keys l, Sum.inl x ∈ vals l) : Sum.inl sp ∉ vals l := fun z => by
  obtain ⟨p, hp, e⟩ := List.mem_map.mp z
  obtain ⟨x, hx, e2⟩ := full_src i.nd h (y := p.1) (t := p.2) hp
  rw [e2] at e
  injection e with e
  exact Q.spk (by rw [← e]; exact i.sub x hx)
/-- the rows have the effect of the writes at once -/
theorem effect (Q : Org O sp) {l : Wr T} {f : Int → Option Int} {rs : List (Row T)} (g : Go sp l f rs) : ∀ {c : Int → S T}, I O sp l f c → (∀ m t, (m, t) ∈ O → acts c rs m = t) ∧ ∀ m, m ∉ keys O → m ≠ sp → acts c rs m = .inl m := by
  induction g with
  | done => exact fun i => ⟨fun m t h => i.dn m t h (fun z => by cases z), i.ot⟩
  | free hm hf g ih =>
    intro c i
    have k := ih (pop_I Q i.nd i.sub (fun y s h => (i.src y s h).elim .inl fun ⟨k, x, e, a, b, d⟩ => .inr ⟨k, x, e, a, b, .inl d⟩) i.vl i.dn i.ot i.un i.ka i.kb hm hf)
    rw [← act_row] at k
    exact k
  | saved ha mk hk hm g ih =>
    intro c i
    obtain ⟨q1, q2, q3, q4⟩ := i.ka _ _ hk mk
    have k := ih (red_I Q i mk q1 q3 hm)
    rw [← act_row] at k
    exact k
  | @spare l f m s rs ha hn mk hm g ih =>
    intro c i
    have hs : sp ∉ keys l := fun z => Q.spk (i.sub _ z)
    have i2 := spare_I Q i (v := c m) (full_sp Q i ha)
    have k := ih (red_I Q i2 mk hs (put_same.trans (i.un m mk)) hm)
    rw [← act_row] at k
    exact k
theorem start (Q : Org O sp) : I O sp O (fun _ => none) Sum.inl := by
  refine ⟨Q.nd, fun _ h => h, fun m s h => .inl h, fun m s t h h2 => ?_, fun m t h h2 => absurd (key_of h) h2, fun _ _ _ => rfl, fun _ _ => rfl, fun _ _ h => (by cases h), fun y x h _ h2 => absurd (key_of h) h2⟩
  rw [uniq Q.nd h h2]
  cases t <;> rfl
end Sq

set_option Elab.async false
set_option linter.all false
set_option maxRecDepth 100000
set_option maxHeartbeats 4000000
/-! how many rows -/
namespace Sq
open Classical
variable {T : Type} [DecidableEq T] {O : Wr T} {sp : Int}
/-- from a mark by copies -/
inductive Reach (O : Wr T) (r : Int) : Int → Prop
  | refl : Reach O r r
  | step {x y : Int} : Reach O r x → (x, .inl y) ∈ O → Reach O r y
def InCyc (O : Wr T) (r : Int) : Prop := ∃ x, Reach O r x ∧ (x, .inl r) ∈ O
/-- in a cycle that no one else reads -/
def Iso (O : Wr T) (r : Int) : Prop := InCyc O r ∧ ∀ x y, Reach O r x → (y, .inl x) ∈ O → Reach O r y
/-- a cycle as it was -/
def U (O l : Wr T) (r : Int) : Prop := ∀ x, Reach O r x → ∃ s, (x, s) ∈ O ∧ (x, s) ∈ l
/-- one mark of each such cycle -/
structure Reps (O : Wr T) (R : List Int) : Prop where
  nd : R.Nodup
  iso : ∀ r ∈ R, Iso O r
  all : ∀ m, Iso O m → ∃ r ∈ R, Reach O r m
  one : ∀ r ∈ R, ∀ q ∈ R, Reach O r q → r = q
noncomputable def cnt (R : List Int) (O l : Wr T) : Nat := (R.filter fun r => decide (U O l r)).length
theorem Reach.trans {a b c : Int} (h : Reach O a b) (k : Reach O b c) : Reach O a c := by
  induction k with
  | refl => exact h
  | step _ e ih => exact ih.step e
theorem Reach.head {a c : Int} (h : Reach O a c) : a = c ∨ ∃ b, (a, .inl b) ∈ O ∧ Reach O b c := by
  induction h with
  | refl => exact .inl rfl
  | step _ e ih =>
    rcases ih with z | ⟨b, h1, h2⟩
    · subst z; exact .inr ⟨_, e, .refl⟩
    · exact .inr ⟨b, h1, h2.step e⟩
theorem Reach.back (nd : (keys O).Nodup) {r m : Int} (h : Reach O r m) (cy : InCyc O r) : Reach O m r := by
  obtain ⟨p, hp, ep⟩ := cy
  induction h with
  | refl => exact .refl
  | @step x y _ e ih =>
    have k : ∃ b, (x, .inl b) ∈ O ∧ Reach O b r := by
      rcases ih.head with z | z
      · subst z
        rcases hp.head with z | ⟨b, h1, h2⟩
        · subst z; exact ⟨_, ep, .refl⟩
        · exact ⟨b, h1, h2.step ep⟩
      · exact z
    obtain ⟨b, h1, h2⟩ := k
    have e2 := uniq nd h1 e
    injection e2 with e2
    rw [← e2]; exact h2
theorem Iso.of (nd : (keys O).Nodup) {r m : Int} (h : Iso O r) (k : Reach O r m) : Iso O m := by
  have b := k.back nd h.1
  refine ⟨?_, fun x y hx hy => b.trans (h.2 x y (k.trans hx) hy)⟩
  rcases k.head with z | ⟨q, h1, h2⟩
  · subst z; exact h.1
  · obtain ⟨p, hp, ep⟩ := h.1
    -- who reads m: on the way from r
    have : ∃ x, Reach O r x ∧ (x, .inl m) ∈ O := by
      cases k with
      | refl => exact ⟨p, hp, ep⟩
      | step a e => exact ⟨_, a, e⟩
    obtain ⟨x, hx, ex⟩ := this
    exact ⟨x, b.trans hx, ex⟩
theorem InCyc.pred {r m : Int} (cy : InCyc O r) (k : Reach O r m) : ∃ x, Reach O r x ∧ (x, .inl m) ∈ O := by
  cases k with
  | refl => exact cy
  | step a e => exact ⟨_, a, e⟩
theorem cnt_same {R : List Int} {l l' : Wr T} (h : ∀ r ∈ R, (U O l' r ↔ U O l r)) : cnt R O l' = cnt R O l := by
  unfold cnt
  congr 1
  exact List.filter_congr fun r hr => by rw [Bool.eq_iff_iff]; simp [h r hr]
theorem cnt_less : ∀ {R : List Int} {l l' : Wr T} {q : Int}, R.Nodup → q ∈ R → U O l q → ¬ U O l' q → (∀ r ∈ R, r ≠ q → (U O l' r ↔ U O l r)) → cnt R O l = cnt R O l' + 1
  | [], _, _, _, _, h, _, _, _ => by cases h
  | r :: R, l, l', q, nd, hq, h1, h2, h => by
    have nd' := List.nodup_cons.mp nd
    unfold cnt
    rw [List.filter_cons, List.filter_cons]
    by_cases e : r = q
    · subst e
      rw [if_pos (by simpa using h1), if_neg (by simpa using h2), List.length_cons]
      congr 1
      exact (cnt_same fun x hx => h x (List.mem_cons_of_mem _ hx) fun z => nd'.1 (by rw [← z]; exact hx)).symm
    · have k := cnt_less nd'.2 ((List.mem_cons.mp hq).resolve_left fun z => e z.symm) h1 h2 fun x hx => h x (List.mem_cons_of_mem _ hx)
      have i := h r (List.mem_cons_self ..) e
      by_cases u : U O l r
      · rw [if_pos (by simpa using u), if_pos (by simpa using i.mpr u), List.length_cons, List.length_cons]
        exact congrArg (· + 1) k
      · rw [if_neg (by simpa using u), if_neg (by simpa using fun z => u (i.mp z))]
        exact k
theorem cnt_nil {R : List Int} : cnt R O [] = 0 := by
  unfold cnt
  rw [List.length_eq_zero_iff, List.filter_eq_nil_iff]
  intro r _
  simp only [decide_eq_true_eq]
  intro z
  obtain ⟨s, _, h⟩ := z r .refl
  cases h
theorem cnt_all {R : List Int} (h : ∀ r ∈ R, U O O r) : cnt R O O = R.length := by
  unfold cnt
  rw [List.filter_eq_self.mpr fun r hr => by simpa using h r hr]
/-- a popped mark outside of the cycle -/
theorem U_pop {l : Wr T} {r m : Int} (h : ¬ Reach O r m) : U O (pop l m) r ↔ U O l r :=
  ⟨fun u x hx => let ⟨s, a, b⟩ := u x hx; ⟨s, a, (mem_pop.mp b).1⟩, fun u x hx => let ⟨s, a, b⟩ := u x hx; ⟨s, a, mem_pop.mpr ⟨b, fun (z : x = m) => h (by rw [← z]; exact hx)⟩⟩⟩
/-- all of them are in cycles as they were -/
theorem full_o (Q : Org O sp) {l : Wr T} {f : Int → Option Int} {c : Int → S T} (i : I O sp l f c) (ha : ∀ x ∈ keys l, Sum.inl x ∈ vals l) {y : Int} {t : S T} (m : (y, t) ∈ l) : (y, t) ∈ O := by
  rcases i.src y t m with z | ⟨k, x, e, hk, _⟩
  · exact z
  · obtain ⟨x', hx, e2⟩ := full_src i.nd ha m
    rw [e2] at e
    injection e with e
    exact absurd (by rw [← e]; exact hx) hk
theorem full_reach (Q : Org O sp) {l : Wr T} {f : Int → Option Int} {c : Int → S T} (i : I O sp l f c) (ha : ∀ x ∈ keys l, Sum.inl x ∈ vals l) {m x : Int} (mk : m ∈ keys l) (h : Reach O m x) : x ∈ keys l := by
  induction h with
  | refl => exact mk
  | @step y z _ e ih =>
    obtain ⟨t, ht⟩ := mem_keys.mp ih
    have e2 := uniq Q.nd (full_o Q i ha ht) e
    obtain ⟨x', hx, e3⟩ := full_src i.nd ha ht
    rw [e2] at e3
    injection e3 with e3
    rw [e3]; exact hx
theorem full_U (Q : Org O sp) {l : Wr T} {f : Int → Option Int} {c : Int → S T} (i : I O sp l f c) (ha : ∀ x ∈ keys l, Sum.inl x ∈ vals l) {m : Int} (mk : m ∈ keys l) : U O l m := fun x hx => by
  obtain ⟨t, ht⟩ := mem_keys.mp (full_reach Q i ha mk hx)
  exact ⟨t, full_o Q i ha ht, ht⟩
theorem full_cyc (Q : Org O sp) {l : Wr T} {f : Int → Option Int} {c : Int → S T} (i : I O sp l f c) (ha : ∀ x ∈ keys l, Sum.inl x ∈ vals l) {m : Int} (mk : m ∈ keys l) : InCyc O m := by
  -- the marks that are reached, and their sources
  let L := l.filter fun p => decide (Reach O m p.1)
  have sub : ∀ p ∈ L, p ∈ l ∧ Reach O m p.1 := fun p hp => by
    have := List.mem_filter.mp hp
    exact ⟨this.1, by simpa using this.2⟩
  have ndk : (keys L).Nodup := i.nd.sublist (List.filter_sublist.map _)
  have ndv : (vals L).Nodup := (((full i.nd ha).nodup_iff).mpr (i.nd.map _ fun a b n e => n (by injection e))).sublist (List.filter_sublist.map _)
  have vk : ∀ v ∈ vals L, v ∈ (keys L).map Sum.inl := fun v hv => by
    obtain ⟨p, hp, e⟩ := List.mem_map.mp hv
    obtain ⟨h1, h2⟩ := sub p hp
    obtain ⟨x, hx, e2⟩ := full_src i.nd ha (y := p.1) (t := p.2) h1
    rw [e2] at e
    subst e
    obtain ⟨t, ht⟩ := mem_keys.mp hx
    refine List.mem_map.mpr ⟨x, mem_keys.mpr ⟨t, List.mem_filter.mpr ⟨ht, ?_⟩⟩, rfl⟩
    have : (p.1, Sum.inl x) ∈ O := full_o Q i ha (by rw [← e2]; exact h1)
    simpa using h2.step this
  have p := pig ndv vk (by unfold vals keys; simp)
  obtain ⟨t, ht⟩ := mem_keys.mp mk
  have : (Sum.inl m : S T) ∈ vals L := p.subset (List.mem_map.mpr ⟨m, mem_keys.mpr ⟨t, List.mem_filter.mpr ⟨ht, by simpa using Reach.refl⟩⟩, rfl⟩)
  obtain ⟨q, hq, e⟩ := List.mem_map.mp this
  obtain ⟨h1, h2⟩ := sub q hq
  exact ⟨q.1, h2, full_o Q i ha (by rw [← e]; exact h1)⟩
theorem full_iso (Q : Org O sp) {l : Wr T} {f : Int → Option Int} {c : Int → S T} (i : I O sp l f c) (ha : ∀ x ∈ keys l, Sum.inl x ∈ vals l) (hn : ∀ x ∈ keys l, f x = none) {m : Int} (mk : m ∈ keys l) : Iso O m := by
  have cy := full_cyc Q i ha mk
  refine ⟨cy, fun x y hx hy => ?_⟩
  have xk := full_reach Q i ha mk hx
  have yk : y ∈ keys l := by
    refine Classical.byContradiction fun z => ?_
    have := i.kb y x hy xk z
    rw [hn x xk] at this
    cases this
  obtain ⟨p, hp, ep⟩ := cy.pred hx
  obtain ⟨t, ht⟩ := mem_keys.mp yk
  obtain ⟨t2, ht2⟩ := mem_keys.mp (full_reach Q i ha mk hp)
  have e1 := uniq Q.nd (full_o Q i ha ht) hy
  have e2 := uniq Q.nd (full_o Q i ha ht2) ep
  rw [full_inj i.nd ha (x := y) (y := p) (t := .inl x) (by rw [← e1]; exact ht) (by rw [← e2]; exact ht2)]
  exact hp
/-- a redirected source of another cycle -/
theorem U_red {l : Wr T} {f : Int → Option Int} {c : Int → S T} (Q : Org O sp) (i : I O sp l f c) {r m k : Int} (mk : m ∈ keys l) (hk : k ≠ m) (hO : ∀ x, (x, .inl m) ∈ l → (x, .inl m) ∈ O) (h : ¬ Reach O r m) : U O (red l m k) r ↔ U O l r := by
  refine ⟨fun u x hx => ?_, fun u x hx => ?_⟩
  · obtain ⟨s, a, b⟩ := u x hx
    rcases mem_red b with ⟨h1, _⟩ | ⟨h1, h2⟩
    · exact ⟨s, a, h1⟩
    · exact absurd (hx.step (hO x h1)) h
  · obtain ⟨s, a, b⟩ := u x hx
    refine ⟨s, a, red_mem b fun e => ?_⟩
    have e' : s = .inl m := e
    subst e'
    exact h (hx.step a)
theorem src_o {l : Wr T} {f : Int → Option Int} {c : Int → S T} (i : I O sp l f c) {m x : Int} (mk : m ∈ keys l) (h : (x, .inl m) ∈ l) : (x, .inl m) ∈ O := by
  rcases i.src x _ h with z | ⟨k, x', e, hk, _⟩
  · exact z
  · injection e with e
    exact absurd (by rw [← e]; exact mk) hk
/-- one row for each write, and one for each cycle that no one else reads -/
theorem amount (Q : Org O sp) {R : List Int} (P : Reps O R) {l : Wr T} {f : Int → Option Int} {rs : List (Row T)} (g : Go sp l f rs) : ∀ {c : Int → S T}, I O sp l f c → rs.length = l.length + cnt R O l := by
  induction g with
  | done => intro c i; rw [cnt_nil]; rfl
  | @free l f m s rs hm hf g ih =>
    intro c i
    have k := ih (pop_I Q i.nd i.sub (fun y s h => (i.src y s h).elim .inl fun ⟨k, x, e, a, b, d⟩ => .inr ⟨k, x, e, a, b, .inl d⟩) i.vl i.dn i.ot i.un i.ka i.kb hm hf)
    have e : cnt R O (pop l m) = cnt R O l := cnt_same fun r hr => by
      by_cases q : Reach O r m
      · obtain ⟨p, hp, ep⟩ := (P.iso r hr).1.pred q
        refine ⟨fun u => ?_, fun u => ?_⟩
        · obtain ⟨s', _, b⟩ := u m q
          exact absurd rfl (mem_pop.mp b).2
        · obtain ⟨s', a, b⟩ := u p hp
          exact absurd (uniq Q.nd a ep) (nv_of hf b)
      · exact U_pop q
    rw [List.length_cons, k, e, len_pop i.nd (key_of hm)]
    show _ = (pop l m).length + 1 + _
    omega
  | @saved l f m k s rs ha mk hk hm g ih =>
    intro c i
    obtain ⟨q1, q2, q3, q4⟩ := i.ka _ _ hk mk
    have kk := ih (red_I Q i mk q1 q3 hm)
    have km : k ≠ m := fun z => q1 (by rw [z]; exact mk)
    have e : cnt R O (pop (red l m k) m) = cnt R O l := cnt_same fun r hr => by
      by_cases q : Reach O r m
      · refine ⟨fun u => ?_, fun u => ?_⟩
        · obtain ⟨s', _, b⟩ := u m q
          exact absurd rfl (mem_pop.mp b).2
        · obtain ⟨s', a, b⟩ := u k ((P.iso r hr).2 m k q q4)
          exact absurd (key_of b) q1
      · exact (U_pop q).trans (U_red Q i mk km (fun x h => src_o i mk h) q)
    have e2 := len_pop (l := red l m k) (m := m) (by rw [keys_red]; exact i.nd) (by rw [keys_red]; exact mk)
    rw [len_red] at e2
    rw [List.length_cons, kk, e]
    omega
  | @spare l f m s rs ha hn mk hm g ih =>
    intro c i
    have hs : sp ∉ keys l := fun z => Q.spk (i.sub _ z)
    have i2 := spare_I Q i (v := c m) (full_sp Q i ha)
    have kk := ih (red_I Q i2 mk hs (put_same.trans (i.un m mk)) hm)
    have km : sp ≠ m := fun z => hs (by rw [z]; exact mk)
    have im := full_iso Q i ha hn mk
    obtain ⟨r, hr, hrm⟩ := P.all m im
    have e : cnt R O l = cnt R O (pop (red l m sp) m) + 1 := by
      refine cnt_less P.nd hr (full_U Q i ha (full_reach Q i ha mk (hrm.back Q.nd (P.iso r hr).1))) (fun u => ?_) fun r' hr' hne => ?_
      · obtain ⟨s', _, b⟩ := u m hrm
        exact absurd rfl (mem_pop.mp b).2
      · have nq : ¬ Reach O r' m := fun q => hne (P.one r' hr' r hr (q.trans (hrm.back Q.nd (P.iso r hr).1)))
        exact (U_pop nq).trans (U_red Q i mk km (fun x h => src_o i mk h) nq)
    have e2 := len_pop (l := red l m sp) (m := m) (by rw [keys_red]; exact i.nd) (by rw [keys_red]; exact mk)
    rw [len_red] at e2
    rw [List.length_cons, List.length_cons, kk, e]
    omega
theorem U_self (Q : Org O sp) {r : Int} (h : InCyc O r) : U O O r := fun x hx => by
  obtain ⟨y, hy, ey⟩ := h
  have : ∃ s, (x, s) ∈ O := by
    rcases (hx.back Q.nd ⟨y, hy, ey⟩).head with z | ⟨b, h1, _⟩
    · subst z
      rcases hy.head with z | ⟨b, h1, _⟩
      · subst z; exact ⟨_, ey⟩
      · exact ⟨_, h1⟩
    · exact ⟨_, h1⟩
  obtain ⟨s, hs⟩ := this
  exact ⟨s, hs, hs⟩
theorem rows_many (Q : Org O sp) {R : List Int} (P : Reps O R) {rs : List (Row T)} (g : Go sp O (fun _ => none) rs) : rs.length = O.length + R.length := by
  rw [amount Q P g (start Q), cnt_all fun r hr => U_self Q (P.iso r hr).1]
theorem rows_do (Q : Org O sp) {rs : List (Row T)} (g : Go sp O (fun _ => none) rs) : (∀ m t, (m, t) ∈ O → acts Sum.inl rs m = t) ∧ ∀ m, m ∉ keys O → m ≠ sp → acts Sum.inl rs m = .inl m := effect Q g (start Q)
end Sq

set_option Elab.async false
set_option linter.all false
set_option maxRecDepth 100000
set_option maxHeartbeats 8000000
namespace Sq
open PySem PySem.Spec PyProof.Rows L2 Gh
def kb_int : List (Ty × Bool) := [(.non, false), (.bl, true), (.int, true), (.str, false), (.tup, false), (.lst, false), (.dic, false)]
def ko_int : List (Str × Bool) := [("MarkError", false), ("NoWrites", false), ("NoSpare", false)]
abbrev k_int : Tc → Option Bool := tcf kb_int ko_int
def kb_bool : List (Ty × Bool) := [(.non, false), (.bl, true), (.int, false), (.str, false), (.tup, false), (.lst, false), (.dic, false)]
def ko_bool : List (Str × Bool) := [("MarkError", false), ("NoWrites", false), ("NoSpare", false)]
abbrev k_bool : Tc → Option Bool := tcf kb_bool ko_bool
def kb_tuple : List (Ty × Bool) := [(.non, false), (.bl, false), (.int, false), (.str, false), (.tup, true), (.lst, false), (.dic, false)]
def ko_tuple : List (Str × Bool) := [("MarkError", false), ("NoWrites", false), ("NoSpare", false)]
abbrev k_tuple : Tc → Option Bool := tcf kb_tuple ko_tuple
def kb_str : List (Ty × Bool) := [(.non, false), (.bl, false), (.int, false), (.str, true), (.tup, false), (.lst, false), (.dic, false)]
def ko_str : List (Str × Bool) := [("MarkError", false), ("NoWrites", false), ("NoSpare", false)]
abbrev k_str : Tc → Option Bool := tcf kb_str ko_str
def kb_list_tuple : List (Ty × Bool) := [(.non, false), (.bl, false), (.int, false), (.str, false), (.tup, true), (.lst, true), (.dic, false)]
def ko_list_tuple : List (Str × Bool) := [("MarkError", false), ("NoWrites", false), ("NoSpare", false)]
abbrev k_list_tuple : Tc → Option Bool := tcf kb_list_tuple ko_list_tuple
def c_CONSTANTS : D := .tup [.str "on", .str "off"]
def g_is_integer : GS := gRet (gAndV (gIsc k_int (gVar 0)) (gNotV (gIsc k_bool (gVar 0))))
def f_is_integer : List D → PRes := runP 1 g_is_integer
def g_is_mark : GS := gRet (gAndV (gFnP 1 f_is_integer (gConsA (gVar 0) (gNilA))) (gBin (fI (iCmp fun i j => decide (j ≤ i))) (gVar 0) (gC (.int 0))))
def f_is_mark : List D → PRes := runP 1 g_is_mark
def g_is_write : GS := gSeq (gIf (gOr (gNot (gTst (gIsc k_tuple (gVar 0)))) (gOr (gTst (gBin (fEqS true) (gCall fLenD (gConsA (gVar 0) (gNilA))) (gC (.int 2)))) (gNot (gTst (gFnP 1 f_is_mark (gConsA (gBin fIxD (gVar 0) (gC (.int 0))) (gNilA))))))) (gRet (gC (.bl false))) (gNil)) (gRet (gOrV (gAndV (gIsc k_str (gBin fIxD (gVar 0) (gC (.int 1)))) (gBin (fInD false) (gBin fIxD (gVar 0) (gC (.int 1))) (gC c_CONSTANTS))) (gFnP 1 f_is_mark (gConsA (gBin fIxD (gVar 0) (gC (.int 1))) (gNilA)))))
def f_is_write : List D → PRes := runP 1 g_is_write
def fb0_look_writes : GS := gSeq (gIf (gOr (gNot (gTst (gFnP 1 f_is_write (gConsA (gVar 3) (gNilA))))) (gTst (gBin (fInD false) (gBin fIxD (gVar 3) (gC (.int 0))) (gVar 1)))) (gRaise "NoWrites" ["at"] (gConsA (gVar 2) (gNilA))) (gNil)) (gExpr (gMt .lst fAppend (gVar 1) (gConsA (gBin fIxD (gVar 3) (gC (.int 0))) (gNilA))))
def g_look_writes : GS := gSeq (gIf (gNot (gTst (gIsc k_list_tuple (gVar 0)))) (gRaise "NoWrites" ["at"] (gConsA (gNeg (gC (.int 1))) (gNilA))) (gNil)) (gSeq (gAsg (gNew (gNilA)) (gNm 1)) (gFor (gEnumA (gConsA (gVar 0) (gNilA))) (gTp [gNm 2, gNm 3]) (fb0_look_writes)))
def f_look_writes : List D → PRes := runP 4 g_look_writes
def le0_look_spare : GE := gBin (fInD false) (gVar 1) (gVar 2)
def g_look_spare : GS := gIf (gOr (gNot (gTst (gFnP 1 f_is_mark (gConsA (gVar 1) (gNilA))))) (gTst (gCall fAny (gConsA (fun ρ G => (gLcW (gSeqI (gVar 0)) [2] (gNm 2) (gYes) (le0_look_spare) ρ G).bind finT) (gNilA))))) (gRaise "NoSpare" ["spare"] (gConsA (gVar 1) (gNilA))) (gNil)
def f_look_spare : List D → PRes := runP 3 g_look_spare
def lt0_next_free : GT := gTst (gBin (fInD true) (gVar 2) (gValsL (gVar 0) false))
def le0_next_free : GE := gVar 2
def g_next_free : GS := gSeq (gLock 0 (gAsg (fun ρ G => (gLcW (gDicI .keys (gVar 0)) [2] (gNm 2) (lt0_next_free) (le0_next_free) ρ G).bind finT) (gNm 1))) (gRet (gIfE (gTst (gBin (fEqS true) (gVar 1) (gLst (gNilA)))) (gCall fMinD (gConsA (gVar 1) (gNilA))) (gC .non)))
def f_next_free : List W → Hg → Res W := runS 3 g_next_free
def le0_redirected : GE := gVar 3
def le1_redirected : GE := gIfE (gTst (gBin (fEqS false) (gVar 4) (gVar 1))) (gVar 2) (gVar 4)
def g_redirected : GS := gLock 0 (gRet (fun ρ G => (gDcW (gDicI .items (gVar 0)) [3, 4] (gTp [gNm 3, gNm 4]) (gYes) (le0_redirected) (le1_redirected) ρ G).bind finDN))
def f_redirected : List W → Hg → Res W := runS 5 g_redirected
def g_row_of : GS := gRet (gIfE (gTst (gBin (fInD false) (gVar 1) (gC c_CONSTANTS))) (gTup (gConsA (gVar 1) (gConsA (gVar 0) (gNilA)))) (gTup (gConsA (gC (.str "copy")) (gConsA (gVar 0) (gConsA (gVar 1) (gNilA))))))
def f_row_of : List D → PRes := runP 2 g_row_of
def lt0_sequence : GT := gTst (gBin (fEqS true) (gVar 5) (gVar 6))
def le0_sequence : GE := gVar 5
def lt1_sequence : GT := gTst (gBin (fEqS true) (gVar 5) (gVar 6))
def le1_sequence : GE := gVar 6
def lt2_sequence : GT := gTst (gBin (fInD false) (gVar 8) (gVar 3))
def le2_sequence : GE := gVar 8
def wc0_sequence : GT := gTst (gBin (fEqS true) (gVar 2) (gDicT))
def wb0_sequence : GS := gSeq (gAsg (gFnS 1 f_next_free (gConsA (gVar 2) (gNilA))) (gNm 5)) (gSeq (gIf (gTst (gIsN false (gVar 5))) (gSeq (gLock 2 (gAsg (gCall fSorted (gConsA (fun ρ G => (gLcW (gDicI .keys (gVar 2)) [8] (gNm 8) (lt2_sequence) (le2_sequence) ρ G).bind finT) (gNilA))) (gNm 7))) (gSeq (gAsg (gIfE (gTst (gBin (fEqS true) (gVar 7) (gLst (gNilA)))) (gBin fIxD (gVar 7) (gC (.int 0))) (gCall fMinD (gConsA (gVar 2) (gNilA)))) (gNm 5)) (gSeq (gIf (gTst (gBin (fEqS false) (gVar 7) (gLst (gNilA)))) (gExpr (gMt .lst fAppend (gVar 4) (gConsA (gTup (gConsA (gC (.str "copy")) (gConsA (gVar 1) (gConsA (gVar 5) (gNilA))))) (gNilA)))) (gNil)) (gAsg (gFnS 3 f_redirected (gConsA (gVar 2) (gConsA (gVar 5) (gConsA (gGet2 (gVar 3) (gVar 5) (gVar 1)) (gNilA))))) (gNm 2))))) (gNil)) (gSeq (gAsg (gPopD (gVar 2) (gVar 5)) (gNm 6)) (gSeq (gExpr (gMt .lst fAppend (gVar 4) (gConsA (gFnP 2 f_row_of (gConsA (gVar 5) (gConsA (gVar 6) (gNilA)))) (gNilA)))) (gAsg (gVar 5) (gSb (gVar 3) (gVar 6) fSetD)))))
def g_sequence : GS := gSeq (gExpr (gFnP 1 f_look_writes (gConsA (gVar 0) (gNilA)))) (gSeq (gExpr (gFnP 2 f_look_spare (gConsA (gVar 0) (gConsA (gVar 1) (gNilA))))) (gSeq (gAsg (fun ρ G => (gDcW (gSeqI (gVar 0)) [5, 6] (gTp [gNm 5, gNm 6]) (lt1_sequence) (le0_sequence) (le1_sequence) ρ G).bind finDN) (gNm 2)) (gSeq (gAsg (gDicN) (gNm 3)) (gSeq (gAsg (gNew (gNilA)) (gNm 4)) (gSeq (whileN (wc0_sequence) (wb0_sequence) 1000000) (gRet (gVar 4)))))))
def f_sequence : List D → PRes := runP 9 g_sequence
end Sq

set_option Elab.async false
set_option linter.all false
set_option maxRecDepth 100000
set_option maxHeartbeats 8000000
namespace Sq
open PySem PySem.Spec PyProof.Rows L2 Gh
def tS : Bool → Str
  | true => "on"
  | false => "off"
def sK : S Bool → Key
  | .inl k => .inl k
  | .inr b => .inr (tS b)
def sD (s : S Bool) : D := kD (sK s)
theorem tS_inj {a b : Bool} (h : tS a = tS b) : a = b := by
  revert h
  cases a <;> cases b <;> decide
theorem sK_inj {a b : S Bool} (h : sK a = sK b) : a = b := by
  cases a <;> cases b <;> simp only [sK] at h
  · injection h with h; rw [h]
  · cases h
  · cases h
  · injection h with h; rw [tS_inj h]
theorem strOk_tS {b : Bool} : PyData.strOk (tS b) = true := by cases b <;> decide +kernel
theorem okE_s {s : S Bool} : OkE (sD s) := by
  cases s with
  | inl k => exact okE_int
  | inr b => exact okE_str strOk_tS
theorem eqD_s {a b : S Bool} : eqD (sD a) (sD b) = decide (a = b) := by
  cases a with
  | inl x =>
    cases b with
    | inl y =>
      show eqD (.int x) (.int y) = _
      rw [eqD_int, Bool.eq_iff_iff]; simp
    | inr y => simp [sD, sK, kD, eqD, toPy, PyData.eqv]
  | inr x =>
    cases b with
    | inl y => simp [sD, sK, kD, eqD, toPy, PyData.eqv]
    | inr y =>
      show eqD (.str (tS x)) (.str (tS y)) = _
      rw [eqD_str, Bool.eq_iff_iff]
      simp only [beq_iff_eq, decide_eq_true_eq]
      exact ⟨fun h => by rw [tS_inj h], fun h => by injection h with h; rw [h]⟩
theorem eqS_s {neg : Bool} {G : Hg} {a b : S Bool} : fEqS neg (.d (sD a)) (.d (sD b)) G = some (.d (.bl (neg ^^ decide (a = b))), G) := by
  by_cases h : ∃ x y, a = .inr x ∧ b = .inr y
  · obtain ⟨x, y, rfl, rfl⟩ := h
    show fEqS neg (.d (.str (tS x))) (.d (.str (tS y))) G = _
    rw [Gh.eq_str]
    have e : decide (tS x = tS y) = decide ((Sum.inr x : S Bool) = Sum.inr y) := by cases x <;> cases y <;> decide
    rw [e]
  · rw [eq_ok (okD_E okE_s) (okD_E okE_s) (fun _ z => by cases a <;> cases z) (fun _ z => by cases b <;> cases z) (fun x y z => by
      cases a with
      | inl _ => cases z.1
      | inr p =>
        cases b with
        | inl _ => cases z.2
        | inr q => exact h ⟨p, q, rfl, rfl⟩), eqD_s]
def repL (l : Wr Bool) : List (Key × W) := l.map fun p => (.inl p.1, .d (sD p.2))
theorem repL_keys {l : Wr Bool} : (repL l).map (·.1) = (keys l).map Sum.inl := by unfold repL keys; rw [List.map_map, List.map_map]; rfl
theorem repL_len {l : Wr Bool} : (repL l).length = l.length := List.length_map ..
theorem repL_nodup {l : Wr Bool} (nd : (keys l).Nodup) : ((repL l).map (·.1)).Nodup := by
  rw [repL_keys]
  exact nd.map _ fun a b n e => n (by injection e)
theorem repL_keysW {l : Wr Bool} : (DicK.keys.of (rep (repL l))) = (keys l).map fun m => W.d (.int m) := by
  unfold DicK.of rep repL keys
  simp only [List.map_map]
  rfl
theorem repL_vals {l : Wr Bool} : (rep (repL l)).map (·.2) = ((vals l).map sD).map W.d := by
  unfold rep repL vals
  simp only [List.map_map]
  rfl
theorem repL_items {l : Wr Bool} : DicK.items.of (rep (repL l)) = l.map fun p => W.d (.tup [.int p.1, sD p.2]) := by
  unfold DicK.of rep repL
  simp only [List.map_map]
  rfl
theorem repL_pop {l : Wr Bool} {m : Int} : (repL l).filter (fun p => !decide (p.1 = Sum.inl m)) = repL (pop l m) := by
  unfold repL pop
  rw [List.filter_map]
  congr 1
  refine List.filter_congr fun p _ => ?_
  show (!decide ((Sum.inl p.1 : Key) = Sum.inl m)) = !decide (p.1 = m)
  congr 2
  simp
theorem repL_get {l : Wr Bool} (nd : (keys l).Nodup) {m : Int} {s : S Bool} (h : (m, s) ∈ l) : lkA (repL l) (.inl m) = some (.d (sD s)) :=
  lk_of (repL_nodup nd) (List.mem_map.mpr ⟨_, h, rfl⟩)
theorem intsW_map : ∀ ns : List Int, intsW (ns.map fun n => W.d (.int n)) = some ns
  | [] => rfl
  | n :: ns => by
    show (intsW (ns.map fun n => W.d (.int n))).map _ = _
    rw [intsW_map ns]; rfl
theorem ints_d (ns : List Int) : (ns.map fun n => W.d (.int n)) = (ns.map D.int).map W.d := by rw [List.map_map]; rfl
theorem mkLst_ints (ns : List Int) : mkLst (ns.map fun n => W.d (.int n)) = some (.d (.lst (ns.map .int))) := by rw [ints_d, mkLst_d]
theorem finT_ints {ns : List Int} {G : Hg} : finT (ns.map fun n => W.d (.int n)) G = .ok (.d (.lst (ns.map .int))) G := by unfold finT; rw [mkLst_ints]
theorem lstI_ints {ns : List Int} {G : Hg} : lstI (.d (.lst (ns.map .int))) G = some ns := by
  unfold lstI
  show (match seqW (.d (.lst (ns.map D.int))) G with | some (true, ws) => intsW ws | _ => none) = _
  rw [show seqW (.d (.lst (ns.map D.int))) G = some (true, (ns.map D.int).map W.d) from rfl, ← ints_d]
  exact intsW_map ns
theorem neNil_ints {neg : Bool} {ns : List Int} {G : Hg} : fEqS neg (.d (.lst (ns.map .int))) (.d (.lst [])) G = some (.d (.bl (neg ^^ ns.isEmpty)), G) := by
  rw [eq_ok (okD_lst (fun d hd => by obtain ⟨n, _, rfl⟩ := List.mem_map.mp hd; exact okE_int)) (okD_lst (ds := []) (fun d hd => by cases hd)) (fun _ z => by cases z) (fun _ z => by cases z) (fun _ _ z => by cases z.1), eqD_nil]
  cases ns <;> rfl
theorem min_ints {ns : List Int} {G : Hg} (h : ns ≠ []) : fMinD [.d (.lst (ns.map .int))] G = some (.d (.int (minI ns)), G) := by
  unfold fMinD
  show fMin [.d (.lst (ns.map .int))] G = _
  unfold fMin
  show (lstI (.d (.lst (ns.map .int))) G).bind _ = _
  rw [lstI_ints]
  cases ns with
  | nil => exact absurd rfl h
  | cons a r => rfl
theorem minI_mem : ∀ {ns : List Int}, ns ≠ [] → minI ns ∈ ns
  | [], h => absurd rfl h
  | x :: xs, _ => by
    have gen : ∀ (xs : List Int) (a : Int), xs.foldl (fun a b => if b < a then b else a) a = a ∨ xs.foldl (fun a b => if b < a then b else a) a ∈ xs := by
      intro xs
      induction xs with
      | nil => intro a; exact .inl rfl
      | cons y ys ih =>
        intro a
        rw [List.foldl_cons]
        rcases ih (if y < a then y else a) with z | z
        · rw [z]
          by_cases c : y < a
          · rw [if_pos c]; exact .inr (List.mem_cons_self ..)
          · rw [if_neg c]; exact .inl rfl
        · exact .inr (List.mem_cons_of_mem _ z)
    show xs.foldl (fun a b => if b < a then b else a) x ∈ x :: xs
    rcases gen xs x with z | z
    · rw [z]; exact List.mem_cons_self ..
    · exact List.mem_cons_of_mem _ z
/-! ### next_free -/
def rd (l : Wr Bool) (m : Int) : Bool := l.any fun p => decide (p.2 = .inl m)
theorem rd_iff {l : Wr Bool} {m : Int} : rd l m = true ↔ Sum.inl m ∈ vals l := by
  unfold rd vals
  rw [List.any_eq_true, List.mem_map]
  exact ⟨fun ⟨p, h, e⟩ => ⟨p, h, by simpa using e⟩, fun ⟨p, h, e⟩ => ⟨p, h, by simpa using e⟩⟩
def frees (l : Wr Bool) : List Int := (keys l).filter fun m => !rd l m
def nf (l : Wr Bool) : D := if frees l = [] then .non else .int (minI (frees l))
theorem in_vals {l : Wr Bool} {m : Int} : inD (.int m) ((vals l).map sD) = rd l m := by
  unfold inD
  rw [List.any_map, Bool.eq_iff_iff, rd_iff]
  simp only [List.any_eq_true, Function.comp]
  refine ⟨fun ⟨v, hv, e⟩ => ?_, fun h => ⟨_, h, ?_⟩⟩
  · have e2 : eqD (sD v) (sD (.inl m)) = true := e
    rw [eqD_s, decide_eq_true_eq] at e2
    rw [← e2]; exact hv
  · show eqD (sD (.inl m)) (sD (.inl m)) = true
    rw [eqD_s]; simp
theorem free_ok {G : Hg} {j : Nat} {l : Wr Bool} (h : G[j]? = some (.dic false (rep (repL l)))) (hl : l.length ≤ 1000) : f_next_free [.ref j] G = .ok (.d (nf l)) G := by
  have hj : j < G.length := (List.getElem?_eq_some_iff.mp h).1
  have e0 : envS 3 [.ref j] = [some (.ref j), none, none] := rfl
  have h1 : (G.set j (.lkd false (rep (repL l))))[j]? = some (.lkd false (rep (repL l))) := List.getElem?_set_self hj
  have lc : lcL (gNm 2) lt0_next_free le0_next_free (fun _ => true) (wipeG [some (.ref j), none, none] [2]) ((keys l).map fun m => W.d (.int m)) [] (G.set j (.lkd false (rep (repL l)))) =
      .ok ([] ++ ((keys l).map fun m => W.d (.int m)).filterMap (fun w => match w with | .d (.int m) => if rd l m = true then none else some (.d (.int m)) | _ => none)) (G.set j (.lkd false (rep (repL l)))) := by
    refine lcL_on _ rfl _ _ (fun w hw => ?_) (by simp [keys]; omega)
    obtain ⟨m, _, rfl⟩ := List.mem_map.mp hw
    refine ⟨[some (.ref j), none, some (.d (.int m))], rfl, ?_⟩
    have t : lt0_next_free [some (.ref j), none, some (.d (.int m))] (G.set j (.lkd false (rep (repL l)))) = .ok (!rd l m) (G.set j (.lkd false (rep (repL l)))) := by
      unfold lt0_next_free
      refine ts_ok (b_ok (v_ok rfl) (y := .d (.lst ((vals l).map sD))) (G2 := G.set j (.lkd false (rep (repL l)))) ?_ ?_)
      · unfold gValsL
        rw [v_ok (w := .ref j) rfl, bind_ok, dic_lk h1]
        simp only [repL_vals, mkLst_d, Bool.false_eq_true, if_false]
      · rw [inL_ok okE_int (fun d hd => by obtain ⟨s, _, rfl⟩ := List.mem_map.mp hd; exact okE_s), in_vals, Bool.true_xor]
    by_cases c : rd l m = true
    · exact .inl ⟨by simp [c], by rw [t]; simp [c]⟩
    · exact .inr ⟨.d (.int m), by simp [c], by rw [t]; simp [c], rfl⟩
  have fm : ((keys l).map fun m => W.d (.int m)).filterMap (fun w => match w with | .d (.int m) => if rd l m = true then none else some (.d (.int m)) | _ => none) = (frees l).map fun m => W.d (.int m) := by
    unfold frees
    induction keys l with
    | nil => rfl
    | cons m r ih =>
      rw [List.map_cons, List.filterMap_cons]
      by_cases c : rd l m = true
      · simp only [c, if_true, ih]
        rw [List.filter_cons, if_neg (by simp [c])]
      · have c' : rd l m = false := by simpa using c
        simp only [c', Bool.false_eq_true, if_false, ih]
        rw [List.filter_cons, if_pos (by simp [c']), List.map_cons]
  rw [fm, List.nil_append] at lc
  have st : gLock 0 (gAsg (fun ρ G => (gLcW (gDicI .keys (gVar 0)) [2] (gNm 2) lt0_next_free le0_next_free ρ G).bind finT) (gNm 1)) [some (.ref j), none, none] G = .nx [some (.ref j), some (.d (.lst ((frees l).map .int))), none] G := by
    have := lk_ok (k := 0) (ρ := [some (.ref j), none, none]) (G := G) (i := j) (t := false) (kvs := rep (repL l)) (ρ1 := [some (.ref j), some (.d (.lst ((frees l).map .int))), none]) (G1 := G.set j (.lkd false (rep (repL l))))
      (s := gAsg (fun ρ G => (gLcW (gDicI .keys (gVar 0)) [2] (gNm 2) lt0_next_free le0_next_free ρ G).bind finT) (gNm 1)) rfl h (by
        refine as_ok (k := 1) (w := .d (.lst ((frees l).map .int))) (ρ := [some (.ref j), none, none]) ?_
        show (gLcW _ _ _ _ _ _ _).bind finT = _
        unfold gLcW
        rw [di_ok (v_ok (w := .ref j) rfl) h1, bind_ok, repL_keysW, lc, bind_ok, finT_ints]) h1
    rw [this, set_back h]
  refine runS_ret (w := .d (nf l)) ?_ rfl
  rw [e0]
  unfold g_next_free
  rw [sq_nx st]
  refine re_ok ?_
  unfold nf
  by_cases c : frees l = []
  · rw [if_pos c]
    refine (ie_f (G1 := G) (ts_ok (b_ok (v_ok rfl) (ls_ok n_ok rfl rfl) (neNil_ints.trans ?_)))).trans rfl
    rw [c]; rfl
  · rw [if_neg c]
    refine (ie_t (G1 := G) (ts_ok (b_ok (v_ok rfl) (ls_ok n_ok rfl rfl) (neNil_ints.trans ?_)))).trans (cl_ok (a_ok (v_ok rfl) n_ok) (min_ints c))
    cases q : frees l with
    | nil => exact absurd q c
    | cons _ _ => rfl
end Sq

set_option Elab.async false
set_option linter.all false
set_option maxRecDepth 100000
set_option maxHeartbeats 8000000
namespace Sq
open PySem PySem.Spec PyProof.Rows L2 Gh
/-! ### redirected -/
def itF (m : Int) (v : W) : W → Option (Key × W)
  | .d (.tup [.int x, .int y]) => some (.inl x, if y = m then v else .d (.int y))
  | .d (.tup [.int x, .str t]) => some (.inl x, .d (.str t))
  | _ => none
theorem itF_ok {m k : Int} {p : Int × S Bool} : itF m (.d (.int k)) (.d (.tup [.int p.1, sD p.2])) = some (.inl p.1, .d (sD (if p.2 = .inl m then (p.1, (.inl k : S Bool)) else p).2)) := by
  obtain ⟨x, s⟩ := p
  cases s with
  | inl y =>
    show some ((Sum.inl x : Key), if y = m then W.d (.int k) else .d (.int y)) = _
    by_cases c : y = m
    · rw [if_pos c, if_pos (by rw [c])]; rfl
    · rw [if_neg c, if_neg (fun z => c (by injection z))]; rfl
  | inr b =>
    rw [if_neg (fun z => by cases z)]
    cases b <;> rfl
theorem itF_map {m k : Int} : ∀ l : Wr Bool, (l.map fun p => W.d (.tup [.int p.1, sD p.2])).filterMap (itF m (.d (.int k))) = repL (red l m k)
  | [] => rfl
  | p :: l => by
    rw [List.map_cons, List.filterMap_cons, itF_ok]
    show _ :: _ = repL (_ :: red l m k)
    rw [itF_map l]
    unfold repL
    rw [List.map_cons]
    congr 2
    show (Sum.inl p.1 : Key) = Sum.inl (if p.2 = .inl m then ((p.1, .inl k) : Int × S Bool) else p).1
    by_cases c : p.2 = .inl m
    · rw [if_pos c]
    · rw [if_neg c]
theorem red_ok {G : Hg} {j : Nat} {l : Wr Bool} {m k : Int} (h : G[j]? = some (.dic false (rep (repL l)))) (nd : (keys l).Nodup) (hl : l.length ≤ 1000) : f_redirected [.ref j, .d (.int m), .d (.int k)] G = .ok (.ref G.length) (G ++ [.dic false (rep (repL (red l m k)))]) := by
  have hj : j < G.length := (List.getElem?_eq_some_iff.mp h).1
  have e0 : envS 5 [.ref j, .d (.int m), .d (.int k)] = [some (.ref j), some (.d (.int m)), some (.d (.int k)), none, none] := rfl
  have h1 : (G.set j (.lkd false (rep (repL l))))[j]? = some (.lkd false (rep (repL l))) := List.getElem?_set_self hj
  have dc := dcL_on (G := G.set j (.lkd false (rep (repL l)))) (t := gTp [gNm 3, gNm 4]) (tt := gYes) (ek := le0_redirected) (ev := le1_redirected) (ck := fun _ => true) (ρ0 := wipeG [some (.ref j), some (.d (.int m)), some (.d (.int k)), none, none] [3, 4])
    (itF m (.d (.int k))) rfl (l.map fun p => W.d (.tup [.int p.1, sD p.2])) [] (fun w hw => by
      obtain ⟨p, _, rfl⟩ := List.mem_map.mp hw
      refine ⟨[some (.ref j), some (.d (.int m)), some (.d (.int k)), some (.d (.int p.1)), some (.d (sD p.2))], rfl, .inr ⟨.inl p.1, _, itF_ok, rfl, rfl, ?_⟩⟩
      unfold le1_redirected
      have t := ts_ok (b_ok (f := fEqS false) (a := gVar 4) (b := gVar 1) (ρ := [some (.ref j), some (.d (.int m)), some (.d (.int k)), some (.d (.int p.1)), some (.d (sD p.2))]) (G := G.set j (.lkd false (rep (repL l)))) (v_ok rfl) (v_ok rfl) (eqS_s (neg := false) (a := p.2) (b := .inl m)))
      by_cases c : p.2 = .inl m
      · rw [if_pos c]
        rw [decide_eq_true c] at t
        rw [ie_t t]
        rfl
      · rw [if_neg c]
        rw [decide_eq_false c] at t
        rw [ie_f t]
        rfl) (by simp; omega)
  rw [itF_map, fold_new (acc := []) (by rw [List.nil_append]; exact repL_nodup (by rw [keys_red]; exact nd)), List.nil_append] at dc
  have g1 : ((G.set j (.lkd false (rep (repL l)))) ++ [GO.dic false (rep (repL (red l m k)))])[j]? = some (.lkd false (rep (repL l))) := by rw [List.getElem?_append_left (by simpa using hj)]; exact h1
  have st := lk_ret (k := 0) (ρ := [some (.ref j), some (.d (.int m)), some (.d (.int k)), none, none]) (G := G) (i := j) (t := false) (kvs := rep (repL l)) (w := .ref G.length) (G1 := (G.set j (.lkd false (rep (repL l)))) ++ [GO.dic false (rep (repL (red l m k)))])
    (s := gRet (fun ρ G => (gDcW (gDicI .items (gVar 0)) [3, 4] (gTp [gNm 3, gNm 4]) (gYes) (le0_redirected) (le1_redirected) ρ G).bind finDN)) rfl h (by
      refine re_ok ?_
      show (gDcW _ _ _ _ _ _ _ _).bind finDN = _
      unfold gDcW
      rw [di_ok (v_ok (w := .ref j) rfl) h1, bind_ok, repL_items]
      have dc' := dc
      rw [show rep ([] : List (Key × W)) = [] from rfl] at dc'
      rw [dc', bind_ok]
      unfold finDN
      rw [List.length_set]) g1
  have back : ((G.set j (.lkd false (rep (repL l)))) ++ [GO.dic false (rep (repL (red l m k)))]).set j (.dic false (rep (repL l))) = G ++ [.dic false (rep (repL (red l m k)))] := by
    rw [List.set_append_left _ _ (by simpa using hj), set_back h]
  rw [back] at st
  show runS 5 g_redirected _ _ = _
  unfold runS
  rw [e0]
  unfold g_redirected
  rw [st]
  unfold endS
  have nb : belowW G.length (.ref G.length) = false := by simp [belowW]
  simp only [nb, Bool.false_eq_true, if_false]
/-! ### row_of -/
def rowD : Row Bool → D
  | .copy m k => .tup [.str "copy", .int m, .int k]
  | .const b m => .tup [.str (tS b), .int m]
theorem const_in {G : Hg} {s : S Bool} : fInD false (.d (sD s)) (.d c_CONSTANTS) G = some (.d (.bl (match s with | .inl _ => false | .inr _ => true)), G) := by
  have h : ∀ d ∈ [D.str "on", D.str "off"], OkE d := fun d hd => by
    rcases List.mem_cons.mp hd with rfl | hd
    · exact okE_str (by decide +kernel)
    · rcases List.mem_cons.mp hd with rfl | hd
      · exact okE_str (by decide +kernel)
      · cases hd
  show fInD false (.d (sD s)) (.d (.tup [.str "on", .str "off"])) G = _
  rw [inT_ok okE_s h, Bool.false_xor]
  have e : inD (sD s) [D.str "on", D.str "off"] = (eqD (sD (.inr true)) (sD s) || (eqD (sD (.inr false)) (sD s) || false)) := rfl
  rw [e, eqD_s, eqD_s]
  cases s with
  | inl _ => simp
  | inr b => cases b <;> simp
theorem row_ok {m : Int} {s : S Bool} : f_row_of [.int m, sD s] = .ok (rowD (rowOf m s)) := by
  show runP 2 g_row_of _ = _
  unfold runP
  have e0 : envP 2 [.int m, sD s] = [some (.d (.int m)), some (.d (sD s))] := rfl
  rw [e0]
  have k : g_row_of [some (.d (.int m)), some (.d (sD s))] [] = .ret (.d (rowD (rowOf m s))) [] := by
    unfold g_row_of
    refine re_ok ?_
    have t := ts_ok (b_ok (f := fInD false) (a := gVar 1) (b := gC c_CONSTANTS) (ρ := [some (.d (.int m)), some (.d (sD s))]) (G := []) (v_ok rfl) c_ok const_in)
    cases s with
    | inl k => rw [ie_f t]; exact tp_ok (a_ok c_ok (a_ok (v_ok rfl) (a_ok (v_ok rfl) n_ok))) rfl rfl
    | inr b => rw [ie_t t]; exact tp_ok (a_ok (v_ok rfl) (a_ok (v_ok rfl) n_ok)) rfl rfl
  rw [k]
  rfl
/-! ### the loop -/
structure Kp (ks : List (Key × W)) (f : Int → Option Int) : Prop where
  eq : ∀ x, lkA ks (.inl x) = (f x).map fun k => W.d (.int k)
theorem Kp.put {ks : List (Key × W)} {f : Int → Option Int} (h : Kp ks f) (s : S Bool) (m : Int) : Kp (ptA ks (sK s) (.d (.int m))) (kset f s m) := ⟨fun x => by
  rw [lk_pt]
  unfold kset
  by_cases c : s = .inl x
  · rw [if_pos c, if_pos (by rw [c]; rfl)]; rfl
  · rw [if_neg c, if_neg (fun z => c (sK_inj (a := s) (b := .inl x) z.symm))]; exact h.eq x⟩
structure St (ρ : GEnv) (G : Hg) (sp : Int) (j : Nat) (l : Wr Bool) (ks : List (Key × W)) (rows : List (Row Bool)) : Prop where
  len : ρ.length = 9
  h1 : ρ[1]? = some (some (.d (.int sp)))
  h2 : ρ[2]? = some (some (.ref j))
  h3 : ρ[3]? = some (some (.ref 1))
  h4 : ρ[4]? = some (some (.ref 2))
  j1 : j ≠ 1
  j2 : j ≠ 2
  g : G[j]? = some (.dic false (rep (repL l)))
  g1 : G[1]? = some (.dic false (rep ks))
  g2 : G[2]? = some (.lst ((rows.map rowD).map .d))
  nl : NoL G
abbrev tailS : GS := gSeq (gAsg (gPopD (gVar 2) (gVar 5)) (gNm 6)) (gSeq (gExpr (gMt .lst fAppend (gVar 4) (gConsA (gFnP 2 f_row_of (gConsA (gVar 5) (gConsA (gVar 6) (gNilA)))) (gNilA)))) (gAsg (gVar 5) (gSb (gVar 3) (gVar 6) fSetD)))
theorem tail_ok {ρ : GEnv} {G : Hg} {sp m : Int} {j : Nat} {l : Wr Bool} {ks : List (Key × W)} {rows : List (Row Bool)} {s : S Bool} (t : St ρ G sp j l ks rows) (h5 : ρ[5]? = some (some (.d (.int m)))) (nd : (keys l).Nodup) (hm : (m, s) ∈ l) (hk : ks.length < 10000) (hr : rows.length < 10000) :
    ∃ ρ' G', tailS ρ G = .nx ρ' G' ∧ St ρ' G' sp j (pop l m) (ptA ks (sK s) (.d (.int m))) (rows ++ [rowOf m s]) := by
  have hj : j < G.length := (List.getElem?_eq_some_iff.mp t.g).1
  have b1 : 1 < G.length := (List.getElem?_eq_some_iff.mp t.g1).1
  have b2 : 2 < G.length := (List.getElem?_eq_some_iff.mp t.g2).1
  have p1 := as_ok (k := 6) (popD_ok (o := gVar 2) (a := gVar 5) (ρ := ρ) (G := G) (i := j) (q := .inl m) (l := repL l) (z := .d (sD s)) (v_ok t.h2) (v_ok h5) (by rw [dic_w t.g]; rfl) t.g (repL_get nd hm))
  rw [repL_pop] at p1
  have l6 : (ρ.set 6 (some (.d (sD s))))[6]? = some (some (.d (sD s))) := set_at (by rw [t.len]; decide)
  have o : ∀ i, i ≠ 6 → (ρ.set 6 (some (.d (sD s))))[i]? = ρ[i]? := fun i hi => List.getElem?_set_ne (Ne.symm hi)
  have g2' : (G.set j (.dic false (rep (repL (pop l m)))))[2]? = some (.lst ((rows.map rowD).map .d)) := by rw [List.getElem?_set_ne t.j2]; exact t.g2
  have p2 := ex_ok (ap_ok (o := gVar 4) (a := gFnP 2 f_row_of (gConsA (gVar 5) (gConsA (gVar 6) gNilA))) (ρ := ρ.set 6 (some (.d (sD s)))) (G := G.set j (.dic false (rep (repL (pop l m))))) (k := 2) (v_ok (by rw [o 4 (by decide)]; exact t.h4))
    (fp_ok (ds := [.int m, sD s]) (a_ok (v_ok (by rw [o 5 (by decide)]; exact h5)) (a_ok (v_ok l6) n_ok)) rfl row_ok) ⟨_, g2'⟩ g2' (by simp; omega))
  have g1' : ((G.set j (.dic false (rep (repL (pop l m))))).set 2 (.lst (((rows.map rowD).map .d) ++ [.d (rowD (rowOf m s))])))[1]? = some (.dic false (rep ks)) := by
    rw [List.getElem?_set_ne (by decide), List.getElem?_set_ne t.j1]; exact t.g1
  have p3 := asb_ok (c := gVar 5) (o := gVar 3) (a := gVar 6) (f := fSetD) (ρ := ρ.set 6 (some (.d (sD s)))) (v_ok (by rw [o 5 (by decide)]; exact h5)) (v_ok (by rw [o 3 (by decide)]; exact t.h3)) (v_ok l6) (setD_ok (q := sK s) (u := .d (.int m)) g1' (by omega))
  refine ⟨ρ.set 6 (some (.d (sD s))), _, (sq_nx p1).trans ((sq_nx p2).trans p3), ?_⟩
  refine ⟨by rw [List.length_set]; exact t.len, by rw [o 1 (by decide)]; exact t.h1, by rw [o 2 (by decide)]; exact t.h2, by rw [o 3 (by decide)]; exact t.h3, by rw [o 4 (by decide)]; exact t.h4, t.j1, t.j2, ?_, ?_, ?_, ?_⟩
  · rw [List.getElem?_set_ne (Ne.symm t.j1), List.getElem?_set_ne (Ne.symm t.j2)]
    exact List.getElem?_set_self hj
  · exact List.getElem?_set_self (by simpa using b1)
  · rw [List.getElem?_set_ne (by decide), List.getElem?_set_self (by simpa using b2)]
    simp
  · exact ((t.nl.set j rfl).set 2 rfl).set 1 rfl

/-! one turn -/
theorem frees_nil {l : Wr Bool} (h : frees l = []) : ∀ x ∈ keys l, Sum.inl x ∈ vals l := fun x hx => by
  refine Classical.byContradiction fun n => ?_
  have : x ∈ frees l := List.mem_filter.mpr ⟨hx, by
    cases q : rd l x with
    | true => exact absurd (rd_iff.mp q) n
    | false => rfl⟩
  rw [h] at this
  cases this
theorem frees_mem {l : Wr Bool} {m : Int} (h : m ∈ frees l) : m ∈ keys l ∧ Sum.inl m ∉ vals l := by
  obtain ⟨h1, h2⟩ := List.mem_filter.mp h
  refine ⟨h1, fun z => ?_⟩
  rw [rd_iff.mpr z] at h2
  cases h2
theorem St.set {ρ : GEnv} {G : Hg} {sp : Int} {j : Nat} {l : Wr Bool} {ks : List (Key × W)} {rows : List (Row Bool)} (t : St ρ G sp j l ks rows) (i : Nat) (x : Option W) (h1 : i ≠ 1) (h2 : i ≠ 2) (h3 : i ≠ 3) (h4 : i ≠ 4) : St (ρ.set i x) G sp j l ks rows :=
  ⟨by rw [List.length_set]; exact t.len, by rw [List.getElem?_set_ne h1]; exact t.h1, by rw [List.getElem?_set_ne h2]; exact t.h2, by rw [List.getElem?_set_ne h3]; exact t.h3, by rw [List.getElem?_set_ne h4]; exact t.h4, t.j1, t.j2, t.g, t.g1, t.g2, t.nl⟩
/-- the marks left that were kept -/
def savedL (l : Wr Bool) (f : Int → Option Int) : List Int := (keys l).filter fun m => (f m).isSome
abbrev savedG : GS := gLock 2 (gAsg (gCall fSorted (gConsA (fun ρ G => (gLcW (gDicI .keys (gVar 2)) [8] (gNm 8) (lt2_sequence) (le2_sequence) ρ G).bind finT) (gNilA))) (gNm 7))
theorem saved_ok {ρ : GEnv} {G : Hg} {sp : Int} {j : Nat} {l : Wr Bool} {ks : List (Key × W)} {rows : List (Row Bool)} {f : Int → Option Int} (t : St ρ G sp j l ks rows) (hk : Kp ks f) (hl : l.length ≤ 1000) :
    savedG ρ G = .nx (ρ.set 7 (some (.d (.lst ((sortI (savedL l f)).map .int))))) G := by
  have hj : j < G.length := (List.getElem?_eq_some_iff.mp t.g).1
  have h1 : (G.set j (.lkd false (rep (repL l))))[j]? = some (.lkd false (rep (repL l))) := List.getElem?_set_self hj
  have k1 : (G.set j (.lkd false (rep (repL l))))[1]? = some (.dic false (rep ks)) := by rw [List.getElem?_set_ne t.j1]; exact t.g1
  have lc := lcL_on (G := G.set j (.lkd false (rep (repL l)))) (t := gNm 8) (tt := lt2_sequence) (e := le2_sequence) (ck := fun _ => true) (ρ0 := wipeG ρ [8]) (fun w => match w with | .d (.int m) => if (f m).isSome = true then some (.d (.int m)) else none | _ => none) rfl ((keys l).map fun m => W.d (.int m)) [] (fun w hw => by
    obtain ⟨m, _, rfl⟩ := List.mem_map.mp hw
    have r8 : ((wipeG ρ [8]).set 8 (some (.d (.int m))))[8]? = some (some (.d (.int m))) := List.getElem?_set_self (by show 8 < (ρ.set 8 none).length; rw [List.length_set, t.len]; decide)
    have r3 : ((wipeG ρ [8]).set 8 (some (.d (.int m))))[3]? = some (some (.ref 1)) := by
      rw [List.getElem?_set_ne (by decide)]
      show (ρ.set 8 none)[3]? = _
      rw [List.getElem?_set_ne (by decide)]; exact t.h3
    refine ⟨(wipeG ρ [8]).set 8 (some (.d (.int m))), rfl, ?_⟩
    have tt := ts_ok (b_ok (f := fInD false) (a := gVar 8) (b := gVar 3) (G := G.set j (.lkd false (rep (repL l)))) (v_ok r8) (v_ok r3) (inD_ok (neg := false) (q := .inl m) (dic_w k1)))
    rw [hk.eq, Bool.false_xor, Option.isSome_map] at tt
    by_cases c : (f m).isSome = true
    · rw [c] at tt
      exact .inr ⟨.d (.int m), by simp [c], tt, v_ok r8⟩
    · have c' : (f m).isSome = false := by simpa using c
      rw [c'] at tt
      exact .inl ⟨by simp [c'], tt⟩) (by simp [keys]; omega)
  have fm : ((keys l).map fun m => W.d (.int m)).filterMap (fun w => match w with | .d (.int m) => if (f m).isSome = true then some (.d (.int m)) else none | _ => none) = (savedL l f).map fun m => W.d (.int m) := by
    unfold savedL
    induction keys l with
    | nil => rfl
    | cons m r ih =>
      rw [List.map_cons, List.filterMap_cons]
      by_cases c : (f m).isSome = true
      · simp only [c, if_true, ih]
        rw [List.filter_cons, if_pos (by simp [c]), List.map_cons]
      · have c' : (f m).isSome = false := by simpa using c
        simp only [c', Bool.false_eq_true, if_false, ih]
        rw [List.filter_cons, if_neg (by simp [c'])]
  rw [fm, List.nil_append] at lc
  have st := lk_ok (k := 2) (ρ := ρ) (G := G) (i := j) (t := false) (kvs := rep (repL l)) (ρ1 := ρ.set 7 (some (.d (.lst ((sortI (savedL l f)).map .int))))) (G1 := G.set j (.lkd false (rep (repL l))))
      (s := gAsg (gCall fSorted (gConsA (fun ρ G => (gLcW (gDicI .keys (gVar 2)) [8] (gNm 8) (lt2_sequence) (le2_sequence) ρ G).bind finT) (gNilA))) (gNm 7)) t.h2 t.g (by
        refine as_ok (cl_ok (a_ok (w := .d (.lst ((savedL l f).map .int))) (G1 := G.set j (.lkd false (rep (repL l)))) ?_ n_ok) ?_)
        · show (gLcW _ _ _ _ _ _ _).bind finT = _
          unfold gLcW
          rw [di_ok (v_ok t.h2) h1, bind_ok, repL_keysW, lc, bind_ok, finT_ints]
        · show (lstI _ _).map _ = _
          rw [lstI_ints]
          rfl) h1
  rw [set_back t.g] at st
  exact st
theorem minD_ok {G : Hg} {j : Nat} {l : Wr Bool} (h : G[j]? = some (.dic false (rep (repL l)))) (hl : l ≠ []) : fMinD [.ref j] G = some (.d (.int (minI (keys l))), G) := by
  have e : keysI (rep (repL l)) = some (keys l) := by
    clear hl h
    induction l with
    | nil => rfl
    | cons p l ih =>
      show (keysI (rep (repL l))).map _ = _
      rw [ih]; rfl
  simp only [fMinD, dm_w h, e, Option.bind_some]
  cases l with
  | nil => exact absurd rfl hl
  | cons p l => rfl
abbrev noneG : GS := gSeq savedG (gSeq (gAsg (gIfE (gTst (gBin (fEqS true) (gVar 7) (gLst (gNilA)))) (gBin fIxD (gVar 7) (gC (.int 0))) (gCall fMinD (gConsA (gVar 2) (gNilA)))) (gNm 5)) (gSeq (gIf (gTst (gBin (fEqS false) (gVar 7) (gLst (gNilA)))) (gExpr (gMt .lst fAppend (gVar 4) (gConsA (gTup (gConsA (gC (.str "copy")) (gConsA (gVar 1) (gConsA (gVar 5) (gNilA))))) (gNilA)))) (gNil)) (gAsg (gFnS 3 f_redirected (gConsA (gVar 2) (gConsA (gVar 5) (gConsA (gGet2 (gVar 3) (gVar 5) (gVar 1)) (gNilA))))) (gNm 2))))
theorem wb_eq : wb0_sequence = gSeq (gAsg (gFnS 1 f_next_free (gConsA (gVar 2) (gNilA))) (gNm 5)) (gSeq (gIf (gTst (gIsN false (gVar 5))) noneG gNil) tailS) := rfl
/-- the end of the none-branch: the mark is chosen -/
theorem redir_ok {ρ : GEnv} {G : Hg} {sp m : Int} {j : Nat} {l : Wr Bool} {ks : List (Key × W)} {rows : List (Row Bool)} {f : Int → Option Int} (t : St ρ G sp j l ks rows) (hk : Kp ks f) (h5 : ρ[5]? = some (some (.d (.int m)))) (nd : (keys l).Nodup) (hl : l.length ≤ 1000) :
    ∃ j' G', gAsg (gFnS 3 f_redirected (gConsA (gVar 2) (gConsA (gVar 5) (gConsA (gGet2 (gVar 3) (gVar 5) (gVar 1)) (gNilA))))) (gNm 2) ρ G = .nx (ρ.set 2 (some (.ref j'))) G' ∧ St (ρ.set 2 (some (.ref j'))) G' sp j' (red l m ((f m).getD sp)) ks rows := by
  have b2 : 2 < G.length := (List.getElem?_eq_some_iff.mp t.g2).1
  have gt : gGet2 (gVar 3) (gVar 5) (gVar 1) ρ G = .ok (.d (.int ((f m).getD sp))) G := by
    rw [get2_ok (q := .inl m) (l := ks) (v_ok t.h3) (by rw [dic_w t.g1]; rfl) (v_ok h5) (v_ok t.h1) (dic_w t.g1), hk.eq]
    cases f m <;> rfl
  refine ⟨G.length, G ++ [.dic false (rep (repL (red l m ((f m).getD sp))))], as_ok (fs_ok (a_ok (v_ok t.h2) (a_ok (v_ok h5) (a_ok gt n_ok))) rfl (red_ok t.g nd hl)), ?_⟩
  refine ⟨by rw [List.length_set]; exact t.len, by rw [List.getElem?_set_ne (by decide)]; exact t.h1, List.getElem?_set_self (by rw [t.len]; decide), by rw [List.getElem?_set_ne (by decide)]; exact t.h3, by rw [List.getElem?_set_ne (by decide)]; exact t.h4, by omega, by omega, ?_, ?_, ?_, t.nl.app rfl⟩
  · rw [List.getElem?_append_right (Nat.le_refl _), Nat.sub_self]; rfl
  · rw [List.getElem?_append_left (by omega)]; exact t.g1
  · rw [List.getElem?_append_left (by omega)]; exact t.g2
theorem copy3 {a : Str} {b c : Int} : mkTup [.d (.str a), .d (.int b), .d (.int c)] = .d (.tup [.str a, .int b, .int c]) := rfl
/-- a turn of the loop -/
theorem turn_ok {ρ : GEnv} {G : Hg} {sp : Int} {j : Nat} {l : Wr Bool} {ks : List (Key × W)} {rows : List (Row Bool)} {f : Int → Option Int} (t : St ρ G sp j l ks rows) (hk : Kp ks f) (hne : l ≠ []) (nd : (keys l).Nodup) (hl : l.length ≤ 1000) (hks : ks.length < 10000) (hr : rows.length + 1 < 10000) :
    ∃ ρ' G' j' l' ks' f', ∃ new : List (Row Bool), wb0_sequence ρ G = .nx ρ' G' ∧ St ρ' G' sp j' l' ks' (rows ++ new) ∧ Kp ks' f' ∧ ks'.length ≤ ks.length + 1 ∧ new.length ≤ 2 ∧ (keys l').Nodup ∧ l'.length + 1 = l.length ∧ ∀ rs, Go sp l' f' rs → Go sp l f (new ++ rs) := by
  have p1 : gAsg (gFnS 1 f_next_free (gConsA (gVar 2) (gNilA))) (gNm 5) ρ G = .nx (ρ.set 5 (some (.d (nf l)))) G := as_ok (fs_ok (a_ok (v_ok t.h2) n_ok) rfl (free_ok t.g hl))
  have t1 := t.set 5 (some (.d (nf l))) (by decide) (by decide) (by decide) (by decide)
  have h5 : (ρ.set 5 (some (.d (nf l))))[5]? = some (some (.d (nf l))) := set_at (by rw [t.len]; decide)
  by_cases c : frees l = []
  · -- none is free
    have e : nf l = .non := if_pos c
    have all := frees_nil c
    rw [e] at p1 t1 h5
    have q1 : gTst (gIsN false (gVar 5)) (ρ.set 5 (some (.d .non))) G = .ok true G := ts_ok (is_ok (v_ok h5))
    have q2 := saved_ok t1 hk hl
    generalize hρ2 : (ρ.set 5 (some (.d .non))).set 7 (some (.d (.lst ((sortI (savedL l f)).map .int)))) = ρ2 at q2
    have t2 : St ρ2 G sp j l ks rows := by rw [← hρ2]; exact t1.set 7 _ (by decide) (by decide) (by decide) (by decide)
    have h7 : ρ2[7]? = some (some (.d (.lst ((sortI (savedL l f)).map .int)))) := by rw [← hρ2]; exact set_at (by rw [t1.len]; decide)
    -- the mark
    have mem : ∀ x ∈ sortI (savedL l f), x ∈ keys l ∧ (f x).isSome = true := fun x hx => by
      obtain ⟨a, b⟩ := List.mem_filter.mp ((sortI_perm _).subset hx)
      exact ⟨a, b⟩
    cases hS : sortI (savedL l f) with
    | cons m r =>
      rw [hS] at h7 mem
      obtain ⟨mk, mf⟩ := mem m (List.mem_cons_self ..)
      obtain ⟨k, hfk⟩ := Option.isSome_iff_exists.mp mf
      have r1 : gAsg (gIfE (gTst (gBin (fEqS true) (gVar 7) (gLst (gNilA)))) (gBin fIxD (gVar 7) (gC (.int 0))) (gCall fMinD (gConsA (gVar 2) (gNilA)))) (gNm 5) ρ2 G = .nx (ρ2.set 5 (some (.d (.int m)))) G := by
        refine as_ok ((ie_t (ts_ok (b_ok (v_ok h7) (ls_ok n_ok rfl rfl) neNil_ints))).trans ?_)
        exact b_ok (v_ok h7) c_ok (by rw [e_ixL, List.map_cons, List.map_cons, atI_0]; rfl)
      have t3 := t2.set 5 (some (.d (.int m))) (by decide) (by decide) (by decide) (by decide)
      have h75 : (ρ2.set 5 (some (.d (.int m))))[7]? = some (some (.d (.lst ((m :: r).map .int)))) := by rw [List.getElem?_set_ne (by decide)]; exact h7
      have h55 : (ρ2.set 5 (some (.d (.int m))))[5]? = some (some (.d (.int m))) := set_at (by rw [t2.len]; decide)
      have r2 : gIf (gTst (gBin (fEqS false) (gVar 7) (gLst (gNilA)))) (gExpr (gMt .lst fAppend (gVar 4) (gConsA (gTup (gConsA (gC (.str "copy")) (gConsA (gVar 1) (gConsA (gVar 5) (gNilA))))) (gNilA)))) (gNil) (ρ2.set 5 (some (.d (.int m)))) G = .nx (ρ2.set 5 (some (.d (.int m)))) G :=
        (if_f (ts_ok (b_ok (v_ok h75) (ls_ok n_ok rfl rfl) neNil_ints))).trans nl_ok
      obtain ⟨j', G3, r3, t4⟩ := redir_ok t3 hk h55 nd hl
      rw [hfk] at t4
      simp only [Option.getD_some] at t4
      have mkr : m ∈ keys (red l m k) := by rw [keys_red]; exact mk
      obtain ⟨s, hs⟩ := mem_keys.mp mkr
      have ndr : (keys (red l m k)).Nodup := by rw [keys_red]; exact nd
      obtain ⟨ρ4, G4, r4, t5⟩ := tail_ok t4 (by rw [List.getElem?_set_ne (by decide)]; exact h55) ndr hs hks (by omega)
      refine ⟨ρ4, G4, j', pop (red l m k) m, _, kset f s m, [rowOf m s], ?_, t5, hk.put s m, pt_len, by simp, nodup_pop ndr, ?_, fun rs g => .saved all mk hfk hs g⟩
      · rw [wb_eq, sq_nx p1, sq_nx ((if_t q1).trans ((sq_nx q2).trans ((sq_nx r1).trans ((sq_nx r2).trans r3))))]
        exact r4
      · rw [← len_pop ndr mkr, len_red]
    | nil =>
      rw [hS] at h7
      have none_f : ∀ x ∈ keys l, f x = none := fun x hx => by
        cases q : f x with
        | none => rfl
        | some v =>
          have : x ∈ sortI (savedL l f) := (sortI_perm _).symm.subset (List.mem_filter.mpr ⟨hx, by simp [q]⟩)
          rw [hS] at this
          cases this
      have kne : keys l ≠ [] := fun z => hne (List.map_eq_nil_iff.mp z)
      have mk : minI (keys l) ∈ keys l := minI_mem kne
      generalize hm : minI (keys l) = m at mk
      have r1 : gAsg (gIfE (gTst (gBin (fEqS true) (gVar 7) (gLst (gNilA)))) (gBin fIxD (gVar 7) (gC (.int 0))) (gCall fMinD (gConsA (gVar 2) (gNilA)))) (gNm 5) ρ2 G = .nx (ρ2.set 5 (some (.d (.int m)))) G := by
        refine as_ok ((ie_f (ts_ok (b_ok (v_ok h7) (ls_ok n_ok rfl rfl) neNil_ints))).trans ?_)
        refine cl_ok (a_ok (v_ok t2.h2) n_ok) ?_
        rw [minD_ok t2.g hne, hm]
      have t3 := t2.set 5 (some (.d (.int m))) (by decide) (by decide) (by decide) (by decide)
      have h75 : (ρ2.set 5 (some (.d (.int m))))[7]? = some (some (.d (.lst (([] : List Int).map .int)))) := by rw [List.getElem?_set_ne (by decide)]; exact h7
      have h55 : (ρ2.set 5 (some (.d (.int m))))[5]? = some (some (.d (.int m))) := set_at (by rw [t2.len]; decide)
      have b2 : 2 < G.length := (List.getElem?_eq_some_iff.mp t.g2).1
      have r2 : gIf (gTst (gBin (fEqS false) (gVar 7) (gLst (gNilA)))) (gExpr (gMt .lst fAppend (gVar 4) (gConsA (gTup (gConsA (gC (.str "copy")) (gConsA (gVar 1) (gConsA (gVar 5) (gNilA))))) (gNilA)))) (gNil) (ρ2.set 5 (some (.d (.int m)))) G = .nx (ρ2.set 5 (some (.d (.int m)))) (G.set 2 (.lst (((rows ++ [Row.copy sp m]).map rowD).map .d))) := by
        refine (if_t (ts_ok (b_ok (v_ok h75) (ls_ok n_ok rfl rfl) neNil_ints))).trans (ex_ok (w := .d .non) ?_)
        have := ap_ok (o := gVar 4) (a := gTup (gConsA (gC (.str "copy")) (gConsA (gVar 1) (gConsA (gVar 5) (gNilA))))) (v_ok t3.h4) (tp_ok (a_ok c_ok (a_ok (v_ok t3.h1) (a_ok (v_ok h55) n_ok))) rfl copy3) ⟨_, t3.g2⟩ t3.g2 (by simp; omega)
        rw [this]
        simp [rowD]
      have t3' : St (ρ2.set 5 (some (.d (.int m)))) (G.set 2 (.lst (((rows ++ [Row.copy sp m]).map rowD).map .d))) sp j l ks (rows ++ [Row.copy sp m]) :=
        ⟨t3.len, t3.h1, t3.h2, t3.h3, t3.h4, t3.j1, t3.j2, by rw [List.getElem?_set_ne (Ne.symm t3.j2)]; exact t3.g, by rw [List.getElem?_set_ne (by decide)]; exact t3.g1, List.getElem?_set_self b2, t3.nl.set 2 rfl⟩
      obtain ⟨j', G3, r3, t4⟩ := redir_ok t3' hk h55 nd hl
      rw [none_f m mk] at t4
      simp only [Option.getD_none] at t4
      have mkr : m ∈ keys (red l m sp) := by rw [keys_red]; exact mk
      obtain ⟨s, hs⟩ := mem_keys.mp mkr
      have ndr : (keys (red l m sp)).Nodup := by rw [keys_red]; exact nd
      obtain ⟨ρ4, G4, r4, t5⟩ := tail_ok t4 (by rw [List.getElem?_set_ne (by decide)]; exact h55) ndr hs hks (by simp; omega)
      refine ⟨ρ4, G4, j', pop (red l m sp) m, _, kset f s m, [.copy sp m, rowOf m s], ?_, ?_, hk.put s m, pt_len, by simp, nodup_pop ndr, ?_, fun rs g => .spare all none_f mk hs g⟩
      · rw [wb_eq, sq_nx p1, sq_nx ((if_t q1).trans ((sq_nx q2).trans ((sq_nx r1).trans ((sq_nx r2).trans r3))))]
        exact r4
      · have := t5
        rw [List.append_assoc] at this
        exact this
      · rw [← len_pop ndr mkr, len_red]
  · have e : nf l = .int (minI (frees l)) := if_neg c
    rw [e] at p1 t1 h5
    obtain ⟨mk, mv⟩ := frees_mem (minI_mem c)
    generalize minI (frees l) = m at *
    obtain ⟨s, hs⟩ := mem_keys.mp mk
    have q1 : gTst (gIsN false (gVar 5)) (ρ.set 5 (some (.d (.int m)))) G = .ok false G := ts_ok (is_ok (v_ok h5))
    obtain ⟨ρ4, G4, r4, t5⟩ := tail_ok t1 h5 nd hs hks (by omega)
    refine ⟨ρ4, G4, j, pop l m, _, kset f s m, [rowOf m s], ?_, t5, hk.put s m, pt_len, by simp, nodup_pop nd, (len_pop nd mk).symm, fun rs g => .free hs mv g⟩
    rw [wb_eq, sq_nx p1, sq_nx ((if_f q1).trans nl_ok)]
    exact r4
/-- the loop -/
theorem loop_ok : ∀ (n : Nat) {ρ : GEnv} {G : Hg} {sp : Int} {j : Nat} {l : Wr Bool} {ks : List (Key × W)} {rows : List (Row Bool)} {f : Int → Option Int} {k : Nat}, St ρ G sp j l ks rows → Kp ks f → (keys l).Nodup → l.length = n → n ≤ 1000 → ks.length + n < 10000 → rows.length + 2 * n < 10000 → n < k →
    ∃ rs ρ' G' j' ks', Go sp l f rs ∧ whileN wc0_sequence wb0_sequence k ρ G = .nx ρ' G' ∧ St ρ' G' sp j' [] ks' (rows ++ rs)
  | 0, ρ, G, sp, j, l, ks, rows, f, k, t, hk, nd, hn, _, _, _, hf => by
    obtain rfl : l = [] := List.length_eq_zero_iff.mp hn
    obtain ⟨k, rfl⟩ : ∃ k', k = k' + 1 := ⟨k - 1, by omega⟩
    refine ⟨[], ρ, G, j, ks, .done, whileN_f (ts_ok (b_ok (v_ok t.h2) rfl (eqE_ok (dic_w t.g) (fun _ z => by cases z)))), by rw [List.append_nil]; exact t⟩
  | n + 1, ρ, G, sp, j, l, ks, rows, f, k, t, hk, nd, hn, h1, h2, h3, hf => by
    have hne : l ≠ [] := fun z => by rw [z] at hn; cases hn
    obtain ⟨k, rfl⟩ : ∃ k', k = k' + 1 := ⟨k - 1, by omega⟩
    obtain ⟨ρ1, G1, j1, l1, ks1, f1, new, e1, t1, hk1, q1, q2, nd1, q3, go⟩ := turn_ok t hk hne nd (by omega) (by omega) (by omega)
    have hlen : l1.length = n := by omega
    obtain ⟨rs, ρ2, G2, j2, ks2, g, e2, t2⟩ := loop_ok n t1 hk1 nd1 hlen (by omega) (by omega) (by rw [List.length_append]; omega) (k := k) (by omega)
    have hc : wc0_sequence ρ G = .ok true G := by
      have : (rep (repL l)).isEmpty = false := by cases l with
        | nil => exact absurd rfl hne
        | cons _ _ => rfl
      have e := ts_ok (b_ok (f := fEqS true) (a := gVar 2) (b := gDicT) (ρ := ρ) (G := G) (v_ok t.h2) rfl (eqE_ok (neg := true) (dic_w t.g) (fun _ z => by cases z)))
      rw [this] at e
      exact e
    refine ⟨new ++ rs, ρ2, G2, j2, ks2, go rs g, (whileN_t hc e1).trans e2, by rw [← List.append_assoc]; exact t2⟩
end Sq

set_option Elab.async false
set_option linter.all false
set_option maxRecDepth 100000
set_option maxHeartbeats 8000000
namespace Sq
open PySem PySem.Spec PyProof.Rows L2 Gh
def wD (p : Int × S Bool) : D := .tup [.int p.1, sD p.2]
def rowsA : Bool → Wr Bool → D
  | true, ws => .lst (ws.map wD)
  | false, ws => .tup (ws.map wD)
/-- marks are no negative numbers -/
def Pos (ws : Wr Bool) : Prop := ∀ p ∈ ws, 0 ≤ p.1 ∧ ∀ k, p.2 = .inl k → 0 ≤ k
theorem isMark_ok {m : Int} (h : 0 ≤ m) : f_is_mark [.int m] = .ok (.bl true) := by
  obtain ⟨n, rfl⟩ := Int.eq_ofNat_of_zero_le h
  rfl
theorem isWrite_ok {p : Int × S Bool} (h : 0 ≤ p.1) (h2 : ∀ k, p.2 = .inl k → 0 ≤ k) : f_is_write [wD p] = .ok (.bl true) := by
  obtain ⟨m, s⟩ := p
  obtain ⟨n, hn⟩ := Int.eq_ofNat_of_zero_le h
  obtain rfl : m = n := hn
  cases s with
  | inl k =>
    obtain ⟨j, hj⟩ := Int.eq_ofNat_of_zero_le (h2 k rfl)
    obtain rfl : k = j := hj
    rfl
  | inr b => cases b <;> kernel_rfl
theorem in_ints {seen : List Int} {x : Int} : inD (.int x) (seen.map D.int) = decide (x ∈ seen) := by
  unfold inD
  rw [Bool.eq_iff_iff]
  simp only [List.any_map, List.any_eq_true, Function.comp, eqD_int, beq_iff_eq, decide_eq_true_eq]
  exact ⟨fun ⟨y, h, e⟩ => e ▸ h, fun h => ⟨x, h, rfl⟩⟩
theorem fbw_ok {w0 w2 : Option W} {p : Int × S Bool} {seen : List Int} (h0 : 0 ≤ p.1) (h2 : ∀ k, p.2 = .inl k → 0 ≤ k) (h : p.1 ∉ seen) (hl : seen.length < 1000) :
    fb0_look_writes [w0, some (.ref 0), w2, some (.d (wD p))] [.lst ((seen.map D.int).map .d)] = .nx [w0, some (.ref 0), w2, some (.d (wD p))] [.lst (((seen ++ [p.1]).map D.int).map .d)] := by
  have ix : gBin fIxD (gVar 3) (gC (.int 0)) [w0, some (.ref 0), w2, some (.d (wD p))] [.lst ((seen.map D.int).map .d)] = .ok (.d (.int p.1)) [.lst ((seen.map D.int).map .d)] := b_ok (v_ok rfl) c_ok rfl
  have t1 : gNot (gTst (gFnP 1 f_is_write (gConsA (gVar 3) (gNilA)))) [w0, some (.ref 0), w2, some (.d (wD p))] [.lst ((seen.map D.int).map .d)] = .ok false [.lst ((seen.map D.int).map .d)] :=
    no_ok (b := true) (ts_ok (fp_ok (ds := [wD p]) (a_ok (v_ok rfl) n_ok) rfl (isWrite_ok h0 h2)))
  have t2 : gTst (gBin (fInD false) (gBin fIxD (gVar 3) (gC (.int 0))) (gVar 1)) [w0, some (.ref 0), w2, some (.d (wD p))] [.lst ((seen.map D.int).map .d)] = .ok false [.lst ((seen.map D.int).map .d)] := by
    refine ts_ok (b_ok ix (v_ok rfl) ?_)
    rw [inR_ok (ds := seen.map D.int) rfl okE_int (fun d hd => by obtain ⟨i, _, rfl⟩ := List.mem_map.mp hd; exact okE_int), in_ints, decide_eq_false h]
    rfl
  unfold fb0_look_writes
  rw [sq_nx ((if_f ((or_f t1).trans t2)).trans nl_ok)]
  refine (ex_ok (w := .d .non) (ap_ok (ws := (seen.map D.int).map .d) (k := 0) (v_ok rfl) ix ⟨_, rfl⟩ rfl (by simp; omega))).trans ?_
  simp
theorem look_for {w0 : Option W} {ck : Hg → Bool} (hck : ∀ G, ck G = true) : ∀ (ws : Wr Bool) (seen : List Int) (k : Nat) (a b : Option W), Pos ws → (keys ws).Nodup → (∀ x ∈ keys ws, x ∉ seen) → seen.length + ws.length < 1000 →
    ∃ ρ' G', forL (gTp [gNm 2, gNm 3]) fb0_look_writes ck (enumW k ((ws.map wD).map .d)) [w0, some (.ref 0), a, b] [.lst ((seen.map D.int).map .d)] = .nx ρ' G'
  | [], seen, k, a, b, _, _, _, _ => ⟨_, _, forL_nil (hck _)⟩
  | p :: ws, seen, k, a, b, hp, nd, hs, hl => by
    simp only [List.length_cons] at hl
    have nd' := List.nodup_cons.mp (show (p.1 :: keys ws).Nodup from nd)
    obtain ⟨h1, h2⟩ := hp p (List.mem_cons_self ..)
    obtain ⟨ρ', G', e⟩ := look_for (w0 := w0) hck ws (seen ++ [p.1]) (k + 1) (some (.d (.int (k : Int)))) (some (.d (wD p))) (fun q hq => hp q (List.mem_cons_of_mem _ hq)) nd'.2 (fun x hx hm => by
      rcases List.mem_append.mp hm with z | z
      · exact hs x (List.mem_cons_of_mem _ hx) z
      · have : x = p.1 := by simpa using z
        exact nd'.1 (by rw [← this]; exact hx)) (by simp only [List.length_append, List.length_cons, List.length_nil]; omega)
    exact ⟨ρ', G', (forL_t (hck _) (ρ1 := [w0, some (.ref 0), some (.d (.int (k : Int))), some (.d (wD p))]) rfl (fbw_ok h1 h2 (hs p.1 (List.mem_cons_self ..)) (by omega))).trans e⟩
theorem seq_rows {b : Bool} {ws : Wr Bool} {G : Hg} : seqW (.d (rowsA b ws)) G = some (b, (ws.map wD).map .d) := by cases b <;> rfl
theorem lookW_ok {b : Bool} {ws : Wr Bool} (hp : Pos ws) (nd : (keys ws).Nodup) (hl : ws.length < 1000) : f_look_writes [rowsA b ws] = .ok .non := by
  obtain ⟨ρ', G', e⟩ := look_for (w0 := some (.d (rowsA b ws))) (ck := ckW (.d (rowsA b ws)) ((ws.map wD).map .d)) (fun _ => by cases b <;> rfl) ws [] 0 none none hp nd (fun _ _ z => by cases z) (by simpa using hl)
  have i1 : gIsc k_list_tuple (gVar 0) [some (.d (rowsA b ws)), none, none, none] [] = .ok (.d (.bl true)) [] := by cases b <;> rfl
  have i2 : gEnumA (gConsA (gVar 0) gNilA) [some (.d (rowsA b ws)), some (.ref 0), none, none] [.lst []] = .ok (enumW 0 ((ws.map wD).map .d), ckW (.d (rowsA b ws)) ((ws.map wD).map .d)) [.lst []] := by
    unfold gEnumA
    rw [a_ok (v_ok rfl) n_ok, bind_ok]
    simp only [seq_rows]
  have key : g_look_writes [some (.d (rowsA b ws)), none, none, none] [] = .nx ρ' G' := by
    unfold g_look_writes
    rw [sq_nx ((if_f (no_ok (b := true) (ts_ok i1))).trans nl_ok), sq_nx (as_ok (nw_ok n_ok rfl))]
    show gFor _ _ _ [some (.d (rowsA b ws)), some (.ref 0), none, none] [.lst []] = _
    rw [e_for, i2, toS_ok]
    exact e
  show runP 4 g_look_writes _ = _
  unfold runP
  have ee : envP 4 [rowsA b ws] = [some (.d (rowsA b ws)), none, none, none] := rfl
  rw [ee, key]
theorem in_wr {sp : Int} {p : Int × S Bool} : inD (.int sp) [.int p.1, sD p.2] = (decide (p.1 = sp) || decide (p.2 = .inl sp)) := by
  have e : inD (.int sp) [.int p.1, sD p.2] = (eqD (sD (.inl p.1)) (sD (.inl sp)) || (eqD (sD p.2) (sD (.inl sp)) || false)) := rfl
  rw [e, eqD_s, eqD_s, Bool.or_false]
  congr 1
  simp
theorem any_false {l : List Bool} (h : ∀ b ∈ l, b = false) : l.any id = false := by
  rw [List.any_eq_false]
  intro x hx
  rw [h x hx]; simp
theorem blsW_map : ∀ bs : List Bool, blsW (bs.map fun b => W.d (.bl b)) = some bs
  | [] => rfl
  | b :: bs => by rw [List.map_cons]; unfold blsW; rw [blsW_map bs]; rfl
theorem bl_d (bs : List Bool) : (bs.map fun b => W.d (.bl b)) = (bs.map D.bl).map W.d := by rw [List.map_map]; rfl
theorem lookS_ok {b : Bool} {ws : Wr Bool} {sp : Int} (h0 : 0 ≤ sp) (hk : sp ∉ keys ws) (hv : Sum.inl sp ∉ vals ws) (hl : ws.length < 1000) : f_look_spare [rowsA b ws, .int sp] = .ok .non := by
  let bs := ws.map fun p => inD (.int sp) [.int p.1, sD p.2]
  have hbs : bs.any id = false := any_false fun x hx => by
    obtain ⟨p, hp, rfl⟩ := List.mem_map.mp hx
    rw [in_wr]
    have n1 : ¬ p.1 = sp := fun z => hk (by rw [← z]; exact key_of hp)
    have n2 : ¬ p.2 = .inl sp := fun z => hv (by rw [← z]; exact List.mem_map.mpr ⟨_, hp, rfl⟩)
    simp [n1, n2]
  have hc : gLcW (gSeqI (gVar 0)) [2] (gNm 2) gYes le0_look_spare [some (.d (rowsA b ws)), some (.d (.int sp)), none] [] = .ok (bs.map fun b => W.d (.bl b)) [] := by
    unfold gLcW
    rw [e_seqI (v_ok rfl) seq_rows, bind_ok]
    have e := lcL_on (t := gNm 2) (tt := gYes) (e := le0_look_spare) (ck := ckW (.d (rowsA b ws)) ((ws.map wD).map .d)) (ρ0 := wipeG [some (.d (rowsA b ws)), some (.d (.int sp)), none] [2]) (G := [])
      (fun w => match w with | .d (.tup ds) => some (.d (.bl (inD (.int sp) ds))) | _ => none) (by cases b <;> rfl) ((ws.map wD).map .d) [] (fun w hw => ?_) (by simp; omega)
    · refine Eq.trans e ?_
      rw [List.nil_append]
      refine congrArg (fun l => Res.ok l []) ?_
      show _ = (ws.map _).map _
      clear hbs hl hk hv e
      induction ws with
      | nil => rfl
      | cons p r ih => rw [List.map_cons, List.map_cons, List.filterMap_cons, List.map_cons, List.map_cons, ← ih]; rfl
    · obtain ⟨d, hd, rfl⟩ := List.mem_map.mp hw
      obtain ⟨p, hp, rfl⟩ := List.mem_map.mp hd
      refine ⟨[some (.d (rowsA b ws)), some (.d (.int sp)), some (.d (wD p))], rfl, .inr ⟨_, rfl, rfl, ?_⟩⟩
      refine b_ok (v_ok rfl) (v_ok rfl) ?_
      rw [show wD p = .tup [.int p.1, sD p.2] from rfl, inT_ok okE_int (fun d hd => ?_), Bool.false_xor]
      rcases List.mem_cons.mp hd with rfl | hd
      · exact okE_int
      · rcases List.mem_cons.mp hd with rfl | hd
        · exact okE_s
        · cases hd
  have tt : gTst (gCall fAny (gConsA (fun ρ G => (gLcW (gSeqI (gVar 0)) [2] (gNm 2) (gYes) (le0_look_spare) ρ G).bind finT) (gNilA))) [some (.d (rowsA b ws)), some (.d (.int sp)), none] [] = .ok false [] := by
    refine ts_ok (cl_ok (a_ok (w := .d (.lst (bs.map D.bl))) (G1 := []) ?_ n_ok) ?_)
    · show (gLcW _ _ _ _ _ _ _).bind finT = _
      rw [hc, bind_ok]
      unfold finT
      rw [bl_d, mkLst_d]
    · unfold fAny lstB
      show (match seqW (.d (.lst (bs.map D.bl))) [] with | some (true, ws) => blsW ws | _ => none).map _ = _
      rw [show seqW (.d (.lst (bs.map D.bl))) [] = some (true, (bs.map D.bl).map W.d) from rfl]
      simp only
      rw [← bl_d, blsW_map]
      show some (W.d (D.bl (bs.any id)), ([] : Hg)) = _
      rw [hbs]
  have tm : gNot (gTst (gFnP 1 f_is_mark (gConsA (gVar 1) (gNilA)))) [some (.d (rowsA b ws)), some (.d (.int sp)), none] [] = .ok false [] := no_ok (b := true) (ts_ok (fp_ok (ds := [.int sp]) (a_ok (v_ok rfl) n_ok) rfl (isMark_ok h0)))
  have key : g_look_spare [some (.d (rowsA b ws)), some (.d (.int sp)), none] [] = .nx [some (.d (rowsA b ws)), some (.d (.int sp)), none] [] := by
    unfold g_look_spare
    exact (if_f ((or_f tm).trans tt)).trans nl_ok
  show runP 3 g_look_spare _ = _
  unfold runP
  have ee : envP 3 [rowsA b ws, .int sp] = [some (.d (rowsA b ws)), some (.d (.int sp)), none] := rfl
  rw [ee, key]
/-! ### the whole -/
/-- the writes that change something -/
def chg (ws : Wr Bool) : Wr Bool := ws.filter fun p => !decide (p.2 = .inl p.1)
def ltF : W → Option (Key × W)
  | .d (.tup [.int x, .int y]) => if x = y then none else some (.inl x, .d (.int y))
  | .d (.tup [.int x, .str t]) => some (.inl x, .d (.str t))
  | _ => none
theorem ltF_ok {p : Int × S Bool} : ltF (.d (wD p)) = if p.2 = .inl p.1 then none else some (.inl p.1, .d (sD p.2)) := by
  obtain ⟨x, s⟩ := p
  cases s with
  | inl y =>
    show (if x = y then none else some ((Sum.inl x : Key), W.d (.int y))) = _
    by_cases c : x = y
    · rw [if_pos c, if_pos (by rw [c])]
    · rw [if_neg c, if_neg (fun z => c (by injection z with z; exact z.symm))]; rfl
  | inr b =>
    rw [if_neg (fun z => by cases z)]
    cases b <;> rfl
theorem ltF_map : ∀ ws : Wr Bool, ((ws.map wD).map .d).filterMap ltF = repL (chg ws)
  | [] => rfl
  | p :: ws => by
    rw [List.map_cons, List.map_cons, List.filterMap_cons, ltF_ok]
    unfold chg
    rw [List.filter_cons]
    by_cases c : p.2 = .inl p.1
    · rw [if_pos c, if_neg (by simp [c])]
      exact ltF_map ws
    · rw [if_neg c, if_pos (by simp [c])]
      show _ :: _ = repL (p :: chg ws)
      rw [ltF_map ws]
      rfl
theorem chg_sub {ws : Wr Bool} {p : Int × S Bool} (h : p ∈ chg ws) : p ∈ ws := (List.mem_filter.mp h).1
theorem chg_nd {ws : Wr Bool} (nd : (keys ws).Nodup) : (keys (chg ws)).Nodup := nd.sublist (List.filter_sublist.map _)
theorem chg_len {ws : Wr Bool} : (chg ws).length ≤ ws.length := List.length_filter_le ..
theorem chg_org {ws : Wr Bool} {sp : Int} (nd : (keys ws).Nodup) (hk : sp ∉ keys ws) (hv : Sum.inl sp ∉ vals ws) : Org (chg ws) sp :=
  ⟨chg_nd nd, fun m h => by have := (List.mem_filter.mp h).2; simp at this, fun z => by
    obtain ⟨s, hs⟩ := mem_keys.mp z
    exact hk (key_of (chg_sub hs)), fun m h => hv (List.mem_map.mpr ⟨_, chg_sub h, rfl⟩)⟩
theorem sequence_ok {b : Bool} {ws : Wr Bool} {sp : Int} (hp : Pos ws) (nd : (keys ws).Nodup) (h0 : 0 ≤ sp) (hk : sp ∉ keys ws) (hv : Sum.inl sp ∉ vals ws) (hl : ws.length < 1000) :
    ∃ rs, Go sp (chg ws) (fun _ => none) rs ∧ f_sequence [rowsA b ws, .int sp] = .ok (.lst (rs.map rowD)) := by
  let e0 : GEnv := [some (.d (rowsA b ws)), some (.d (.int sp)), none, none, none, none, none, none, none]
  have d0 := dcL_on (G := []) (t := gTp [gNm 5, gNm 6]) (tt := lt1_sequence) (ek := le0_sequence) (ev := le1_sequence) (ck := ckW (.d (rowsA b ws)) ((ws.map wD).map .d)) (ρ0 := wipeG e0 [5, 6]) ltF (by cases b <;> rfl) ((ws.map wD).map .d) [] (fun w hw => by
    obtain ⟨d, hd, rfl⟩ := List.mem_map.mp hw
    obtain ⟨p, hp, rfl⟩ := List.mem_map.mp hd
    refine ⟨[some (.d (rowsA b ws)), some (.d (.int sp)), none, none, none, some (.d (.int p.1)), some (.d (sD p.2)), none, none], rfl, ?_⟩
    rw [ltF_ok]
    have t := ts_ok (b_ok (f := fEqS true) (a := gVar 5) (b := gVar 6) (ρ := [some (.d (rowsA b ws)), some (.d (.int sp)), none, none, none, some (.d (.int p.1)), some (.d (sD p.2)), none, none]) (G := []) (v_ok rfl) (v_ok rfl) (eqS_s (neg := true) (a := .inl p.1) (b := p.2)))
    by_cases c : p.2 = .inl p.1
    · rw [if_pos c]
      rw [decide_eq_true c.symm] at t
      exact .inl ⟨rfl, t⟩
    · rw [if_neg c]
      rw [decide_eq_false (fun z => c z.symm)] at t
      exact .inr ⟨.inl p.1, _, rfl, t, rfl, rfl⟩) (by simp; omega)
  rw [ltF_map, fold_new (acc := []) (by rw [List.nil_append]; exact repL_nodup (chg_nd nd)), List.nil_append] at d0
  have d0' : dcL (gTp [gNm 5, gNm 6]) lt1_sequence le0_sequence le1_sequence (ckW (.d (rowsA b ws)) ((ws.map wD).map .d)) (wipeG e0 [5, 6]) ((ws.map wD).map .d) [] [] = .ok (rep (repL (chg ws))) [] := d0
  have p1 : gExpr (gFnP 1 f_look_writes (gConsA (gVar 0) (gNilA))) e0 [] = .nx e0 [] := ex_ok (fp_ok (ds := [rowsA b ws]) (a_ok (v_ok rfl) n_ok) rfl (lookW_ok hp nd hl))
  have p2 : gExpr (gFnP 2 f_look_spare (gConsA (gVar 0) (gConsA (gVar 1) (gNilA)))) e0 [] = .nx e0 [] := ex_ok (fp_ok (ds := [rowsA b ws, .int sp]) (a_ok (v_ok rfl) (a_ok (v_ok rfl) n_ok)) rfl (lookS_ok h0 hk hv hl))
  have p3 : gAsg (fun ρ G => (gDcW (gSeqI (gVar 0)) [5, 6] (gTp [gNm 5, gNm 6]) (lt1_sequence) (le0_sequence) (le1_sequence) ρ G).bind finDN) (gNm 2) e0 [] = .nx (e0.set 2 (some (.ref 0))) [.dic false (rep (repL (chg ws)))] := by
    refine as_ok ?_
    show (gDcW _ _ _ _ _ _ _ _).bind finDN = _
    unfold gDcW
    rw [e_seqI (v_ok rfl) seq_rows, bind_ok, d0', bind_ok]
    rfl
  have p4 : gAsg (gDicN) (gNm 3) (e0.set 2 (some (.ref 0))) [.dic false (rep (repL (chg ws)))] = .nx ((e0.set 2 (some (.ref 0))).set 3 (some (.ref 1))) [.dic false (rep (repL (chg ws))), .dic false []] := as_ok rfl
  have p5 : gAsg (gNew (gNilA)) (gNm 4) ((e0.set 2 (some (.ref 0))).set 3 (some (.ref 1))) [.dic false (rep (repL (chg ws))), .dic false []] = .nx (((e0.set 2 (some (.ref 0))).set 3 (some (.ref 1))).set 4 (some (.ref 2))) [.dic false (rep (repL (chg ws))), .dic false [], .lst []] := as_ok (nw_ok n_ok rfl)
  have st : St (((e0.set 2 (some (.ref 0))).set 3 (some (.ref 1))).set 4 (some (.ref 2))) [.dic false (rep (repL (chg ws))), .dic false [], .lst []] sp 0 (chg ws) [] [] :=
    ⟨rfl, rfl, rfl, rfl, rfl, by decide, by decide, rfl, rfl, rfl, rfl⟩
  have cl := chg_len (ws := ws)
  obtain ⟨rs, ρ', G', j', ks', g, e, t⟩ := loop_ok (chg ws).length st (f := fun _ => none) ⟨fun x => rfl⟩ (chg_nd nd) rfl (by omega) (by simp; omega) (by simp; omega) (k := 1000000) (by omega)
  refine ⟨rs, g, ?_⟩
  have key : g_sequence e0 [] = .ret (.ref 2) G' := by
    unfold g_sequence
    rw [sq_nx p1, sq_nx p2, sq_nx p3, sq_nx p4, sq_nx p5, sq_nx e]
    exact re_ok (v_ok t.h4)
  show runP 9 g_sequence _ = _
  unfold runP
  have ee : envP 9 [rowsA b ws, .int sp] = e0 := rfl
  rw [ee, key]
  have nl : G'.any GO.isL = false := t.nl
  have g2 : (G'.map lk1)[2]? = some (.lst (([] ++ rs).map rowD |>.map .d)) := by rw [List.getElem?_map, t.g2]; rfl
  simp only [nl, Bool.false_eq_true, if_false]
  unfold rdW
  simp only [g2]
  have m : ∀ ds : List D, mapO (fun w => rdW 5 w (G'.map lk1)) (ds.map .d) = some ds := by
    intro ds
    induction ds with
    | nil => rfl
    | cons d r ih =>
      rw [List.map_cons]
      unfold mapO
      rw [ih]
      rfl
  rw [m, List.nil_append]
  rfl
end Sq

set_option Elab.async false
set_option linter.all false
set_option maxRecDepth 100000
set_option maxHeartbeats 4000000
/-! cycles, found by walking -/
namespace Sq
open Gh (minI minI_eq)
variable {T : Type} [DecidableEq T] {O : Wr T}
inductive Pth (O : Wr T) (m : Int) : List Int → Int → Prop
  | one : Pth O m [m] m
  | snoc {p : List Int} {a b : Int} : Pth O m p a → (a, .inl b) ∈ O → b ∉ p → Pth O m (p ++ [b]) b
theorem Pth.last {m a : Int} {p : List Int} (h : Pth O m p a) : ∃ q, p = q ++ [a] := by
  cases h with
  | one => exact ⟨[], rfl⟩
  | snoc _ _ _ => exact ⟨_, rfl⟩
theorem Pth.mem {m a : Int} {p : List Int} (h : Pth O m p a) : a ∈ p := by
  obtain ⟨q, e⟩ := h.last
  rw [e]; simp
theorem Pth.first {m a : Int} {p : List Int} (h : Pth O m p a) : m ∈ p := by
  induction h with
  | one => simp
  | snoc _ _ _ ih => simp [ih]
theorem Pth.reach {m a : Int} {p : List Int} (h : Pth O m p a) : ∀ x ∈ p, Reach O m x := by
  induction h with
  | one => intro x hx; rw [show x = m by simpa using hx]; exact .refl
  | @snoc p a b h e n ih =>
    intro x hx
    rcases List.mem_append.mp hx with z | z
    · exact ih x z
    · rw [show x = b by simpa using z]; exact (ih a h.mem).step e
theorem Pth.nodup {m a : Int} {p : List Int} (h : Pth O m p a) : p.Nodup := by
  induction h with
  | one => simp
  | @snoc p a b _ _ n ih =>
    rw [List.nodup_append]
    exact ⟨ih, by simp, fun x hx y hy e => n (by rw [show y = b by simpa using hy] at e; rw [← e]; exact hx)⟩
theorem Pth.keys {m a : Int} {p : List Int} (h : Pth O m p a) (hm : m ∈ keys O) : ∀ x ∈ p, x = a ∨ x ∈ keys O := by
  induction h with
  | one => intro x hx; exact .inl (by simpa using hx)
  | @snoc p a b h e n ih =>
    intro x hx
    rcases List.mem_append.mp hx with z | z
    · rcases ih x z with q | q
      · exact .inr (by rw [q]; exact key_of e)
      · exact .inr q
    · exact .inl (by simpa using z)
theorem Pth.next {m a : Int} {p : List Int} (h : Pth O m p a) : ∀ x ∈ p, x = a ∨ ∃ y ∈ p, (x, .inl y) ∈ O := by
  induction h with
  | one => intro x hx; exact .inl (by simpa using hx)
  | @snoc p a b h e n ih =>
    intro x hx
    rcases List.mem_append.mp hx with z | z
    · rcases ih x z with q | ⟨y, h1, h2⟩
      · exact .inr ⟨b, by simp, by rw [q]; exact e⟩
      · exact .inr ⟨y, by simp [h1], h2⟩
    · exact .inl (by simpa using z)
/-- from a mark of the path on -/
theorem Pth.rest {m a : Int} {p : List Int} (h : Pth O m p a) : ∀ x ∈ p, ∃ q : List Int, x ∈ q ∧ (m ∈ q → x = m) ∧ ∀ z ∈ q, z = a ∨ ∃ y ∈ q, (z, .inl y) ∈ O := by
  induction h with
  | one => intro x hx; exact ⟨[m], hx, fun _ => by simpa using hx, fun z hz => .inl (by simpa using hz)⟩
  | @snoc p a b h e n ih =>
    intro x hx
    have bm : b ≠ m := fun z => n (by rw [z]; exact h.first)
    rcases List.mem_append.mp hx with hz | hz
    · obtain ⟨q, h1, h2, h3⟩ := ih x hz
      refine ⟨q ++ [b], by simp [h1], fun k => ?_, fun z k => ?_⟩
      · rcases List.mem_append.mp k with k | k
        · exact h2 k
        · exact absurd (show m = b by simpa using k).symm bm
      · rcases List.mem_append.mp k with k | k
        · rcases h3 z k with r | ⟨y, r1, r2⟩
          · exact .inr ⟨b, by simp, by rw [r]; exact e⟩
          · exact .inr ⟨y, by simp [r1], r2⟩
        · exact .inl (by simpa using k)
    · have ex : x = b := by simpa using hz
      subst ex
      exact ⟨[x], by simp, fun k => (show m = x by simpa using k).symm, fun z k => .inl (by simpa using k)⟩
theorem closed_reach {q : List Int} {k : Int} (nd : (Sq.keys O).Nodup) (hk : k ∈ q) (h : ∀ z ∈ q, ∃ y ∈ q, (z, .inl y) ∈ O) {x : Int} (r : Reach O k x) : x ∈ q := by
  induction r with
  | refl => exact hk
  | step _ e ih =>
    obtain ⟨y, h1, h2⟩ := h _ ih
    have := uniq nd e h2
    injection this with this
    rw [this]; exact h1
/-- what a walk that ends says -/
theorem Pth.cycle (nd : (Sq.keys O).Nodup) {m a : Int} {p : List Int} (h : Pth O m p a) (he : (a, .inl m) ∈ O) : InCyc O m ∧ ∀ x, x ∈ p ↔ Reach O m x := by
  refine ⟨⟨a, h.reach a h.mem, he⟩, fun x => ⟨h.reach x, fun r => closed_reach nd h.first (fun z hz => ?_) r⟩⟩
  rcases h.next z hz with e | e
  · exact ⟨m, h.first, by rw [e]; exact he⟩
  · exact e
theorem Pth.none (nd : (Sq.keys O).Nodup) {m a : Int} {p : List Int} (h : Pth O m p a) (he : ∀ k, (a, .inl k) ∈ O → k ∈ p) (hn : (a, .inl m) ∉ O) : ¬ InCyc O m := fun cy => by
  have ra := h.reach a h.mem
  have back := ra.back nd cy
  have : ∃ k, (a, .inl k) ∈ O := by
    rcases back.head with e | ⟨b, h1, _⟩
    · obtain ⟨x, hx, ex⟩ := cy
      rw [e] at *
      rcases hx.head with e2 | ⟨b, h1, _⟩
      · subst e2; exact ⟨_, ex⟩
      · exact ⟨_, h1⟩
    · exact ⟨_, h1⟩
  obtain ⟨k, ek⟩ := this
  have kp := he k ek
  obtain ⟨q, q1, q2, q3⟩ := h.rest k kp
  have mq : m ∈ q := closed_reach nd q1 (fun z hz => by
    rcases q3 z hz with e | e
    · exact ⟨k, q1, by rw [e]; exact ek⟩
    · exact e) ((h.reach k kp).back nd cy)
  have := q2 mq
  subst this
  exact hn ek
/-- one mark of each cycle: the least -/
structure Cyc (O : Wr T) (c : Int → List Int) : Prop where
  h : ∀ m ∈ Sq.keys O, (c m = [] ∧ ¬ InCyc O m) ∨ (c m ≠ [] ∧ InCyc O m ∧ ∀ x, x ∈ c m ↔ Reach O m x)
theorem Cyc.yes {c : Int → List Int} (C : Cyc O c) {m : Int} (cy : InCyc O m) : m ∈ Sq.keys O ∧ c m ≠ [] ∧ ∀ x, x ∈ c m ↔ Reach O m x := by
  have mk : m ∈ Sq.keys O := by
    obtain ⟨x, hx, ex⟩ := cy
    rcases hx.head with e | ⟨b, h1, _⟩
    · subst e; exact key_of ex
    · exact key_of h1
  rcases C.h m mk with ⟨_, n⟩ | ⟨h1, _, h2⟩
  · exact absurd cy n
  · exact ⟨mk, h1, h2⟩
theorem minI_mem' {ns : List Int} (h : ns ≠ []) : minI ns ∈ ns := minI_mem h
theorem minI_le {ns : List Int} {y : Int} (h : y ∈ ns) : minI ns ≤ y := by
  have gen : ∀ (xs : List Int) (a : Int), xs.foldl (fun a b => if b < a then b else a) a ≤ a ∧ ∀ y ∈ xs, xs.foldl (fun a b => if b < a then b else a) a ≤ y := by
    intro xs
    induction xs with
    | nil => intro a; exact ⟨Int.le_refl _, fun y hy => by cases hy⟩
    | cons x xs ih =>
      intro a
      rw [List.foldl_cons]
      obtain ⟨h1, h2⟩ := ih (if x < a then x else a)
      refine ⟨Int.le_trans h1 (by split <;> omega), fun y hy => ?_⟩
      rcases List.mem_cons.mp hy with e | e
      · rw [e]; exact Int.le_trans h1 (by split <;> omega)
      · exact h2 y e
  cases ns with
  | nil => cases h
  | cons x xs =>
    show xs.foldl (fun a b => if b < a then b else a) x ≤ y
    rcases List.mem_cons.mp h with e | e
    · rw [e]; exact (gen xs x).1
    · exact (gen xs x).2 y e
theorem minI_same {a b : List Int} (ha : a ≠ []) (hb : b ≠ []) (h : ∀ x, x ∈ a ↔ x ∈ b) : minI a = minI b :=
  minI_eq ((h _).mp (minI_mem ha)) fun y hy => minI_le ((h y).mpr hy)
theorem reps_of (nd : (Sq.keys O).Nodup) {c : Int → List Int} (C : Cyc O c) {R : List Int} (hR : R.Nodup) (h : ∀ r, r ∈ R ↔ r ∈ Sq.keys O ∧ c r ≠ [] ∧ r = minI (c r) ∧ ∀ y x, (y, .inl x) ∈ O → x ∈ c r → y ∈ c r) : Reps O R := by
  have cyR : ∀ r ∈ R, InCyc O r ∧ ∀ x, x ∈ c r ↔ Reach O r x := fun r hr => by
    obtain ⟨h1, h2, _, _⟩ := (h r).mp hr
    rcases C.h r h1 with ⟨z, _⟩ | ⟨_, a, b⟩
    · exact absurd z h2
    · exact ⟨a, b⟩
  refine ⟨hR, fun r hr => ?_, fun m im => ?_, fun r hr q hq k => ?_⟩
  · obtain ⟨a, b⟩ := cyR r hr
    obtain ⟨_, _, _, h4⟩ := (h r).mp hr
    exact ⟨a, fun x y hx hy => (b y).mp (h4 y x hy ((b x).mpr hx))⟩
  · obtain ⟨mk, ne, hc⟩ := C.yes im.1
    have rm := (hc _).mp (minI_mem ne)
    have ir := im.of nd rm
    obtain ⟨rk, ne2, hc2⟩ := C.yes ir.1
    have same : ∀ x, x ∈ c m ↔ x ∈ c (minI (c m)) := fun x => by
      rw [hc, hc2]
      exact ⟨fun k => (rm.back nd im.1).trans k, fun k => rm.trans k⟩
    refine ⟨_, (h _).mpr ⟨rk, ne2, minI_same ne ne2 same, fun y x hy hx => ?_⟩, rm.back nd im.1⟩
    exact (hc2 y).mpr (ir.2 x y ((hc2 x).mp hx) hy)
  · obtain ⟨a, b⟩ := cyR r hr
    obtain ⟨a2, b2⟩ := cyR q hq
    obtain ⟨_, n1, e1, _⟩ := (h r).mp hr
    obtain ⟨_, n2, e2, _⟩ := (h q).mp hq
    rw [e1, e2]
    exact minI_same n1 n2 fun x => by
      rw [b, b2]
      exact ⟨fun j => (k.back nd a).trans j, fun j => k.trans j⟩
end Sq

set_option Elab.async false
set_option linter.all false
set_option maxRecDepth 100000
set_option maxHeartbeats 8000000
namespace K94
open PySem PySem.Spec PyProof.Rows L2 Gh

def top (i : Nat) : Stmt := PySem.Challenge.pw_leastmarks_k94_whole_rows_of_writes.main.body.getD i (.Pass ⟨0, 0, 0, 0⟩)
def inCls (i j : Nat) : Stmt := match top i with
  | .ClassDef _ _ _ b _ _ _ _ _ _ _ => b.getD j (.Pass ⟨0, 0, 0, 0⟩)
  | _ => .Pass ⟨0, 0, 0, 0⟩
/-! the names of values -/
def kb_int : List (Ty × Bool) := [(.non, false), (.bl, true), (.int, true), (.str, false), (.tup, false), (.lst, false), (.dic, false)]
def ko_int : List (Str × Bool) := [("MarkError", false), ("NoWrites", false), ("NoSpare", false)]
def ku_int : List Cn := [.b "int"]
abbrev k_int : Tc → Option Bool := tcf kb_int ko_int
def kb_bool : List (Ty × Bool) := [(.non, false), (.bl, true), (.int, false), (.str, false), (.tup, false), (.lst, false), (.dic, false)]
def ko_bool : List (Str × Bool) := [("MarkError", false), ("NoWrites", false), ("NoSpare", false)]
def ku_bool : List Cn := [.b "bool"]
abbrev k_bool : Tc → Option Bool := tcf kb_bool ko_bool
def kb_tuple : List (Ty × Bool) := [(.non, false), (.bl, false), (.int, false), (.str, false), (.tup, true), (.lst, false), (.dic, false)]
def ko_tuple : List (Str × Bool) := [("MarkError", false), ("NoWrites", false), ("NoSpare", false)]
def ku_tuple : List Cn := [.b "tuple"]
abbrev k_tuple : Tc → Option Bool := tcf kb_tuple ko_tuple
def kb_str : List (Ty × Bool) := [(.non, false), (.bl, false), (.int, false), (.str, true), (.tup, false), (.lst, false), (.dic, false)]
def ko_str : List (Str × Bool) := [("MarkError", false), ("NoWrites", false), ("NoSpare", false)]
def ku_str : List Cn := [.b "str"]
abbrev k_str : Tc → Option Bool := tcf kb_str ko_str
def kb_list_tuple : List (Ty × Bool) := [(.non, false), (.bl, false), (.int, false), (.str, false), (.tup, true), (.lst, true), (.dic, false)]
def ko_list_tuple : List (Str × Bool) := [("MarkError", false), ("NoWrites", false), ("NoSpare", false)]
def ku_list_tuple : List Cn := [.b "list", .b "tuple"]
abbrev k_list_tuple : Tc → Option Bool := tcf kb_list_tuple ko_list_tuple
def c_CONSTANTS : D := .tup [.str "on", .str "off"]
/-! the text's facts -/
structure Txt (K : PySem.W.Frag) (mg : Str → Option Value) : Prop where
  fr_any : mg "any" = none
  fr_bool : mg "bool" = none
  fr_dict : mg "dict" = none
  fr_enumerate : mg "enumerate" = none
  fr_int : mg "int" = none
  fr_isinstance : mg "isinstance" = none
  fr_len : mg "len" = none
  fr_list : mg "list" = none
  fr_min : mg "min" = none
  fr_range : mg "range" = none
  fr_sorted : mg "sorted" = none
  fr_str : mg "str" = none
  fr_tuple : mg "tuple" = none
  fr_zip : mg "zip" = none
  kt_int : ∀ {w : World}, KitT ⟨K, mg, w⟩ (ku_int.map (Cn.v K)) k_int
  kt_bool : ∀ {w : World}, KitT ⟨K, mg, w⟩ (ku_bool.map (Cn.v K)) k_bool
  kt_tuple : ∀ {w : World}, KitT ⟨K, mg, w⟩ (ku_tuple.map (Cn.v K)) k_tuple
  kt_str : ∀ {w : World}, KitT ⟨K, mg, w⟩ (ku_str.map (Cn.v K)) k_str
  kt_list_tuple : ∀ {w : World}, KitT ⟨K, mg, w⟩ (ku_list_tuple.map (Cn.v K)) k_list_tuple
  gl_CONSTANTS : GlobD K mg "CONSTANTS" c_CONSTANTS
theorem room65 {k : Nat} {A : Around} (r : RoomG k A) : A.units + 65 < cLine := by have := r.r.un; omega
/-! the defs -/
section
variable {P : Program} {w : World} {K : PySem.W.Frag} {mg : Str → Option Value} {base : Heap}
abbrev s__law_source_of : Stmt := top 18
def N__law_source_of : List Str := ["_law_cell"]
theorem nd__law_source_of : N__law_source_of.Nodup := by decide +kernel
def g__law_source_of : GS := gSeq (gAsg (gIfE (gTst (gBin (fI (iCmp fun i j => decide (j ≤ i))) (gVar 0) (gC (.int 0)))) (gVar 0) (gBin (fI iSub) (gBin (fI iSub) (gC (.int 0)) (gBin (fI iMul) (gC (.int 3)) (gVar 0))) (gC (.int 1)))) (gNm 0)) (gRet (gNew (gConsA (gBin (fI iMul) (gVar 0) (gCall fInt (gConsA (gBin (fI (iCmp fun i j => decide (j ≤ i))) (gVar 0) (gBin (fI iPow) (gC (.int 10)) (gC (.int 18)))) (gNilA)))) (gConsA (gBin (fI iMod) (gCall fInt (gConsA (gVar 0) (gNilA))) (gC (.int 2147483647))) (gConsA (gC (.int 0)) (gNilA))))))
def f__law_source_of : List W → Hg → Res W := runS 1 g__law_source_of
theorem sc__law_source_of : FnScope N__law_source_of ["_law_cell"] (defScope s__law_source_of) := ⟨rfl, rfl, rfl, nd__law_source_of, rfl, by decide +kernel, by decide +kernel⟩
theorem b__law_source_of {f : Addr} (T : Txt K mg)  : Body P w K mg base N__law_source_of "_law_source_of" s__law_source_of 0 f g__law_source_of := fun cdv A outer s H E hr => by
  have hu := room65 hr
  have hgd := hr.g
  exact gss_cons (gs_set (i := 0) nd__law_source_of (ge_if (gt_cmp op_ge og_ge (ge_var 0) (ge_int)) (ge_var 0) (ge_op op_sub og_sub (ge_op op_sub og_sub (ge_int) (ge_op op_mul og_mul (ge_int) (ge_var 0))) (ge_int)))) (gss_one (gs_ret (ge_new (ga_cons (ge_op op_mul og_mul (ge_var 0) (ge_callTy call_int1 cg_int T.fr_int (ga_cons (ge_cmp op_ge og_ge (ge_var 0) (ge_op op_pow og_pow (ge_int) (ge_int))) (ga_nil)))) (ga_cons (ge_op op_mod og_mod (ge_callTy call_int1 cg_int T.fr_int (ga_cons (ge_var 0) (ga_nil))) (ge_int)) (ga_cons (ge_int) (ga_nil)))))))
abbrev s__law_cell_at : Stmt := top 17
def N__law_cell_at : List Str := ["_law_script", "_law_k"]
theorem nd__law_cell_at : N__law_cell_at.Nodup := by decide +kernel
def g__law_cell_at : GS := gSeq (gIf (gTst (gBin (fI (iCmp fun i j => decide (i < j))) (gVar 1) (gCall fLenD (gConsA (gVar 0) (gNilA))))) (gRet (gBin fIxD (gVar 0) (gVar 1))) (gNil)) (gRet (gC (.int 0)))
def f__law_cell_at : List D → PRes := runP 2 g__law_cell_at
theorem sc__law_cell_at : FnScope N__law_cell_at ["_law_script", "_law_k"] (defScope s__law_cell_at) := ⟨rfl, rfl, rfl, nd__law_cell_at, rfl, by decide +kernel, by decide +kernel⟩
theorem b__law_cell_at {f : Addr} (T : Txt K mg)  : Body P w K mg base N__law_cell_at "_law_cell_at" s__law_cell_at 0 f g__law_cell_at := fun cdv A outer s H E hr => by
  have hu := room65 hr
  have hgd := hr.g
  exact gss_cons (gs_if (gt_cmp op_lt og_lt (ge_var 1) (ge_callB Gh.call_lenD cg_lenD T.fr_len (ga_cons (ge_var 0) (ga_nil)))) (gss_one (gs_ret (ge_ix (Gh.ix_D hu) og_ixD (ge_var 0) (ge_var 1)))) (gss_nil)) (gss_one (gs_ret (ge_int)))
abbrev s__law_next : Stmt := top 19
def N__law_next : List Str := ["_law_source", "_law_many", "_law_prime", "_law_number", "_law_found"]
theorem nd__law_next : N__law_next.Nodup := by decide +kernel
def g__law_next : GS := gSeq (gIf (gTst (gBin (fI (iCmp fun i j => decide (j < i))) (gBin fIxD (gVar 0) (gC (.int 0))) (gC (.int 0)))) (gSeq (gAsg (gBin (fI iMod) (gCall fInt (gConsA (gBin fIxD (gVar 0) (gC (.int 0))) (gNilA))) (gVar 1)) (gNm 4)) (gSeq (gAsg (gBin (fI iDiv) (gBin fIxD (gVar 0) (gC (.int 0))) (gVar 1)) (gSb (gVar 0) (gC (.int 0)) fSetD)) (gRet (gVar 4)))) (gNil)) (gSeq (gAsg (gBin fAdd (gBin fIxD (gVar 0) (gC (.int 2))) (gC (.int 1))) (gSb (gVar 0) (gC (.int 2)) fSetD)) (gSeq (gAsg (gC (.int 2147483647)) (gNm 2)) (gSeq (gAsg (gBin (fI iMod) (gCall fInt (gConsA (gBin fAdd (gBin fAdd (gBin fIxD (gVar 0) (gC (.int 1))) (gBin (fI iMul) (gC (.int 104729)) (gBin fIxD (gVar 0) (gC (.int 2))))) (gC (.int 7919))) (gNilA))) (gVar 2)) (gNm 3)) (gSeq (gAsg (gBin (fI iMod) (gCall fInt (gConsA (gBin (fI iMul) (gVar 3) (gC (.int 48271))) (gNilA))) (gVar 2)) (gNm 3)) (gSeq (gAsg (gBin (fI iMod) (gCall fInt (gConsA (gBin (fI iMul) (gVar 3) (gBin fAdd (gBin (fI iDiv) (gVar 3) (gC (.int 1009))) (gC (.int 69621)))) (gNilA))) (gVar 2)) (gNm 3)) (gSeq (gAsg (gBin (fI iMod) (gCall fInt (gConsA (gBin (fI iMul) (gVar 3) (gBin fAdd (gBin (fI iDiv) (gVar 3) (gC (.int 2003))) (gC (.int 40692)))) (gNilA))) (gC (.int 2147483399))) (gNm 3)) (gRet (gBin (fI iMod) (gCall fInt (gConsA (gBin (fI iDiv) (gVar 3) (gC (.int 7))) (gNilA))) (gVar 1)))))))))
def f__law_next : List W → Hg → Res W := runS 5 g__law_next
theorem sc__law_next : FnScope N__law_next ["_law_source", "_law_many"] (defScope s__law_next) := ⟨rfl, rfl, rfl, nd__law_next, rfl, by decide +kernel, by decide +kernel⟩
theorem b__law_next {f : Addr} (T : Txt K mg)  : Body P w K mg base N__law_next "_law_next" s__law_next 0 f g__law_next := fun cdv A outer s H E hr => by
  have hu := room65 hr
  have hgd := hr.g
  exact gss_cons (gs_if (gt_cmp op_gt og_gt (ge_ix (Gh.ix_D hu) og_ixD (ge_var 0) (ge_int)) (ge_int)) (gss_cons (gs_set (i := 4) nd__law_next (ge_op op_mod og_mod (ge_callTy call_int1 cg_int T.fr_int (ga_cons (ge_ix (Gh.ix_D hu) og_ixD (ge_var 0) (ge_int)) (ga_nil))) (ge_var 1))) (gss_cons (gs_asg (own := []) (ge_op op_fdiv og_div (ge_ix (Gh.ix_D hu) og_ixD (ge_var 0) (ge_int)) (ge_var 1)) (gg_sub (Gh.set_D hu) sg_D (ge_var 0) (ge_int))) (gss_one (gs_ret (ge_var 4))))) (gss_nil)) (gss_cons (gs_asg (own := []) (ge_op op_addA og_add (ge_ix (Gh.ix_D hu) og_ixD (ge_var 0) (ge_int)) (ge_int)) (gg_sub (Gh.set_D hu) sg_D (ge_var 0) (ge_int))) (gss_cons (gs_set (i := 2) nd__law_next (ge_int)) (gss_cons (gs_set (i := 3) nd__law_next (ge_op op_mod og_mod (ge_callTy call_int1 cg_int T.fr_int (ga_cons (ge_op op_addA og_add (ge_op op_addA og_add (ge_ix (Gh.ix_D hu) og_ixD (ge_var 0) (ge_int)) (ge_op op_mul og_mul (ge_int) (ge_ix (Gh.ix_D hu) og_ixD (ge_var 0) (ge_int)))) (ge_int)) (ga_nil))) (ge_var 2))) (gss_cons (gs_set (i := 3) nd__law_next (ge_op op_mod og_mod (ge_callTy call_int1 cg_int T.fr_int (ga_cons (ge_op op_mul og_mul (ge_var 3) (ge_int)) (ga_nil))) (ge_var 2))) (gss_cons (gs_set (i := 3) nd__law_next (ge_op op_mod og_mod (ge_callTy call_int1 cg_int T.fr_int (ga_cons (ge_op op_mul og_mul (ge_var 3) (ge_op op_addA og_add (ge_op op_fdiv og_div (ge_var 3) (ge_int)) (ge_int))) (ga_nil))) (ge_var 2))) (gss_cons (gs_set (i := 3) nd__law_next (ge_op op_mod og_mod (ge_callTy call_int1 cg_int T.fr_int (ga_cons (ge_op op_mul og_mul (ge_var 3) (ge_op op_addA og_add (ge_op op_fdiv og_div (ge_var 3) (ge_int)) (ge_int))) (ga_nil))) (ge_int))) (gss_one (gs_ret (ge_op op_mod og_mod (ge_callTy call_int1 cg_int T.fr_int (ga_cons (ge_op op_fdiv og_div (ge_var 3) (ge_int)) (ga_nil))) (ge_var 1))))))))))
abbrev s__law_mixed : Stmt := top 21
def N__law_mixed : List Str := ["_law_source", "_law_some", "_law_left", "_law_found"]
theorem nd__law_mixed : N__law_mixed.Nodup := by decide +kernel
def wc0__law_mixed : GT := gTst (gBin (fEqS true) (gVar 2) (gLst (gNilA)))
def wb0__law_mixed : GS := gExpr (gMt .lst fAppend (gVar 3) (gConsA (gMt .lst fPop (gVar 2) (gConsA (gFnS 2 f__law_next (gConsA (gVar 0) (gConsA (gCall fLenD (gConsA (gVar 2) (gNilA))) (gNilA)))) (gNilA))) (gNilA)))
def g__law_mixed : GS := gSeq (gAsg (gCall fListDN (gConsA (gVar 1) (gNilA))) (gNm 2)) (gSeq (gAsg (gNew (gNilA)) (gNm 3)) (gSeq (whileN (wc0__law_mixed) (wb0__law_mixed) 1000000) (gRet (gVar 3))))
def f__law_mixed : List W → Hg → Res W := runS 4 g__law_mixed
theorem sc__law_mixed : FnScope N__law_mixed ["_law_source", "_law_some"] (defScope s__law_mixed) := ⟨rfl, rfl, rfl, nd__law_mixed, rfl, by decide +kernel, by decide +kernel⟩
theorem b__law_mixed {f : Addr} (T : Txt K mg) (C__law_next : CalX P w K mg base 1 "_law_next" (spS ⟨K, mg, w⟩ 2 f__law_next)) : Body P w K mg base N__law_mixed "_law_mixed" s__law_mixed 1 f g__law_mixed := fun cdv A outer s H E hr => by
  have hu := room65 hr
  have hgd := hr.g
  exact gss_cons (gs_set (i := 2) nd__law_mixed (ge_callTy (Gh.call_listD (by rfl)) cg_listDN T.fr_list (ga_cons (ge_var 1) (ga_nil)))) (gss_cons (gs_set (i := 3) nd__law_mixed (ge_new (ga_nil))) (gss_cons (gs_while 1000000 (passes_of rfl) (gt_cmp (Gh.op_neS hu) og_neS (ge_var 2) (ge_lst (ga_nil))) (gss_one (gs_expr (ge_append (ge_var 3) (ga_cons (ge_popAt (ge_var 2) (ga_cons (ge_fnS C__law_next hr (by decide) (ga_cons (ge_var 0) (ga_cons (ge_callB Gh.call_lenD cg_lenD T.fr_len (ga_cons (ge_var 2) (ga_nil))) (ga_nil)))) (ga_nil))) (ga_nil)))))) (gss_one (gs_ret (ge_var 3)))))
abbrev s__law_one : Stmt := top 20
def N__law_one : List Str := ["_law_source", "_law_some"]
theorem nd__law_one : N__law_one.Nodup := by decide +kernel
def g__law_one : GS := gRet (gBin fIxD (gVar 1) (gFnS 2 f__law_next (gConsA (gVar 0) (gConsA (gCall fLenD (gConsA (gVar 1) (gNilA))) (gNilA)))))
def f__law_one : List W → Hg → Res W := runS 2 g__law_one
theorem sc__law_one : FnScope N__law_one ["_law_source", "_law_some"] (defScope s__law_one) := ⟨rfl, rfl, rfl, nd__law_one, rfl, by decide +kernel, by decide +kernel⟩
theorem b__law_one {f : Addr} (T : Txt K mg) (C__law_next : CalX P w K mg base 1 "_law_next" (spS ⟨K, mg, w⟩ 2 f__law_next)) : Body P w K mg base N__law_one "_law_one" s__law_one 1 f g__law_one := fun cdv A outer s H E hr => by
  have hu := room65 hr
  have hgd := hr.g
  exact gss_one (gs_ret (ge_ix (Gh.ix_D hu) og_ixD (ge_var 1) (ge_fnS C__law_next hr (by decide) (ga_cons (ge_var 0) (ga_cons (ge_callB Gh.call_lenD cg_lenD T.fr_len (ga_cons (ge_var 1) (ga_nil))) (ga_nil))))))
abbrev s__law_writes : Stmt := top 22
def N__law_writes : List Str := ["_law_source", "_law_marks", "_law_left", "_law_found", "_law_part", "_law_way", "_law_k", "_law_mark"]
theorem nd__law_writes : N__law_writes.Nodup := by decide +kernel
def le0__law_writes : GE := gMt .lst fPop (gVar 2) (gNilA)
def le1__law_writes : GE := gTup (gConsA (gVar 7) (gConsA (gFnS 2 f__law_one (gConsA (gVar 0) (gConsA (gLst (gConsA (gC (.str "on")) (gConsA (gC (.str "off")) (gNilA)))) (gNilA)))) (gNilA)))
def le2__law_writes : GE := gTup (gConsA (gVar 7) (gConsA (gFnS 2 f__law_one (gConsA (gVar 0) (gConsA (gVar 1) (gNilA)))) (gNilA)))
def wc0__law_writes : GT := gTst (gBin (fEqS true) (gVar 2) (gLst (gNilA)))
def wb0__law_writes : GS := gSeq (gAsg (fun ρ G => (gLcW (gRng1 (gConsA (gCall fMin2 (gConsA (gCall fLenD (gConsA (gVar 2) (gNilA))) (gConsA (gBin fAdd (gC (.int 1)) (gFnS 2 f__law_next (gConsA (gVar 0) (gConsA (gC (.int 4)) (gNilA))))) (gNilA)))) (gNilA))) [6] (gNm 6) (gYes) (le0__law_writes) ρ G).bind finT) (gNm 4)) (gSeq (gAsg (gFnS 2 f__law_next (gConsA (gVar 0) (gConsA (gC (.int 5)) (gNilA)))) (gNm 5)) (gIf (gTst (gBin (fEqS false) (gVar 5) (gC (.int 0)))) (gExpr (gMt .lst fExtend (gVar 3) (gConsA (fun ρ G => (gLcW (gSeqI (gVar 4)) [7] (gNm 7) (gYes) (le1__law_writes) ρ G).bind finT) (gNilA)))) (gIf (gTst (gBin (fEqS false) (gVar 5) (gC (.int 1)))) (gExpr (gMt .lst fExtend (gVar 3) (gConsA (fun ρ G => (gLcW (gSeqI (gVar 4)) [7] (gNm 7) (gYes) (le2__law_writes) ρ G).bind finT) (gNilA)))) (gIf (gTst (gBin (fI (iCmp fun i j => decide (i < j))) (gVar 5) (gC (.int 4)))) (gExpr (gMt .lst fExtend (gVar 3) (gConsA (gListZip (gConsA (gVar 4) (gConsA (gBin fAdd (gSlice (gVar 4) (gPt (gC (.int 1))) (gNoP)) (gSlice (gVar 4) (gNoP) (gPt (gC (.int 1))))) (gNilA)))) (gNilA)))) (gExpr (gMt .lst fExtend (gVar 3) (gConsA (gListZip (gConsA (gSlice (gVar 4) (gPt (gC (.int 1))) (gNoP)) (gConsA (gVar 4) (gNilA)))) (gNilA))))))))
def g__law_writes : GS := gSeq (gAsg (gTup (gConsA (gFnS 2 f__law_mixed (gConsA (gVar 0) (gConsA (gVar 1) (gNilA)))) (gConsA (gNew (gNilA)) (gNilA)))) (gTp [gNm 2, gNm 3])) (gSeq (whileN (wc0__law_writes) (wb0__law_writes) 1000000) (gRet (gSlice (gVar 3) (gNoP) (gPt (gFnS 2 f__law_next (gConsA (gVar 0) (gConsA (gC (.int 13)) (gNilA))))))))
def f__law_writes : List W → Hg → Res W := runS 8 g__law_writes
theorem sc__law_writes : FnScope N__law_writes ["_law_source", "_law_marks"] (defScope s__law_writes) := ⟨rfl, rfl, rfl, nd__law_writes, rfl, by decide +kernel, by decide +kernel⟩
theorem b__law_writes {f : Addr} (T : Txt K mg) (C__law_mixed : CalX P w K mg base 2 "_law_mixed" (spS ⟨K, mg, w⟩ 2 f__law_mixed)) (C__law_next : CalX P w K mg base 1 "_law_next" (spS ⟨K, mg, w⟩ 2 f__law_next)) (C__law_one : CalX P w K mg base 2 "_law_one" (spS ⟨K, mg, w⟩ 2 f__law_one)) : Body P w K mg base N__law_writes "_law_writes" s__law_writes 2 f g__law_writes := fun cdv A outer s H E hr => by
  have hu := room65 hr
  have hgd := hr.g
  exact gss_cons (gs_asg (own := [2, 3]) (ge_tup (ga_cons (ge_fnS C__law_mixed hr (by decide) (ga_cons (ge_var 0) (ga_cons (ge_var 1) (ga_nil)))) (ga_cons (ge_new (ga_nil)) (ga_nil)))) (gg_tup rfl (ggs_cons (gg_name 2 nd__law_writes) (ggs_cons (gg_name 3 nd__law_writes) (ggs_nil))))) (gss_cons (gs_while 1000000 (passes_of rfl) (gt_cmp (Gh.op_neS hu) og_neS (ge_var 2) (ge_lst (ga_nil))) (gss_cons (gs_setLc (i := 4) (⟨rfl, nd__law_writes, gi_range1 T.fr_range (ga_cons (ge_callB (cr_min2 (by rfl)) cg_min2 T.fr_min (ga_cons (ge_callB Gh.call_lenD cg_lenD T.fr_len (ga_cons (ge_var 2) (ga_nil))) (ga_cons (ge_op op_addA og_add (ge_int) (ge_fnS C__law_next hr (by decide) (ga_cons (ge_var 0) (ga_cons (ge_int) (ga_nil))))) (ga_nil)))) (ga_nil)), blkOk_by (own := [("_law_k", 6)]) (by rfl), fun _ _ _ _ _ => gg_name 6 nd__law_writes, fun _ _ _ _ _ => gts_nil, fun _ _ _ _ _ => ge_pop (ge_var 2)⟩ : LcParts _ _ _ _ _ _ _ _ _ _ _) finT_ok) (gss_cons (gs_set (i := 5) nd__law_writes (ge_fnS C__law_next hr (by decide) (ga_cons (ge_var 0) (ga_cons (ge_int) (ga_nil))))) (gss_one (gs_if (gt_cmp (Gh.op_eqS hu) og_eqS (ge_var 5) (ge_int)) (gss_one (gs_expr (ge_extend (ge_var 3) (ga_cons (ge_lc (⟨rfl, nd__law_writes, gi_seq (ge_var 4), blkOk_by (own := [("_law_mark", 7)]) (by rfl), fun _ _ _ _ _ => gg_name 7 nd__law_writes, fun _ _ _ _ _ => gts_nil, fun _ _ _ _ _ => ge_tup (ga_cons (ge_var 7) (ga_cons (ge_fnS C__law_one hr (by decide) (ga_cons (ge_var 0) (ga_cons (ge_lst (ga_cons (ge_str) (ga_cons (ge_str) (ga_nil)))) (ga_nil)))) (ga_nil)))⟩ : LcParts _ _ _ _ _ _ _ _ _ _ _) finT_ok) (ga_nil))))) (gss_one (gs_if (gt_cmp (Gh.op_eqS hu) og_eqS (ge_var 5) (ge_int)) (gss_one (gs_expr (ge_extend (ge_var 3) (ga_cons (ge_lc (⟨rfl, nd__law_writes, gi_seq (ge_var 4), blkOk_by (own := [("_law_mark", 7)]) (by rfl), fun _ _ _ _ _ => gg_name 7 nd__law_writes, fun _ _ _ _ _ => gts_nil, fun _ _ _ _ _ => ge_tup (ga_cons (ge_var 7) (ga_cons (ge_fnS C__law_one hr (by decide) (ga_cons (ge_var 0) (ga_cons (ge_var 1) (ga_nil)))) (ga_nil)))⟩ : LcParts _ _ _ _ _ _ _ _ _ _ _) finT_ok) (ga_nil))))) (gss_one (gs_if (gt_cmp op_lt og_lt (ge_var 5) (ge_int)) (gss_one (gs_expr (ge_extend (ge_var 3) (ga_cons (ge_listZip T.fr_list T.fr_zip (by rfl) (ga_cons (ge_var 4) (ga_cons (ge_op op_addA og_add (ge_slice (ge_var 4) (gp_some (ge_int)) (gp_none)) (ge_slice (ge_var 4) (gp_none) (gp_some (ge_int)))) (ga_nil)))) (ga_nil))))) (gss_one (gs_expr (ge_extend (ge_var 3) (ga_cons (ge_listZip T.fr_list T.fr_zip (by rfl) (ga_cons (ge_slice (ge_var 4) (gp_some (ge_int)) (gp_none)) (ga_cons (ge_var 4) (ga_nil)))) (ga_nil)))))))))))))) (gss_one (gs_ret (ge_slice (ge_var 3) (gp_none) (gp_some (ge_fnS C__law_next hr (by decide) (ga_cons (ge_var 0) (ga_cons (ge_int) (ga_nil)))))))))
abbrev s_is_integer : Stmt := top 5
def N_is_integer : List Str := ["value"]
theorem nd_is_integer : N_is_integer.Nodup := by decide +kernel
def g_is_integer : GS := gRet (gAndV (gIsc k_int (gVar 0)) (gNotV (gIsc k_bool (gVar 0))))
def f_is_integer : List D → PRes := runP 1 g_is_integer
theorem sc_is_integer : FnScope N_is_integer ["value"] (defScope s_is_integer) := ⟨rfl, rfl, rfl, nd_is_integer, rfl, by decide +kernel, by decide +kernel⟩
theorem b_is_integer {f : Addr} (T : Txt K mg)  : Body P w K mg base N_is_integer "is_integer" s_is_integer 0 f g_is_integer := fun cdv A outer s H E hr => by
  have hu := room65 hr
  have hgd := hr.g
  exact gss_one (gs_ret (ge_and (ge_isc T.fr_isinstance (ge_var 0) (.ty "int" (by decide +kernel) T.fr_int (by rfl) (by decide) (by decide) (by rfl) (.nil)) T.kt_int) (ge_one (ge_not (ge_isc T.fr_isinstance (ge_var 0) (.ty "bool" (by decide +kernel) T.fr_bool (by rfl) (by decide) (by decide) (by rfl) (.nil)) T.kt_bool)))))
abbrev s_is_mark : Stmt := top 8
def N_is_mark : List Str := ["value"]
theorem nd_is_mark : N_is_mark.Nodup := by decide +kernel
def g_is_mark : GS := gRet (gAndV (gFnP 1 f_is_integer (gConsA (gVar 0) (gNilA))) (gBin (fI (iCmp fun i j => decide (j ≤ i))) (gVar 0) (gC (.int 0))))
def f_is_mark : List D → PRes := runP 1 g_is_mark
theorem sc_is_mark : FnScope N_is_mark ["value"] (defScope s_is_mark) := ⟨rfl, rfl, rfl, nd_is_mark, rfl, by decide +kernel, by decide +kernel⟩
theorem b_is_mark {f : Addr} (T : Txt K mg) (C_is_integer : CalX P w K mg base 1 "is_integer" (spP ⟨K, mg, w⟩ 1 f_is_integer)) : Body P w K mg base N_is_mark "is_mark" s_is_mark 1 f g_is_mark := fun cdv A outer s H E hr => by
  have hu := room65 hr
  have hgd := hr.g
  exact gss_one (gs_ret (ge_and (ge_fnP C_is_integer hr (by decide) (ga_cons (ge_var 0) (ga_nil))) (ge_one (ge_cmp op_ge og_ge (ge_var 0) (ge_int)))))
abbrev s_is_write : Stmt := top 9
def N_is_write : List Str := ["value"]
theorem nd_is_write : N_is_write.Nodup := by decide +kernel
def g_is_write : GS := gSeq (gIf (gOr (gNot (gTst (gIsc k_tuple (gVar 0)))) (gOr (gTst (gBin (fEqS true) (gCall fLenD (gConsA (gVar 0) (gNilA))) (gC (.int 2)))) (gNot (gTst (gFnP 1 f_is_mark (gConsA (gBin fIxD (gVar 0) (gC (.int 0))) (gNilA))))))) (gRet (gC (.bl false))) (gNil)) (gRet (gOrV (gAndV (gIsc k_str (gBin fIxD (gVar 0) (gC (.int 1)))) (gBin (fInD false) (gBin fIxD (gVar 0) (gC (.int 1))) (gC c_CONSTANTS))) (gFnP 1 f_is_mark (gConsA (gBin fIxD (gVar 0) (gC (.int 1))) (gNilA)))))
def f_is_write : List D → PRes := runP 1 g_is_write
theorem sc_is_write : FnScope N_is_write ["value"] (defScope s_is_write) := ⟨rfl, rfl, rfl, nd_is_write, rfl, by decide +kernel, by decide +kernel⟩
theorem b_is_write {f : Addr} (T : Txt K mg) (C_is_mark : CalX P w K mg base 2 "is_mark" (spP ⟨K, mg, w⟩ 1 f_is_mark)) : Body P w K mg base N_is_write "is_write" s_is_write 2 f g_is_write := fun cdv A outer s H E hr => by
  have hu := room65 hr
  have hgd := hr.g
  exact gss_cons (gs_if (GJW.pt (gw_or (gt_not (gt_val (ge_isc T.fr_isinstance (ge_var 0) (.ty "tuple" (by decide +kernel) T.fr_tuple (by rfl) (by decide) (by decide) (by rfl) (.nil)) T.kt_tuple))) (gw_or (gt_cmp (Gh.op_neS hu) og_neS (ge_callB Gh.call_lenD cg_lenD T.fr_len (ga_cons (ge_var 0) (ga_nil))) (ge_int)) (gw_or1 (gt_not (gt_val (ge_fnP C_is_mark hr (by decide) (ga_cons (ge_ix (Gh.ix_D hu) og_ixD (ge_var 0) (ge_int)) (ga_nil))))))))) (gss_one (gs_ret (ge_bl))) (gss_nil)) (gss_one (gs_ret (ge_or (ge_and (ge_isc T.fr_isinstance (ge_ix (Gh.ix_D hu) og_ixD (ge_var 0) (ge_int)) (.ty "str" (by decide +kernel) T.fr_str (by rfl) (by decide) (by decide) (by rfl) (.nil)) T.kt_str) (ge_one (ge_cmp (Gh.op_inD hu) og_inD (ge_ix (Gh.ix_D hu) og_ixD (ge_var 0) (ge_int)) (ge_glob T.gl_CONSTANTS)))) (ge_one (ge_fnP C_is_mark hr (by decide) (ga_cons (ge_ix (Gh.ix_D hu) og_ixD (ge_var 0) (ge_int)) (ga_nil)))))))
abbrev s_look_writes : Stmt := top 10
def N_look_writes : List Str := ["writes", "marks", "at", "write"]
theorem nd_look_writes : N_look_writes.Nodup := by decide +kernel
def fb0_look_writes : GS := gSeq (gIf (gOr (gNot (gTst (gFnP 1 f_is_write (gConsA (gVar 3) (gNilA))))) (gTst (gBin (fInD false) (gBin fIxD (gVar 3) (gC (.int 0))) (gVar 1)))) (gRaise "NoWrites" ["at"] (gConsA (gVar 2) (gNilA))) (gNil)) (gExpr (gMt .lst fAppend (gVar 1) (gConsA (gBin fIxD (gVar 3) (gC (.int 0))) (gNilA))))
def g_look_writes : GS := gSeq (gIf (gNot (gTst (gIsc k_list_tuple (gVar 0)))) (gRaise "NoWrites" ["at"] (gConsA (gNeg (gC (.int 1))) (gNilA))) (gNil)) (gSeq (gAsg (gNew (gNilA)) (gNm 1)) (gFor (gEnumA (gConsA (gVar 0) (gNilA))) (gTp [gNm 2, gNm 3]) (fb0_look_writes)))
def f_look_writes : List D → PRes := runP 4 g_look_writes
theorem sc_look_writes : FnScope N_look_writes ["writes"] (defScope s_look_writes) := ⟨rfl, rfl, rfl, nd_look_writes, rfl, by decide +kernel, by decide +kernel⟩
theorem b_look_writes {f : Addr} (T : Txt K mg) (C_is_write : CalX P w K mg base 3 "is_write" (spP ⟨K, mg, w⟩ 1 f_is_write)) (X_NoWrites : ClsX P w K mg base "NoWrites" ["at"]) : Body P w K mg base N_look_writes "look_writes" s_look_writes 3 f g_look_writes := fun cdv A outer s H E hr => by
  have hu := room65 hr
  have hgd := hr.g
  exact gss_cons (gs_if (gt_not (gt_val (ge_iscT T.fr_isinstance (ge_var 0) (.ty "list" (by decide +kernel) T.fr_list (by rfl) (by decide) (by decide) (by rfl) (.ty "tuple" (by decide +kernel) T.fr_tuple (by rfl) (by decide) (by decide) (by rfl) (.nil))) T.kt_list_tuple))) (gss_one (gs_raise X_NoWrites hr (by decide) rfl (ga_cons (ge_neg (ge_int)) (ga_nil)))) (gss_nil)) (gss_cons (gs_set (i := 1) nd_look_writes (ge_new (ga_nil))) (gss_one (gs_for (own := [2, 3]) (passes_of rfl) rfl (gi_enumA T.fr_enumerate (ga_cons (ge_var 0) (ga_nil))) (gg_tup rfl (ggs_cons (gg_name 2 nd_look_writes) (ggs_cons (gg_name 3 nd_look_writes) (ggs_nil)))) (gss_cons (gs_if (GJW.pt (gw_or (gt_not (gt_val (ge_fnP C_is_write hr (by decide) (ga_cons (ge_var 3) (ga_nil))))) (gw_or1 (gt_cmp (Gh.op_inD hu) og_inD (ge_ix (Gh.ix_D hu) og_ixD (ge_var 3) (ge_int)) (ge_var 1))))) (gss_one (gs_raise X_NoWrites hr (by decide) rfl (ga_cons (ge_var 2) (ga_nil)))) (gss_nil)) (gss_one (gs_expr (ge_append (ge_var 1) (ga_cons (ge_ix (Gh.ix_D hu) og_ixD (ge_var 3) (ge_int)) (ga_nil)))))))))
abbrev s_look_spare : Stmt := top 11
def N_look_spare : List Str := ["writes", "spare", "write"]
theorem nd_look_spare : N_look_spare.Nodup := by decide +kernel
def le0_look_spare : GE := gBin (fInD false) (gVar 1) (gVar 2)
def g_look_spare : GS := gIf (gOr (gNot (gTst (gFnP 1 f_is_mark (gConsA (gVar 1) (gNilA))))) (gTst (gCall fAny (gConsA (fun ρ G => (gLcW (gSeqI (gVar 0)) [2] (gNm 2) (gYes) (le0_look_spare) ρ G).bind finT) (gNilA))))) (gRaise "NoSpare" ["spare"] (gConsA (gVar 1) (gNilA))) (gNil)
def f_look_spare : List D → PRes := runP 3 g_look_spare
theorem sc_look_spare : FnScope N_look_spare ["writes", "spare"] (defScope s_look_spare) := ⟨rfl, rfl, rfl, nd_look_spare, rfl, by decide +kernel, by decide +kernel⟩
theorem b_look_spare {f : Addr} (T : Txt K mg) (C_is_mark : CalX P w K mg base 2 "is_mark" (spP ⟨K, mg, w⟩ 1 f_is_mark)) (X_NoSpare : ClsX P w K mg base "NoSpare" ["spare"]) : Body P w K mg base N_look_spare "look_spare" s_look_spare 2 f g_look_spare := fun cdv A outer s H E hr => by
  have hu := room65 hr
  have hgd := hr.g
  exact gss_one (gs_if (GJW.pt (gw_or (gt_not (gt_val (ge_fnP C_is_mark hr (by decide) (ga_cons (ge_var 1) (ga_nil))))) (gw_or1 (gt_val (ge_callB (cr_any (by rfl)) cg_any T.fr_any (ga_cons (ge_lc (⟨rfl, nd_look_spare, gi_seq (ge_var 0), blkOk_by (own := [("write", 2)]) (by rfl), fun _ _ _ _ _ => gg_name 2 nd_look_spare, fun _ _ _ _ _ => gts_nil, fun _ _ _ _ _ => ge_cmp (Gh.op_inD hu) og_inD (ge_var 1) (ge_var 2)⟩ : LcParts _ _ _ _ _ _ _ _ _ _ _) finT_ok) (ga_nil))))))) (gss_one (gs_raise X_NoSpare hr (by decide) rfl (ga_cons (ge_var 1) (ga_nil)))) (gss_nil))
abbrev s_next_free : Stmt := top 14
def N_next_free : List Str := ["left", "free", "mark"]
theorem nd_next_free : N_next_free.Nodup := by decide +kernel
def lt0_next_free : GT := gTst (gBin (fInD true) (gVar 2) (gValsL (gVar 0) false))
def le0_next_free : GE := gVar 2
def g_next_free : GS := gSeq (gLock 0 (gAsg (fun ρ G => (gLcW (gDicI .keys (gVar 0)) [2] (gNm 2) (lt0_next_free) (le0_next_free) ρ G).bind finT) (gNm 1))) (gRet (gIfE (gTst (gBin (fEqS true) (gVar 1) (gLst (gNilA)))) (gCall fMinD (gConsA (gVar 1) (gNilA))) (gC .non)))
def f_next_free : List W → Hg → Res W := runS 3 g_next_free
theorem sc_next_free : FnScope N_next_free ["left"] (defScope s_next_free) := ⟨rfl, rfl, rfl, nd_next_free, rfl, by decide +kernel, by decide +kernel⟩
theorem b_next_free {f : Addr} (T : Txt K mg)  : Body P w K mg base N_next_free "next_free" s_next_free 0 f g_next_free := fun cdv A outer s H E hr => by
  have hu := room65 hr
  have hgd := hr.g
  exact gss_cons (gs_lock 0 (gs_setLc (i := 1) (⟨rfl, nd_next_free, gi_keys (ge_var 0), blkOk_by (own := [("mark", 2)]) (by rfl), fun _ _ _ _ _ => gg_name 2 nd_next_free, fun _ _ _ _ _ => gts_one (gt_cmp (Gh.op_notInD hu) og_inD (ge_var 2) (ge_listVals false T.fr_list (by rfl) (ge_var 0))), fun _ _ _ _ _ => ge_var 2⟩ : LcParts _ _ _ _ _ _ _ _ _ _ _) finT_ok)) (gss_one (gs_ret (ge_if (gt_cmp (Gh.op_neS hu) og_neS (ge_var 1) (ge_lst (ga_nil))) (ge_callB (cr_minD (by rfl)) cg_minD T.fr_min (ga_cons (ge_var 1) (ga_nil))) (ge_non))))
abbrev s_redirected : Stmt := top 13
def N_redirected : List Str := ["left", "mark", "other", "one", "source"]
theorem nd_redirected : N_redirected.Nodup := by decide +kernel
def le0_redirected : GE := gVar 3
def le1_redirected : GE := gIfE (gTst (gBin (fEqS false) (gVar 4) (gVar 1))) (gVar 2) (gVar 4)
def g_redirected : GS := gLock 0 (gRet (fun ρ G => (gDcW (gDicI .items (gVar 0)) [3, 4] (gTp [gNm 3, gNm 4]) (gYes) (le0_redirected) (le1_redirected) ρ G).bind finDN))
def f_redirected : List W → Hg → Res W := runS 5 g_redirected
theorem sc_redirected : FnScope N_redirected ["left", "mark", "other"] (defScope s_redirected) := ⟨rfl, rfl, rfl, nd_redirected, rfl, by decide +kernel, by decide +kernel⟩
theorem b_redirected {f : Addr} (T : Txt K mg)  : Body P w K mg base N_redirected "redirected" s_redirected 0 f g_redirected := fun cdv A outer s H E hr => by
  have hu := room65 hr
  have hgd := hr.g
  exact gss_one (gs_lock 0 (gs_ret (ge_dc (⟨rfl, nd_redirected, gi_items (ge_var 0), blkOk_by (own := [("one", 3), ("source", 4)]) (by rfl), fun _ _ _ _ _ => gg_tup rfl (ggs_cons (gg_name 3 nd_redirected) (ggs_cons (gg_name 4 nd_redirected) (ggs_nil))), fun _ _ _ _ _ => gts_nil, fun _ _ _ _ _ => ge_var 3⟩ : LcParts _ _ _ _ _ _ _ _ _ _ _) (⟨rfl, nd_redirected, gi_items (ge_var 0), blkOk_by (own := [("one", 3), ("source", 4)]) (by rfl), fun _ _ _ _ _ => gg_tup rfl (ggs_cons (gg_name 3 nd_redirected) (ggs_cons (gg_name 4 nd_redirected) (ggs_nil))), fun _ _ _ _ _ => gts_nil, fun _ _ _ _ _ => ge_if (gt_cmp (Gh.op_eqS hu) og_eqS (ge_var 4) (ge_var 1)) (ge_var 2) (ge_var 4)⟩ : LcParts _ _ _ _ _ _ _ _ _ _ _))))
abbrev s_row_of : Stmt := top 12
def N_row_of : List Str := ["mark", "source"]
theorem nd_row_of : N_row_of.Nodup := by decide +kernel
def g_row_of : GS := gRet (gIfE (gTst (gBin (fInD false) (gVar 1) (gC c_CONSTANTS))) (gTup (gConsA (gVar 1) (gConsA (gVar 0) (gNilA)))) (gTup (gConsA (gC (.str "copy")) (gConsA (gVar 0) (gConsA (gVar 1) (gNilA))))))
def f_row_of : List D → PRes := runP 2 g_row_of
theorem sc_row_of : FnScope N_row_of ["mark", "source"] (defScope s_row_of) := ⟨rfl, rfl, rfl, nd_row_of, rfl, by decide +kernel, by decide +kernel⟩
theorem b_row_of {f : Addr} (T : Txt K mg)  : Body P w K mg base N_row_of "row_of" s_row_of 0 f g_row_of := fun cdv A outer s H E hr => by
  have hu := room65 hr
  have hgd := hr.g
  exact gss_one (gs_ret (ge_if (gt_cmp (Gh.op_inD hu) og_inD (ge_var 1) (ge_glob T.gl_CONSTANTS)) (ge_tup (ga_cons (ge_var 1) (ga_cons (ge_var 0) (ga_nil)))) (ge_tup (ga_cons (ge_str) (ga_cons (ge_var 0) (ga_cons (ge_var 1) (ga_nil)))))))
abbrev s_sequence : Stmt := top 15
def N_sequence : List Str := ["writes", "spare", "left", "kept", "rows", "mark", "source", "saved", "one"]
theorem nd_sequence : N_sequence.Nodup := by decide +kernel
def lt0_sequence : GT := gTst (gBin (fEqS true) (gVar 5) (gVar 6))
def le0_sequence : GE := gVar 5
def lt1_sequence : GT := gTst (gBin (fEqS true) (gVar 5) (gVar 6))
def le1_sequence : GE := gVar 6
def lt2_sequence : GT := gTst (gBin (fInD false) (gVar 8) (gVar 3))
def le2_sequence : GE := gVar 8
def wc0_sequence : GT := gTst (gBin (fEqS true) (gVar 2) (gDicT))
def wb0_sequence : GS := gSeq (gAsg (gFnS 1 f_next_free (gConsA (gVar 2) (gNilA))) (gNm 5)) (gSeq (gIf (gTst (gIsN false (gVar 5))) (gSeq (gLock 2 (gAsg (gCall fSorted (gConsA (fun ρ G => (gLcW (gDicI .keys (gVar 2)) [8] (gNm 8) (lt2_sequence) (le2_sequence) ρ G).bind finT) (gNilA))) (gNm 7))) (gSeq (gAsg (gIfE (gTst (gBin (fEqS true) (gVar 7) (gLst (gNilA)))) (gBin fIxD (gVar 7) (gC (.int 0))) (gCall fMinD (gConsA (gVar 2) (gNilA)))) (gNm 5)) (gSeq (gIf (gTst (gBin (fEqS false) (gVar 7) (gLst (gNilA)))) (gExpr (gMt .lst fAppend (gVar 4) (gConsA (gTup (gConsA (gC (.str "copy")) (gConsA (gVar 1) (gConsA (gVar 5) (gNilA))))) (gNilA)))) (gNil)) (gAsg (gFnS 3 f_redirected (gConsA (gVar 2) (gConsA (gVar 5) (gConsA (gGet2 (gVar 3) (gVar 5) (gVar 1)) (gNilA))))) (gNm 2))))) (gNil)) (gSeq (gAsg (gPopD (gVar 2) (gVar 5)) (gNm 6)) (gSeq (gExpr (gMt .lst fAppend (gVar 4) (gConsA (gFnP 2 f_row_of (gConsA (gVar 5) (gConsA (gVar 6) (gNilA)))) (gNilA)))) (gAsg (gVar 5) (gSb (gVar 3) (gVar 6) fSetD)))))
def g_sequence : GS := gSeq (gExpr (gFnP 1 f_look_writes (gConsA (gVar 0) (gNilA)))) (gSeq (gExpr (gFnP 2 f_look_spare (gConsA (gVar 0) (gConsA (gVar 1) (gNilA))))) (gSeq (gAsg (fun ρ G => (gDcW (gSeqI (gVar 0)) [5, 6] (gTp [gNm 5, gNm 6]) (lt1_sequence) (le0_sequence) (le1_sequence) ρ G).bind finDN) (gNm 2)) (gSeq (gAsg (gDicN) (gNm 3)) (gSeq (gAsg (gNew (gNilA)) (gNm 4)) (gSeq (whileN (wc0_sequence) (wb0_sequence) 1000000) (gRet (gVar 4)))))))
def f_sequence : List D → PRes := runP 9 g_sequence
theorem sc_sequence : FnScope N_sequence ["writes", "spare"] (defScope s_sequence) := ⟨rfl, rfl, rfl, nd_sequence, rfl, by decide +kernel, by decide +kernel⟩
theorem b_sequence {f : Addr} (T : Txt K mg) (C_look_spare : CalX P w K mg base 3 "look_spare" (spP ⟨K, mg, w⟩ 2 f_look_spare)) (C_look_writes : CalX P w K mg base 4 "look_writes" (spP ⟨K, mg, w⟩ 1 f_look_writes)) (C_next_free : CalX P w K mg base 1 "next_free" (spS ⟨K, mg, w⟩ 1 f_next_free)) (C_redirected : CalX P w K mg base 1 "redirected" (spS ⟨K, mg, w⟩ 3 f_redirected)) (C_row_of : CalX P w K mg base 1 "row_of" (spP ⟨K, mg, w⟩ 2 f_row_of)) : Body P w K mg base N_sequence "sequence" s_sequence 4 f g_sequence := fun cdv A outer s H E hr => by
  have hu := room65 hr
  have hgd := hr.g
  exact gss_cons (gs_expr (ge_fnP C_look_writes hr (by decide) (ga_cons (ge_var 0) (ga_nil)))) (gss_cons (gs_expr (ge_fnP C_look_spare hr (by decide) (ga_cons (ge_var 0) (ga_cons (ge_var 1) (ga_nil))))) (gss_cons (gs_setDc (i := 2) (⟨rfl, nd_sequence, gi_seq (ge_var 0), blkOk_by (own := [("mark", 5), ("source", 6)]) (by rfl), fun _ _ _ _ _ => gg_tup rfl (ggs_cons (gg_name 5 nd_sequence) (ggs_cons (gg_name 6 nd_sequence) (ggs_nil))), fun _ _ _ _ _ => gts_one (gt_cmp (Gh.op_neS hu) og_neS (ge_var 5) (ge_var 6)), fun _ _ _ _ _ => ge_var 5⟩ : LcParts _ _ _ _ _ _ _ _ _ _ _) (⟨rfl, nd_sequence, gi_seq (ge_var 0), blkOk_by (own := [("mark", 5), ("source", 6)]) (by rfl), fun _ _ _ _ _ => gg_tup rfl (ggs_cons (gg_name 5 nd_sequence) (ggs_cons (gg_name 6 nd_sequence) (ggs_nil))), fun _ _ _ _ _ => gts_one (gt_cmp (Gh.op_neS hu) og_neS (ge_var 5) (ge_var 6)), fun _ _ _ _ _ => ge_var 6⟩ : LcParts _ _ _ _ _ _ _ _ _ _ _)) (gss_cons (gs_set (i := 3) nd_sequence (ge_dicN)) (gss_cons (gs_set (i := 4) nd_sequence (ge_new (ga_nil))) (gss_cons (gs_while 1000000 (passes_of rfl) (gt_cmp (Gh.op_neS hu) og_neS (ge_var 2) (ge_dicT)) (gss_cons (gs_set (i := 5) nd_sequence (ge_fnS C_next_free hr (by decide) (ga_cons (ge_var 2) (ga_nil)))) (gss_cons (gs_if (gt_isN (ge_var 5)) (gss_cons (gs_lock 2 (gs_set (i := 7) nd_sequence (ge_callB cr_sortedI cg_sorted T.fr_sorted (ga_cons (ge_lc (⟨rfl, nd_sequence, gi_keys (ge_var 2), blkOk_by (own := [("one", 8)]) (by rfl), fun _ _ _ _ _ => gg_name 8 nd_sequence, fun _ _ _ _ _ => gts_one (gt_cmp (Gh.op_inD hu) og_inD (ge_var 8) (ge_var 3)), fun _ _ _ _ _ => ge_var 8⟩ : LcParts _ _ _ _ _ _ _ _ _ _ _) finT_ok) (ga_nil))))) (gss_cons (gs_set (i := 5) nd_sequence (ge_if (gt_cmp (Gh.op_neS hu) og_neS (ge_var 7) (ge_lst (ga_nil))) (ge_ix (Gh.ix_D hu) og_ixD (ge_var 7) (ge_int)) (ge_callB (cr_minD (by rfl)) cg_minD T.fr_min (ga_cons (ge_var 2) (ga_nil))))) (gss_cons (gs_if (gt_cmp (Gh.op_eqS hu) og_eqS (ge_var 7) (ge_lst (ga_nil))) (gss_one (gs_expr (ge_append (ge_var 4) (ga_cons (ge_tup (ga_cons (ge_str) (ga_cons (ge_var 1) (ga_cons (ge_var 5) (ga_nil))))) (ga_nil))))) (gss_nil)) (gss_one (gs_set (i := 2) nd_sequence (ge_fnS C_redirected hr (by decide) (ga_cons (ge_var 2) (ga_cons (ge_var 5) (ga_cons (ge_get2 hu (ge_var 3) (ge_var 5) (ge_var 1)) (ga_nil)))))))))) (gss_nil)) (gss_cons (gs_set (i := 6) nd_sequence (ge_popD (ge_var 2) (ge_var 5))) (gss_cons (gs_expr (ge_append (ge_var 4) (ga_cons (ge_fnP C_row_of hr (by decide) (ga_cons (ge_var 5) (ga_cons (ge_var 6) (ga_nil)))) (ga_nil)))) (gss_one (gs_asg (own := []) (ge_var 5) (gg_sub (Gh.set_D hu) sg_D (ge_var 3) (ge_var 6))))))))) (gss_one (gs_ret (ge_var 4))))))))
abbrev s__law_rows_right : Stmt := top 24
def N__law_rows_right : List Str := ["_law_source", "_law_writes_here", "_law_spare", "_law_rows", "_law_k", "_law_before", "_law_later", "_law_row", "_law_due_here", "_law_mark", "_law_what"]
theorem nd__law_rows_right : N__law_rows_right.Nodup := by decide +kernel
def le0__law_rows_right : GE := gTup (gConsA (gVar 9) (gConsA (gBin (fEqS false) (gFnS 2 f__law_next (gConsA (gVar 0) (gConsA (gC (.int 2)) (gNilA)))) (gC (.int 1))) (gNilA)))
def fb0__law_rows_right : GS := gIf (gAnd (gTst (gBin (fEqS false) (gBin fIxD (gVar 7) (gC (.int 0))) (gC (.str "copy")))) (gTst (gBin (fEqS false) (gCall fLenD (gConsA (gVar 7) (gNilA))) (gC (.int 3))))) (gAsg (gBin fIxD (gVar 6) (gBin fIxD (gVar 7) (gC (.int 2)))) (gSb (gVar 6) (gBin fIxD (gVar 7) (gC (.int 1))) fSetD)) (gIf (gAnd (gTst (gBin (fInD false) (gBin fIxD (gVar 7) (gC (.int 0))) (gTup (gConsA (gC (.str "on")) (gConsA (gC (.str "off")) (gNilA)))))) (gTst (gBin (fEqS false) (gCall fLenD (gConsA (gVar 7) (gNilA))) (gC (.int 2))))) (gAsg (gBin (fEqS false) (gBin fIxD (gVar 7) (gC (.int 0))) (gC (.str "on"))) (gSb (gVar 6) (gBin fIxD (gVar 7) (gC (.int 1))) fSetD)) (gRet (gC (.bl false))))
def fb1__law_rows_right : GS := gAsg (gIfE (gTst (gIsc k_str (gVar 10))) (gBin (fEqS false) (gVar 10) (gC (.str "on"))) (gBin fIxD (gVar 5) (gVar 10))) (gSb (gVar 8) (gVar 9) fSetD)
def lt0__law_rows_right : GT := gAnd (gTst (gBin (fEqS true) (gVar 9) (gVar 2))) (gTst (gBin (fEqS true) (gBin fIxD (gVar 6) (gVar 9)) (gBin fIxD (gVar 8) (gVar 9))))
def le1__law_rows_right : GE := gVar 9
def fb2__law_rows_right : GS := gSeq (gAsg (gDictC false (fun ρ G => (gLcW (gRng1 (gConsA (gC (.int 40)) (gNilA))) [9] (gNm 9) (gYes) (le0__law_rows_right) ρ G).bind finT)) (gNm 5)) (gSeq (gAsg (gDictC true (gVar 5)) (gNm 6)) (gSeq (gFor (gSeqI (gVar 3)) (gNm 7) (fb0__law_rows_right)) (gSeq (gAsg (gDictC true (gVar 5)) (gNm 8)) (gSeq (gFor (gSeqI (gVar 1)) (gTp [gNm 9, gNm 10]) (fb1__law_rows_right)) (gLock 8 (gIf (gTst (gBin (fEqS true) (fun ρ G => (gLcW (gDicI .keys (gVar 8)) [9] (gNm 9) (lt0__law_rows_right) (le1__law_rows_right) ρ G).bind finT) (gLst (gNilA)))) (gRet (gC (.bl false))) (gNil)))))))
def g__law_rows_right : GS := gSeq (gFor (gRng1 (gConsA (gC (.int 4)) (gNilA))) (gNm 4) (fb2__law_rows_right)) (gRet (gC (.bl true)))
def f__law_rows_right : List W → Hg → Res W := runS 11 g__law_rows_right
theorem sc__law_rows_right : FnScope N__law_rows_right ["_law_source", "_law_writes_here", "_law_spare", "_law_rows"] (defScope s__law_rows_right) := ⟨rfl, rfl, rfl, nd__law_rows_right, rfl, by decide +kernel, by decide +kernel⟩
theorem b__law_rows_right {f : Addr} (T : Txt K mg) (C__law_next : CalX P w K mg base 1 "_law_next" (spS ⟨K, mg, w⟩ 2 f__law_next)) : Body P w K mg base N__law_rows_right "_law_rows_right" s__law_rows_right 1 f g__law_rows_right := fun cdv A outer s H E hr => by
  have hu := room65 hr
  have hgd := hr.g
  exact gss_cons (gs_for (own := [4]) (passes_of rfl) rfl (gi_range1 T.fr_range (ga_cons (ge_int) (ga_nil))) (gg_name 4 nd__law_rows_right) (gss_cons (gs_set (i := 5) nd__law_rows_right (ge_dictC false T.fr_dict (by rfl) (ge_lc (⟨rfl, nd__law_rows_right, gi_range1 T.fr_range (ga_cons (ge_int) (ga_nil)), blkOk_by (own := [("_law_mark", 9)]) (by rfl), fun _ _ _ _ _ => gg_name 9 nd__law_rows_right, fun _ _ _ _ _ => gts_nil, fun _ _ _ _ _ => ge_tup (ga_cons (ge_var 9) (ga_cons (ge_cmp (Gh.op_eqS hu) og_eqS (ge_fnS C__law_next hr (by decide) (ga_cons (ge_var 0) (ga_cons (ge_int) (ga_nil)))) (ge_int)) (ga_nil)))⟩ : LcParts _ _ _ _ _ _ _ _ _ _ _) finT_ok))) (gss_cons (gs_set (i := 6) nd__law_rows_right (ge_dictC true T.fr_dict (by rfl) (ge_var 5))) (gss_cons (gs_for (own := [7]) (passes_of rfl) rfl (gi_seq (ge_var 3)) (gg_name 7 nd__law_rows_right) (gss_one (gs_if (GJW.pt (gw_and (gt_cmp (Gh.op_eqS hu) og_eqS (ge_ix (Gh.ix_D hu) og_ixD (ge_var 7) (ge_int)) (ge_str)) (gw_and1 (gt_cmp (Gh.op_eqS hu) og_eqS (ge_callB Gh.call_lenD cg_lenD T.fr_len (ga_cons (ge_var 7) (ga_nil))) (ge_int))))) (gss_one (gs_asg (own := []) (ge_ix (Gh.ix_D hu) og_ixD (ge_var 6) (ge_ix (Gh.ix_D hu) og_ixD (ge_var 7) (ge_int))) (gg_sub (Gh.set_D hu) sg_D (ge_var 6) (ge_ix (Gh.ix_D hu) og_ixD (ge_var 7) (ge_int))))) (gss_one (gs_if (GJW.pt (gw_and (gt_cmp (Gh.op_inD hu) og_inD (ge_ix (Gh.ix_D hu) og_ixD (ge_var 7) (ge_int)) (ge_tup (ga_cons (ge_str) (ga_cons (ge_str) (ga_nil))))) (gw_and1 (gt_cmp (Gh.op_eqS hu) og_eqS (ge_callB Gh.call_lenD cg_lenD T.fr_len (ga_cons (ge_var 7) (ga_nil))) (ge_int))))) (gss_one (gs_asg (own := []) (ge_cmp (Gh.op_eqS hu) og_eqS (ge_ix (Gh.ix_D hu) og_ixD (ge_var 7) (ge_int)) (ge_str)) (gg_sub (Gh.set_D hu) sg_D (ge_var 6) (ge_ix (Gh.ix_D hu) og_ixD (ge_var 7) (ge_int))))) (gss_one (gs_ret (ge_bl)))))))) (gss_cons (gs_set (i := 8) nd__law_rows_right (ge_dictC true T.fr_dict (by rfl) (ge_var 5))) (gss_cons (gs_for (own := [9, 10]) (passes_of rfl) rfl (gi_seq (ge_var 1)) (gg_tup rfl (ggs_cons (gg_name 9 nd__law_rows_right) (ggs_cons (gg_name 10 nd__law_rows_right) (ggs_nil)))) (gss_one (gs_asg (own := []) (ge_if (gt_val (ge_isc T.fr_isinstance (ge_var 10) (.ty "str" (by decide +kernel) T.fr_str (by rfl) (by decide) (by decide) (by rfl) (.nil)) T.kt_str)) (ge_cmp (Gh.op_eqS hu) og_eqS (ge_var 10) (ge_str)) (ge_ix (Gh.ix_D hu) og_ixD (ge_var 5) (ge_var 10))) (gg_sub (Gh.set_D hu) sg_D (ge_var 8) (ge_var 9))))) (gss_one (gs_lock 8 (gs_if (gt_cmp (Gh.op_neS hu) og_neS (ge_lc (⟨rfl, nd__law_rows_right, gi_keys (ge_var 8), blkOk_by (own := [("_law_mark", 9)]) (by rfl), fun _ _ _ _ _ => gg_name 9 nd__law_rows_right, fun _ _ _ _ _ => gts_one (GJW.pt (gw_and (gt_cmp (Gh.op_neS hu) og_neS (ge_var 9) (ge_var 2)) (gw_and1 (gt_cmp (Gh.op_neS hu) og_neS (ge_ix (Gh.ix_D hu) og_ixD (ge_var 6) (ge_var 9)) (ge_ix (Gh.ix_D hu) og_ixD (ge_var 8) (ge_var 9)))))), fun _ _ _ _ _ => ge_var 9⟩ : LcParts _ _ _ _ _ _ _ _ _ _ _) finT_ok) (ge_lst (ga_nil))) (gss_one (gs_ret (ge_bl))) (gss_nil)))))))))) (gss_one (gs_ret (ge_bl)))
abbrev s__law_due : Stmt := top 23
def N__law_due : List Str := ["_law_writes_here", "_law_met", "_law_mark", "_law_sources", "_law_many", "_law_ring", "_law_here", "_law_away", "_law_what", "_law_one_here"]
theorem nd__law_due : N__law_due.Nodup := by decide +kernel
def lt0__law_due : GT := gTst (gBin (fEqS true) (gVar 2) (gVar 8))
def le0__law_due : GE := gC (.int 1)
def wc0__law_due : GT := gAnd (gTst (gBin (fInD false) (gVar 6) (gVar 3))) (gAnd (gTst (gBin (fInD true) (gVar 6) (gVar 5))) (gTst (gBin (fInD true) (gVar 6) (gVar 1))))
def wb0__law_due : GS := gSeq (gExpr (gMt .lst fAppend (gVar 5) (gConsA (gVar 6) (gNilA)))) (gAsg (gBin fIxD (gVar 3) (gVar 6)) (gNm 6))
def lt1__law_due : GT := gAnd (gTst (gBin (fInD false) (gVar 8) (gVar 5))) (gTst (gBin (fInD true) (gVar 9) (gVar 5)))
def le1__law_due : GE := gVar 9
def le2__law_due : GE := gTup (gConsA (gVar 9) (gConsA (gC (.bl true)) (gNilA)))
def le3__law_due : GE := gTup (gConsA (gVar 9) (gConsA (gC (.bl true)) (gNilA)))
def fb0__law_due : GS := gSeq (gAsg (gTup (gConsA (gNew (gNilA)) (gConsA (gVar 2) (gNilA)))) (gTp [gNm 5, gNm 6])) (gSeq (whileN (wc0__law_due) (wb0__law_due) 1000000) (gSeq (gIf (gTst (gBin (fInD false) (gVar 6) (gVar 5))) (gSeq (gAsg (gSlice (gVar 5) (gPt (gMt .lst fIndexI (gVar 5) (gConsA (gVar 6) (gNilA)))) (gNoP)) (gNm 5)) (gSeq (gAsg (fun ρ G => (gLcW (gSeqI (gVar 0)) [9, 8] (gTp [gNm 9, gNm 8]) (lt1__law_due) (le1__law_due) ρ G).bind finT) (gNm 7)) (gAsg (gBin fAdd (gVar 4) (gCall fInt (gConsA (gAndV (gBin (fI (iCmp fun i j => decide (j < i))) (gCall fLenD (gConsA (gVar 5) (gNilA))) (gC (.int 1))) (gBin (fEqS false) (gVar 7) (gLst (gNilA)))) (gNilA)))) (gNm 4)))) (gNil)) (gExpr (gUpdD (gVar 1) (gDictC false (fun ρ G => (gLcW (gSeqI (gVar 5)) [9] (gNm 9) (gYes) (le3__law_due) ρ G).bind finT))))))
def g__law_due : GS := gSeq (gPar2 3 4 (gConsA (gDictC false (gVar 0)) (gConsA (gCall fLenD (gConsA (fun ρ G => (gLcW (gSeqI (gVar 0)) [2, 8] (gTp [gNm 2, gNm 8]) (lt0__law_due) (le0__law_due) ρ G).bind finT) (gNilA))) (gNilA)))) (gSeq (gAsg (gDicN) (gNm 1)) (gSeq (gLock 3 (gFor (gDicI .keys (gVar 3)) (gNm 2) (fb0__law_due))) (gRet (gVar 4))))
def f__law_due : List D → PRes := runP 10 g__law_due
theorem sc__law_due : FnScope N__law_due ["_law_writes_here"] (defScope s__law_due) := ⟨rfl, rfl, rfl, nd__law_due, rfl, by decide +kernel, by decide +kernel⟩
theorem b__law_due {f : Addr} (T : Txt K mg)  : Body P w K mg base N__law_due "_law_due" s__law_due 0 f g__law_due := fun cdv A outer s H E hr => by
  have hu := room65 hr
  have hgd := hr.g
  exact gss_cons (gs_par2 (i := 3) (j := 4) nd__law_due (ga_cons (ge_dictC false T.fr_dict (by rfl) (ge_var 0)) (ga_cons (ge_callB Gh.call_lenD cg_lenD T.fr_len (ga_cons (ge_lc (⟨rfl, nd__law_due, gi_seq (ge_var 0), blkOk_by (own := [("_law_mark", 2), ("_law_what", 8)]) (by rfl), fun _ _ _ _ _ => gg_tup rfl (ggs_cons (gg_name 2 nd__law_due) (ggs_cons (gg_name 8 nd__law_due) (ggs_nil))), fun _ _ _ _ _ => gts_one (gt_cmp (Gh.op_neS hu) og_neS (ge_var 2) (ge_var 8)), fun _ _ _ _ _ => ge_int⟩ : LcParts _ _ _ _ _ _ _ _ _ _ _) finT_ok) (ga_nil))) (ga_nil)))) (gss_cons (gs_set (i := 1) nd__law_due (ge_dicN)) (gss_cons (gs_lock 3 (gs_for (own := [2]) (passes_of rfl) rfl (gi_keys (ge_var 3)) (gg_name 2 nd__law_due) (gss_cons (gs_asg (own := [5, 6]) (ge_tup (ga_cons (ge_new (ga_nil)) (ga_cons (ge_var 2) (ga_nil)))) (gg_tup rfl (ggs_cons (gg_name 5 nd__law_due) (ggs_cons (gg_name 6 nd__law_due) (ggs_nil))))) (gss_cons (gs_while 1000000 (passes_of rfl) (GJW.pt (gw_and (gt_cmp (Gh.op_inD hu) og_inD (ge_var 6) (ge_var 3)) (gw_and (gt_cmp (Gh.op_notInD hu) og_inD (ge_var 6) (ge_var 5)) (gw_and1 (gt_cmp (Gh.op_notInD hu) og_inD (ge_var 6) (ge_var 1)))))) (gss_cons (gs_expr (ge_append (ge_var 5) (ga_cons (ge_var 6) (ga_nil)))) (gss_one (gs_set (i := 6) nd__law_due (ge_ix (Gh.ix_D hu) og_ixD (ge_var 3) (ge_var 6)))))) (gss_cons (gs_if (gt_cmp (Gh.op_inD hu) og_inD (ge_var 6) (ge_var 5)) (gss_cons (gs_set (i := 5) nd__law_due (ge_slice (ge_var 5) (gp_some (ge_indexI (ge_var 5) (ga_cons (ge_var 6) (ga_nil)))) (gp_none))) (gss_cons (gs_setLc (i := 7) (⟨rfl, nd__law_due, gi_seq (ge_var 0), blkOk_by (own := [("_law_one_here", 9), ("_law_what", 8)]) (by rfl), fun _ _ _ _ _ => gg_tup rfl (ggs_cons (gg_name 9 nd__law_due) (ggs_cons (gg_name 8 nd__law_due) (ggs_nil))), fun _ _ _ _ _ => gts_one (GJW.pt (gw_and (gt_cmp (Gh.op_inD hu) og_inD (ge_var 8) (ge_var 5)) (gw_and1 (gt_cmp (Gh.op_notInD hu) og_inD (ge_var 9) (ge_var 5))))), fun _ _ _ _ _ => ge_var 9⟩ : LcParts _ _ _ _ _ _ _ _ _ _ _) finT_ok) (gss_one (gs_set (i := 4) nd__law_due (ge_op op_addA og_add (ge_var 4) (ge_callTy call_int1 cg_int T.fr_int (ga_cons (ge_and (ge_cmp op_gt og_gt (ge_callB Gh.call_lenD cg_lenD T.fr_len (ga_cons (ge_var 5) (ga_nil))) (ge_int)) (ge_one (ge_cmp (Gh.op_eqS hu) og_eqS (ge_var 7) (ge_lst (ga_nil))))) (ga_nil)))))))) (gss_nil)) (gss_one (gs_expr (ge_updD (ge_var 1) (ge_dictC false T.fr_dict (by rfl) (ge_lc (⟨rfl, nd__law_due, gi_seq (ge_var 5), blkOk_by (own := [("_law_one_here", 9)]) (by rfl), fun _ _ _ _ _ => gg_name 9 nd__law_due, fun _ _ _ _ _ => gts_nil, fun _ _ _ _ _ => ge_tup (ga_cons (ge_var 9) (ga_cons (ge_bl) (ga_nil)))⟩ : LcParts _ _ _ _ _ _ _ _ _ _ _) finT_ok)))))))))) (gss_one (gs_ret (ge_var 4)))))
abbrev s_law : Stmt := top 25
def N_law : List Str := ["_law_script", "_law_cell", "_law_source", "_law_k", "_law_marks", "_law_writes_here", "_law_spare", "_law_rows", "_law_again", "_law_mark"]
theorem nd_law : N_law.Nodup := by decide +kernel
def lt0_law : GT := gTst (gBin (fInD true) (gVar 9) (gVar 4))
def le0_law : GE := gVar 9
def fb0_law : GS := gSeq (gAsg (gSlice (gFnS 2 f__law_mixed (gConsA (gVar 2) (gConsA (gListRg1 false (gC (.int 30))) (gNilA)))) (gNoP) (gPt (gBin fAdd (gC (.int 1)) (gFnS 2 f__law_next (gConsA (gVar 2) (gConsA (gC (.int 14)) (gNilA))))))) (gNm 4)) (gSeq (gAsg (gFnS 2 f__law_writes (gConsA (gVar 2) (gConsA (gVar 4) (gNilA)))) (gNm 5)) (gSeq (gAsg (gBin fIxD (fun ρ G => (gLcW (gSeqI (gFnS 2 f__law_mixed (gConsA (gVar 2) (gConsA (gListRg1 false (gC (.int 40))) (gNilA))))) [9] (gNm 9) (lt0_law) (le0_law) ρ G).bind finT) (gC (.int 0))) (gNm 6)) (gSeq (gAsg (gFnP 2 f_sequence (gConsA (gCall fTuple (gConsA (gVar 5) (gNilA))) (gConsA (gVar 6) (gNilA)))) (gNm 7)) (gSeq (gIf (gOr (gNot (gTst (gFnS 4 f__law_rows_right (gConsA (gVar 2) (gConsA (gVar 5) (gConsA (gVar 6) (gConsA (gVar 7) (gNilA)))))))) (gTst (gBin (fEqS true) (gCall fLenD (gConsA (gVar 7) (gNilA))) (gFnP 1 f__law_due (gConsA (gVar 5) (gNilA)))))) (gRet (gC (.bl false))) (gNil)) (gSeq (gAsg (gFnP 2 f_sequence (gConsA (gFrz (gFnS 2 f__law_mixed (gConsA (gVar 2) (gConsA (gVar 5) (gNilA))))) (gConsA (gVar 6) (gNilA)))) (gNm 8)) (gIf (gOr (gTst (gBin (fEqS true) (gCall fLenD (gConsA (gVar 8) (gNilA))) (gCall fLenD (gConsA (gVar 7) (gNilA))))) (gNot (gTst (gFnS 4 f__law_rows_right (gConsA (gVar 2) (gConsA (gVar 5) (gConsA (gVar 6) (gConsA (gVar 8) (gNilA))))))))) (gRet (gC (.bl false))) (gNil)))))))
def fb1_law : GS := gSeq (gAsg (gFnS 1 f__law_source_of (gConsA (gVar 1) (gNilA))) (gNm 2)) (gFor (gRng1 (gConsA (gC (.int 5)) (gNilA))) (gNm 3) (fb0_law))
def g_law : GS := gSeq (gFor (gSeqI (gBin fAdd (gLst (gConsA (gFnP 2 f__law_cell_at (gConsA (gVar 0) (gConsA (gC (.int 0)) (gNilA)))) (gNilA))) (gSlice (gVar 0) (gPt (gC (.int 1))) (gPt (gC (.int 4)))))) (gNm 1) (fb1_law)) (gRet (gC (.bl true)))
def f_law : List D → PRes := runP 10 g_law
theorem sc_law : FnScope N_law ["_law_script"] (defScope s_law) := ⟨rfl, rfl, rfl, nd_law, rfl, by decide +kernel, by decide +kernel⟩
theorem b_law {f : Addr} (T : Txt K mg) (C__law_cell_at : CalX P w K mg base 1 "_law_cell_at" (spP ⟨K, mg, w⟩ 2 f__law_cell_at)) (C__law_due : CalX P w K mg base 1 "_law_due" (spP ⟨K, mg, w⟩ 1 f__law_due)) (C__law_mixed : CalX P w K mg base 2 "_law_mixed" (spS ⟨K, mg, w⟩ 2 f__law_mixed)) (C__law_next : CalX P w K mg base 1 "_law_next" (spS ⟨K, mg, w⟩ 2 f__law_next)) (C__law_rows_right : CalX P w K mg base 2 "_law_rows_right" (spS ⟨K, mg, w⟩ 4 f__law_rows_right)) (C__law_source_of : CalX P w K mg base 1 "_law_source_of" (spS ⟨K, mg, w⟩ 1 f__law_source_of)) (C__law_writes : CalX P w K mg base 3 "_law_writes" (spS ⟨K, mg, w⟩ 2 f__law_writes)) (C_sequence : CalX P w K mg base 5 "sequence" (spP ⟨K, mg, w⟩ 2 f_sequence)) : Body P w K mg base N_law "law" s_law 5 f g_law := fun cdv A outer s H E hr => by
  have hu := room65 hr
  have hgd := hr.g
  exact gss_cons (gs_for (own := [1]) (passes_of rfl) rfl (gi_seq (ge_op op_addA og_add (ge_lst (ga_cons (ge_fnP C__law_cell_at hr (by decide) (ga_cons (ge_var 0) (ga_cons (ge_int) (ga_nil)))) (ga_nil))) (ge_slice (ge_var 0) (gp_some (ge_int)) (gp_some (ge_int))))) (gg_name 1 nd_law) (gss_cons (gs_set (i := 2) nd_law (ge_fnS C__law_source_of hr (by decide) (ga_cons (ge_var 1) (ga_nil)))) (gss_one (gs_for (own := [3]) (passes_of rfl) rfl (gi_range1 T.fr_range (ga_cons (ge_int) (ga_nil))) (gg_name 3 nd_law) (gss_cons (gs_set (i := 4) nd_law (ge_slice (ge_fnS C__law_mixed hr (by decide) (ga_cons (ge_var 2) (ga_cons (ge_listRg1 false T.fr_list T.fr_range (by rfl) (ge_int)) (ga_nil)))) (gp_none) (gp_some (ge_op op_addA og_add (ge_int) (ge_fnS C__law_next hr (by decide) (ga_cons (ge_var 2) (ga_cons (ge_int) (ga_nil)))))))) (gss_cons (gs_set (i := 5) nd_law (ge_fnS C__law_writes hr (by decide) (ga_cons (ge_var 2) (ga_cons (ge_var 4) (ga_nil))))) (gss_cons (gs_set (i := 6) nd_law (ge_ix (Gh.ix_D hu) og_ixD (ge_lc (⟨rfl, nd_law, gi_seq (ge_fnS C__law_mixed hr (by decide) (ga_cons (ge_var 2) (ga_cons (ge_listRg1 false T.fr_list T.fr_range (by rfl) (ge_int)) (ga_nil)))), blkOk_by (own := [("_law_mark", 9)]) (by rfl), fun _ _ _ _ _ => gg_name 9 nd_law, fun _ _ _ _ _ => gts_one (gt_cmp (Gh.op_notInD hu) og_inD (ge_var 9) (ge_var 4)), fun _ _ _ _ _ => ge_var 9⟩ : LcParts _ _ _ _ _ _ _ _ _ _ _) finT_ok) (ge_int))) (gss_cons (gs_set (i := 7) nd_law (ge_fnP C_sequence hr (by decide) (ga_cons (ge_callTy call_tuple_of cg_tuple T.fr_tuple (ga_cons (ge_var 5) (ga_nil))) (ga_cons (ge_var 6) (ga_nil))))) (gss_cons (gs_if (GJW.pt (gw_or (gt_not (gt_val (ge_fnS C__law_rows_right hr (by decide) (ga_cons (ge_var 2) (ga_cons (ge_var 5) (ga_cons (ge_var 6) (ga_cons (ge_var 7) (ga_nil)))))))) (gw_or1 (gt_cmp (Gh.op_neS hu) og_neS (ge_callB Gh.call_lenD cg_lenD T.fr_len (ga_cons (ge_var 7) (ga_nil))) (ge_fnP C__law_due hr (by decide) (ga_cons (ge_var 5) (ga_nil))))))) (gss_one (gs_ret (ge_bl))) (gss_nil)) (gss_cons (gs_set (i := 8) nd_law (ge_fnP C_sequence hr (by decide) (ga_cons (ge_frz (ge_fnS C__law_mixed hr (by decide) (ga_cons (ge_var 2) (ga_cons (ge_var 5) (ga_nil))))) (ga_cons (ge_var 6) (ga_nil))))) (gss_one (gs_if (GJW.pt (gw_or (gt_cmp (Gh.op_neS hu) og_neS (ge_callB Gh.call_lenD cg_lenD T.fr_len (ga_cons (ge_var 8) (ga_nil))) (ge_callB Gh.call_lenD cg_lenD T.fr_len (ga_cons (ge_var 7) (ga_nil)))) (gw_or1 (gt_not (gt_val (ge_fnS C__law_rows_right hr (by decide) (ga_cons (ge_var 2) (ga_cons (ge_var 5) (ga_cons (ge_var 6) (ga_cons (ge_var 8) (ga_nil))))))))))) (gss_one (gs_ret (ge_bl))) (gss_nil))))))))))))) (gss_one (gs_ret (ge_bl)))
end
end K94

set_option Elab.async false
set_option linter.all false
set_option maxRecDepth 100000
set_option maxHeartbeats 8000000
namespace K94
open PySem PySem.Spec PyProof.Rows L2 Gh
open Sq (S Wr keys vals wD sD sK tS rowsA repL chg Pos Reach InCyc Iso Reps Pth Cyc Row rowD Go)
theorem seq_eq : f_sequence = Sq.f_sequence := rfl
/-! ### walks over the writes -/
variable {ws : Wr Bool}
theorem chg_iff {x : Int} {s : S Bool} : (x, s) ∈ chg ws ↔ (x, s) ∈ ws ∧ s ≠ .inl x := by
  unfold chg
  rw [List.mem_filter]
  simp
/-- from a mark, along the sources, while they are marks that were not met -/
inductive Wk (ws : Wr Bool) (Mt : Int → Prop) (m : Int) : List Int → S Bool → Prop
  | nil : Wk ws Mt m [] (.inl m)
  | snoc {p : List Int} {a : Int} {t : S Bool} : Wk ws Mt m p (.inl a) → (a, t) ∈ ws → a ∉ p → ¬ Mt a → Wk ws Mt m (p ++ [a]) t
variable {Mt : Int → Prop} {m : Int}
theorem Wk.mem {p : List Int} {t : S Bool} (h : Wk ws Mt m p t) : p.Nodup ∧ ∀ a ∈ p, a ∈ keys ws ∧ ¬ Mt a := by
  induction h with
  | nil => exact ⟨by simp, fun a h => by cases h⟩
  | @snoc p a t _ h1 h2 h3 ih =>
    refine ⟨?_, fun b hb => ?_⟩
    · rw [List.nodup_append]
      exact ⟨ih.1, by simp, fun x hx y hy e => h2 (by rw [show y = a by simpa using hy] at e; rw [← e]; exact hx)⟩
    · rcases List.mem_append.mp hb with z | z
      · exact ih.2 b z
      · rw [show b = a by simpa using z]; exact ⟨Sq.key_of h1, h3⟩
theorem Wk.head {p : List Int} {t : S Bool} (h : Wk ws Mt m p t) : (p = [] ∧ t = .inl m) ∨ ∃ q, p = m :: q := by
  induction h with
  | nil => exact .inl ⟨rfl, rfl⟩
  | @snoc p a t _ h1 h2 h3 ih =>
    rcases ih with ⟨e1, e2⟩ | ⟨q, e⟩
    · injection e2 with e2
      exact .inr ⟨[], by rw [e1, e2]; rfl⟩
    · exact .inr ⟨q ++ [a], by rw [e]; rfl⟩
theorem Wk.seg {p : List Int} {t : S Bool} (h : Wk ws Mt m p t) : ∀ p1 x p2, p = p1 ++ x :: p2 → (∀ a ∈ x :: p2, Reach (chg ws) x a) ∧ (∃ l ∈ x :: p2, (l, t) ∈ ws ∧ (p2 ≠ [] → l ≠ x)) ∧ ∀ a ∈ x :: p2, ∃ s, (a, s) ∈ ws ∧ (s = t ∨ ∃ y ∈ x :: p2, s = .inl y) := by
  induction h with
  | nil => intro p1 x p2 e; simp at e
  | @snoc p a t _ h1 h2 h3 ih =>
    intro p1 x p2 e
    rcases List.eq_nil_or_concat p2 with rfl | ⟨p3, b, rfl⟩
    · obtain ⟨e1, e2⟩ := List.append_inj' e rfl
      have e2 : a = x := by simpa using e2
      subst e2
      refine ⟨fun b hb => ?_, ⟨a, by simp, h1, fun z => absurd rfl z⟩, fun b hb => ?_⟩
      · rw [show b = a by simpa using hb]; exact .refl
      · rw [show b = a by simpa using hb]; exact ⟨t, h1, .inl rfl⟩
    · rw [List.concat_eq_append] at e ⊢
      have e' : p ++ [a] = (p1 ++ x :: p3) ++ [b] := by rw [e]; simp
      obtain ⟨e1, e2⟩ := List.append_inj' e' rfl
      have e2 : a = b := by simpa using e2
      subst e2
      obtain ⟨i1, ⟨l, i2, i3, _⟩, i4⟩ := ih p1 x p3 e1
      have ne : ∀ y ∈ x :: p3, y ≠ a := fun y hy z => h2 (by rw [e1, ← z]; exact List.mem_append_right _ hy)
      have ra : Reach (chg ws) x a := (i1 l i2).step (chg_iff.mpr ⟨i3, fun z => ne l i2 (by injection z with z; exact z.symm)⟩)
      have cs : ∀ b, b ∈ x :: (p3 ++ [a]) → b ∈ x :: p3 ∨ b = a := fun b hb => by
        rcases List.mem_cons.mp hb with z | z
        · exact .inl (by rw [z]; simp)
        · rcases List.mem_append.mp z with z | z
          · exact .inl (List.mem_cons_of_mem _ z)
          · exact .inr (by simpa using z)
      refine ⟨fun b hb => ?_, ⟨a, by simp, h1, fun _ => fun z => ne x (by simp) z.symm⟩, fun b hb => ?_⟩
      · rcases cs b hb with z | z
        · exact i1 b z
        · rw [z]; exact ra
      · rcases cs b hb with z | z
        · obtain ⟨s, j1, j2⟩ := i4 b z
          refine ⟨s, j1, .inr ?_⟩
          rcases j2 with j2 | ⟨y, j2, j3⟩
          · exact ⟨a, by simp, j2⟩
          · exact ⟨y, by
              rcases List.mem_cons.mp j2 with q | q
              · rw [q]; simp
              · exact List.mem_cons_of_mem _ (List.mem_append_left _ q), j3⟩
        · rw [z]; exact ⟨t, h1, .inl rfl⟩
theorem cyc_out {O : Wr Bool} (nd : (keys O).Nodup) {a c : Int} (cy : InCyc O a) (r : Reach O a c) : ∃ b, (c, .inl b) ∈ O := by
  rcases (r.back nd cy).head with e | ⟨b, h, _⟩
  · subst e
    obtain ⟨x, hx, ex⟩ := cy
    rcases hx.head with e | ⟨b, h, _⟩
    · subst e; exact ⟨_, ex⟩
    · exact ⟨_, h⟩
  · exact ⟨b, h⟩
/-- what is known of the met marks, the counted rings and the visited marks -/
structure Cl (ws : Wr Bool) (Mt : Int → Prop) (R Vs : List Int) : Prop where
  cl : ∀ x y, Mt x → (x, .inl y) ∈ ws → y ∈ keys ws → Mt y
  rm : ∀ r ∈ R, Mt r
  nd : R.Nodup
  iso : ∀ r ∈ R, Iso (chg ws) r
  one : ∀ r ∈ R, ∀ q ∈ R, Reach (chg ws) r q → r = q
  all : ∀ x, Mt x → Iso (chg ws) x → ∃ r ∈ R, Reach (chg ws) r x
  vis : ∀ x ∈ Vs, InCyc (chg ws) x → Mt x
theorem Cl.start : Cl ws (fun _ => False) [] [] :=
  ⟨fun _ _ h => h.elim, fun _ h => (by cases h), by simp, fun _ h => (by cases h), fun _ h => (by cases h), fun _ h => h.elim, fun _ h => (by cases h)⟩
variable {R Vs : List Int}
theorem Cl.fwd (nd : (keys ws).Nodup) (h : Cl ws Mt R Vs) {q x : Int} (hq : Mt q) (r : Reach (chg ws) q x) : x ∈ keys ws → Mt x := by
  induction r with
  | refl => exact fun _ => hq
  | @step a b _ e ih =>
    have e' := (chg_iff.mp e).1
    exact fun hb => h.cl a b (ih (Sq.key_of e')) e' hb
theorem Cl.fin (nd : (keys ws).Nodup) (h : Cl ws Mt R (keys ws)) : Reps (chg ws) R := by
  refine ⟨h.nd, h.iso, fun m im => ?_, h.one⟩
  obtain ⟨b, hb⟩ := cyc_out (Sq.chg_nd nd) im.1 .refl
  exact h.all m (h.vis m (Sq.key_of (chg_iff.mp hb).1) im.1) im
theorem Cl.perm {Vs' : List Int} (h : Cl ws Mt R Vs) (e : ∀ x ∈ Vs', x ∈ Vs) : Cl ws Mt R Vs' := ⟨h.cl, h.rm, h.nd, h.iso, h.one, h.all, fun x hx => h.vis x (e x hx)⟩
theorem Cl.ext {Mt' : Int → Prop} (h : Cl ws Mt R Vs) (e : ∀ x, Mt' x ↔ Mt x) : Cl ws Mt' R Vs := by
  have : Mt' = Mt := funext fun x => propext (e x)
  rw [this]; exact h
/-- a walk that leaves, or that comes to a met mark -/
theorem Cl.out (nd : (keys ws).Nodup) (h : Cl ws Mt R Vs) {p : List Int} {t : S Bool} (hm : m ∈ keys ws) (w : Wk ws Mt m p t) (ht : ∀ y, t = .inl y → y ∈ keys ws → Mt y) : Cl ws (fun x => Mt x ∨ x ∈ p) R (m :: Vs) := by
  have ndO := Sq.chg_nd nd
  refine ⟨fun x y hx e hy => ?_, fun r hr => .inl (h.rm r hr), h.nd, h.iso, h.one, fun x hx ix => ?_, fun x hx cx => ?_⟩
  · rcases hx with hx | hx
    · exact .inl (h.cl x y hx e hy)
    · obtain ⟨q, rfl⟩ : ∃ q, p = q := ⟨p, rfl⟩
      cases p with
      | nil => cases hx
      | cons a r =>
        obtain ⟨s, h1, h2⟩ := (w.seg [] a r rfl).2.2 x hx
        have := Sq.uniq nd h1 e
        rcases h2 with h2 | ⟨z, h2, h3⟩
        · exact .inl (ht y (by rw [← h2, this]) hy)
        · rw [this] at h3
          injection h3 with h3
          exact .inr (by rw [h3]; exact h2)
  · rcases hx with hx | hx
    · exact h.all x hx ix
    · exfalso
      obtain ⟨p1, p2, rfl⟩ := List.append_of_mem hx
      obtain ⟨i1, ⟨l, i2, i3, _⟩, _⟩ := w.seg p1 x p2 rfl
      have rl := i1 l i2
      obtain ⟨c, hc⟩ := cyc_out ndO ix.1 rl
      have ec := Sq.uniq nd (chg_iff.mp hc).1 i3
      have rc := rl.step hc
      obtain ⟨b, hb⟩ := cyc_out ndO ix.1 rc
      have mc := ht c ec.symm (Sq.key_of (chg_iff.mp hb).1)
      have xk := w.mem.2 x hx
      exact xk.2 (h.fwd nd mc (rc.back ndO ix.1) xk.1)
  · rcases List.mem_cons.mp hx with e | e
    · rcases w.head with ⟨_, e2⟩ | ⟨q, e2⟩
      · exact .inl (by rw [e]; exact ht m e2 hm)
      · exact .inr (by rw [e, e2]; simp)
    · exact .inl (h.vis x e cx)
/-- a walk that comes to itself -/
theorem Cl.inn (nd : (keys ws).Nodup) (h : Cl ws Mt R Vs) {p1 p2 : List Int} {x : Int} (w : Wk ws Mt m (p1 ++ x :: p2) (.inl x)) {b : Bool} (hb : b = true ↔ p2 ≠ [] ∧ (∀ y c, (y, .inl c) ∈ ws → c ∈ x :: p2 → y ∈ x :: p2)) :
    Cl ws (fun y => Mt y ∨ y ∈ x :: p2) (if b = true then R ++ [x] else R) (m :: Vs) := by
  have ndO := Sq.chg_nd nd
  obtain ⟨i1, ⟨l, i2, i3, i5⟩, i4⟩ := w.seg p1 x p2 rfl
  have xk := fun y hy => w.mem.2 y (List.mem_append_right p1 hy)
  have cl : ∀ {a y : Int}, a ∈ x :: p2 → (a, .inl y) ∈ ws → y ∈ x :: p2 := fun {a y} ha e => by
    obtain ⟨s, h1, h2⟩ := i4 a ha
    have := Sq.uniq nd h1 e
    rcases h2 with h2 | ⟨z, h2, h3⟩
    · rw [this] at h2
      injection h2 with h2
      rw [h2]; simp
    · rw [this] at h3
      injection h3 with h3
      rw [h3]; exact h2
  have clr : ∀ {a y : Int}, a ∈ x :: p2 → Reach (chg ws) a y → y ∈ x :: p2 := fun {a y} ha r => by
    induction r with
    | refl => exact ha
    | step _ e ih => exact cl ih (chg_iff.mp e).1
  have vis : ∀ y ∈ m :: Vs, InCyc (chg ws) y → Mt y ∨ y ∈ x :: p2 := fun y hy cy => by
    rcases List.mem_cons.mp hy with e | e
    · subst e
      rcases w.head with ⟨z, _⟩ | ⟨q, z⟩
      · simp at z
      · have rx := (w.seg [] y q z).1 x (by rw [← z]; simp)
        exact .inr (clr List.mem_cons_self (rx.back ndO cy))
    · exact .inl (h.vis y e cy)
  have clM : ∀ a y, (Mt a ∨ a ∈ x :: p2) → (a, .inl y) ∈ ws → y ∈ keys ws → Mt y ∨ y ∈ x :: p2 := fun a y ha e hy => by
    rcases ha with ha | ha
    · exact .inl (h.cl a y ha e hy)
    · exact .inr (cl ha e)
  by_cases cb : b = true
  · rw [if_pos cb]
    have c := hb.mp cb
    have cyx : InCyc (chg ws) x := ⟨l, i1 l i2, chg_iff.mpr ⟨i3, fun z => i5 c.1 (by injection z with z; exact z.symm)⟩⟩
    have isx : Iso (chg ws) x := ⟨cyx, fun a y hx e => i1 y (c.2 y a (chg_iff.mp e).1 (clr List.mem_cons_self hx))⟩
    have xn : ¬ Mt x := (xk x (by simp)).2
    have far : ∀ r ∈ R, ¬ Reach (chg ws) r x := fun r hr z => xn (h.fwd nd (h.rm r hr) z (xk x (by simp)).1)
    refine ⟨clM, fun r hr => ?_, ?_, fun r hr => ?_, fun r hr q hq k => ?_, fun y hy iy => ?_, vis⟩
    · rcases List.mem_append.mp hr with z | z
      · exact .inl (h.rm r z)
      · exact .inr (by rw [show r = x by simpa using z]; simp)
    · rw [List.nodup_append]
      exact ⟨h.nd, by simp, fun a ha b hb e => xn (by rw [show b = x by simpa using hb] at e; rw [← e]; exact h.rm a ha)⟩
    · rcases List.mem_append.mp hr with z | z
      · exact h.iso r z
      · rw [show r = x by simpa using z]; exact isx
    · rcases List.mem_append.mp hr with z | z <;> rcases List.mem_append.mp hq with z2 | z2
      · exact h.one r z q z2 k
      · rw [show q = x by simpa using z2] at k
        exact absurd k (far r z)
      · rw [show r = x by simpa using z] at k
        exact absurd (k.back ndO cyx) (far q z2)
      · rw [show r = x by simpa using z, show q = x by simpa using z2]
    · rcases hy with hy | hy
      · obtain ⟨r, a, b⟩ := h.all y hy iy
        exact ⟨r, List.mem_append_left _ a, b⟩
      · exact ⟨x, by simp, i1 y hy⟩
  · rw [if_neg cb]
    have c := fun z => cb (hb.mpr z)
    refine ⟨clM, fun r hr => .inl (h.rm r hr), h.nd, h.iso, h.one, fun y hy iy => ?_, vis⟩
    rcases hy with hy | hy
    · exact h.all y hy iy
    · exfalso
      by_cases e : p2 = []
      · subst e
        have yx : y = x := by simpa using hy
        subst yx
        have lx : l = y := by simpa using i2
        subst lx
        obtain ⟨b, hb⟩ := cyc_out ndO iy.1 .refl
        obtain ⟨h1, h2⟩ := chg_iff.mp hb
        exact h2 (Sq.uniq nd h1 i3)
      · have cyx : InCyc (chg ws) x := ⟨l, i1 l i2, chg_iff.mpr ⟨i3, fun z => i5 e (by injection z with z; exact z.symm)⟩⟩
        have ryx := (i1 y hy).back ndO cyx
        refine c ⟨e, fun b a hb ha => ?_⟩
        by_cases q : b = a
        · rw [q]; exact ha
        · exact clr hy (iy.2 a b (ryx.trans (i1 a ha)) (chg_iff.mpr ⟨hb, fun z => q (by injection z with z; exact z.symm)⟩))
end K94

set_option Elab.async false
set_option linter.all false
set_option maxRecDepth 100000
set_option maxHeartbeats 8000000
namespace K94
open PySem PySem.Spec PyProof.Rows L2 Gh
open Sq (S Wr keys vals wD sD sK tS rowsA repL chg Pos Reach InCyc Iso Reps Pth Cyc Row rowD Go)
def repD (l : Wr Bool) : List (D × D) := l.map fun p => (.int p.1, sD p.2)
theorem dicD {l : Wr Bool} {G : Hg} : dicW (.d (.dic false (repD l))) G = some (rep (repL l)) := by
  show some _ = some _
  congr 1
  unfold repD rep repL
  simp only [List.map_map]
  rfl
theorem ixDic_ok {w : W} {G : Hg} {l : List (Key × W)} {q : Key} {z : W} (h : dicW w G = some (rep l)) (hz : lkA l q = some z) : fIxD w (.d (kD q)) G = some (z, G) := by
  unfold fIxD
  rw [h, kd_keyW]
  simp only [look_rep, hz, Option.map_some]
theorem lk_repL {l : Wr Bool} {m : Int} : lkA (repL l) (.inl m) = none ↔ m ∉ keys l := by
  rw [lk_none, Sq.repL_keys]
  refine not_congr ⟨fun h => ?_, fun h => List.mem_map.mpr ⟨m, h, rfl⟩⟩
  obtain ⟨x, hx, e⟩ := List.mem_map.mp h
  injection e with e
  rw [← e]; exact hx
theorem ints_map (p : List Int) : ((p.map D.int).map W.d) = p.map fun n => W.d (.int n) := (Sq.ints_d p).symm
theorem sub_len : ∀ {B A : List Int}, B.Nodup → B ⊆ A → B.length ≤ A.length
  | [], _, _, _ => Nat.zero_le _
  | b :: B, A, nd, sub => by
    have nd' := List.nodup_cons.mp nd
    have hb : b ∈ A := sub (List.mem_cons_self ..)
    have := sub_len (A := A.erase b) nd'.2 fun x hx => (List.mem_erase_of_ne (fun (e : x = b) => nd'.1 (by rw [← e]; exact hx))).mpr (sub (List.mem_cons_of_mem _ hx))
    rw [List.length_erase_of_mem hb] at this
    have := List.length_pos_of_mem hb
    simp only [List.length_cons]
    omega
/-! ### dict(pairs) -/
theorem pairs_ok {G : Hg} : ∀ l : Wr Bool, mapO (pairW G) ((l.map wD).map .d) = some (rep (repL l))
  | [] => rfl
  | p :: l => by
    rw [List.map_cons, List.map_cons]
    unfold mapO
    rw [pairs_ok l]
    obtain ⟨m, s⟩ := p
    rfl
theorem merge_ok : ∀ (l acc : List (Key × W)), mergeW (rep acc) (rep l) = rep (l.foldl (fun a p => ptA a p.1 p.2) acc)
  | [], acc => rfl
  | p :: l, acc => by
    show mergeW (putW (rep acc) (kD p.1) p.2) (rep l) = _
    rw [put_rep, merge_ok l]
    rfl
theorem allKD_rep : ∀ l : Wr Bool, allKD (rep (repL l)) = some (repD l)
  | [] => rfl
  | p :: l => by
    show (allKD (rep (repL l))).map _ = _
    rw [allKD_rep l]
    rfl
theorem pairsW_ok {l : Wr Bool} {G : Hg} (nd : (keys l).Nodup) : pairsW (.d (.lst (l.map wD))) G = some (rep (repL l)) := by
  show (mapO (pairW G) ((l.map wD).map .d)).map (mergeW []) = _
  rw [pairs_ok]
  show some (mergeW (rep []) (rep (repL l))) = _
  rw [merge_ok, fold_new (by rw [List.nil_append]; exact Sq.repL_nodup nd), List.nil_append]
theorem dictC_ok {l : Wr Bool} {a : GE} {ρ : GEnv} {G G1 : Hg} (nd : (keys l).Nodup) (h : a ρ G = .ok (.d (.lst (l.map wD))) G1) : gDictC false a ρ G = .ok (.d (.dic false (repD l))) G1 := by
  unfold gDictC
  rw [h, bind_ok, pairsW_ok nd]
  simp only [Bool.false_eq_true, if_false, allKD_rep]
theorem dictN_ok {l : Wr Bool} {a : GE} {ρ : GEnv} {G G1 : Hg} (nd : (keys l).Nodup) (h : a ρ G = .ok (.d (.lst (l.map wD))) G1) : gDictC true a ρ G = .ok (.ref G1.length) (G1 ++ [.dic false (rep (repL l))]) := by
  unfold gDictC
  rw [h, bind_ok, pairsW_ok nd]
  simp only [if_true]
theorem finT_w {l : Wr Bool} {G : Hg} : finT ((l.map wD).map .d) G = .ok (.d (.lst (l.map wD))) G := by unfold finT; rw [mkLst_d]
theorem fm_w {F : W → Option W} {g : Int × S Bool → Bool} (h : ∀ p, F (.d (wD p)) = if g p = true then some (.d (wD p)) else none) : ∀ l : Wr Bool, ((l.map wD).map .d).filterMap F = ((l.filter g).map wD).map .d
  | [] => rfl
  | p :: l => by
    rw [List.map_cons, List.map_cons, List.filterMap_cons, h, List.filter_cons]
    by_cases c : g p = true
    · rw [if_pos c, if_pos c, List.map_cons, List.map_cons, fm_w h l]
    · rw [if_neg c, if_neg c, fm_w h l]
def chF : W → Option W
  | .d (.tup [.int x, .int y]) => if x = y then none else some (.d (.tup [.int x, .int y]))
  | w => some w
theorem chF_ok (p : Int × S Bool) : chF (.d (wD p)) = if (!decide (p.2 = .inl p.1)) = true then some (.d (wD p)) else none := by
  obtain ⟨x, s⟩ := p
  cases s with
  | inl y =>
    show (if x = y then none else some (W.d (.tup [.int x, .int y]))) = _
    by_cases c : x = y
    · subst c; simp
    · have : ¬ (Sum.inl y : S Bool) = .inl x := fun z => c (by injection z with z; exact z.symm)
      simp [c, this]; rfl
  | inr b =>
    have : ¬ (Sum.inr b : S Bool) = .inl x := fun z => by cases z
    simp only [this, decide_false, Bool.not_false, if_true]
    cases b <;> rfl
theorem lkD {l : Wr Bool} {G : Hg} : lkW (.d (.dic false (repD l))) G = some (rep (repL l)) := by
  show some _ = some _
  congr 1
  unfold repD rep repL
  simp only [List.map_map]
  rfl
theorem diD {kd : DicK} {a : GE} {ρ : GEnv} {G G1 : Hg} {l : Wr Bool} (h : a ρ G = .ok (.d (.dic false (repD l))) G1) : gDicI kd a ρ G = .ok (kd.of (rep (repL l)), fun _ => true) G1 := by
  unfold gDicI
  rw [h, bind_ok, lkD]
theorem lockD {k : Nat} {s : GS} {ρ : GEnv} {G : Hg} {d : D} (h : ρ[k]? = some (some (.d d))) : gLock k s ρ G = s ρ G := by
  unfold gLock
  simp only [h]
theorem items_w {l : Wr Bool} : DicK.items.of (rep (repL l)) = (l.map wD).map .d := by
  rw [Sq.repL_items, List.map_map]
  rfl
theorem in_lst {neg : Bool} {q : List Int} {x : Int} {G : Hg} : fInD neg (.d (.int x)) (.d (.lst (q.map .int))) G = some (.d (.bl (neg ^^ decide (x ∈ q))), G) := by
  rw [inL_ok okE_int (fun d hd => by obtain ⟨i, _, rfl⟩ := List.mem_map.mp hd; exact okE_int), Sq.in_ints]
theorem dec_inl {a b : Int} : decide ((Sum.inl a : S Bool) = .inl b) = decide (a = b) := by
  rw [Bool.eq_iff_iff]; simp
theorem dec_comm {a b : S Bool} : decide (a = b) = decide (b = a) := by
  rw [Bool.eq_iff_iff]
  simp only [decide_eq_true_eq]
  exact eq_comm
end K94

set_option Elab.async false
set_option linter.all false
set_option maxRecDepth 100000
set_option maxHeartbeats 8000000
namespace K94
open PySem PySem.Spec PyProof.Rows L2 Gh
open Sq (S Wr keys vals wD sD sK tS rowsA repL chg Pos Reach InCyc Iso Reps Pth Cyc Row rowD Go)
variable {ws : Wr Bool} {Mt : Int → Prop} {m : Int}
def iw (p : List Int) : List W := (p.map D.int).map .d
theorem iw_snoc {p : List Int} {a : Int} : iw p ++ [.d (.int a)] = iw (p ++ [a]) := by unfold iw; simp
theorem iw_len {p : List Int} : (iw p).length = p.length := by unfold iw; simp
theorem in_sints {s : S Bool} {p : List Int} : inD (sD s) (p.map .int) = decide (∃ y ∈ p, s = .inl y) := by
  cases s with
  | inl y =>
    show inD (.int y) (p.map .int) = _
    rw [Sq.in_ints, Bool.eq_iff_iff]
    simp
  | inr b =>
    rw [Bool.eq_iff_iff]
    simp only [decide_eq_true_eq]
    unfold inD
    rw [List.any_map, List.any_eq_true]
    refine ⟨fun ⟨y, _, e⟩ => ?_, fun ⟨y, _, e⟩ => by cases e⟩
    have e2 : eqD (sD (.inr b)) (sD (.inl y)) = true := e
    rw [Sq.eqD_s, decide_eq_true_eq] at e2
    cases e2
theorem in_src {s : S Bool} {neg : Bool} {G : Hg} : fInD neg (.d (sD s)) (.d (.dic false (repD ws))) G = some (.d (.bl (neg ^^ decide (∃ y ∈ keys ws, s = .inl y))), G) := by
  rw [show (W.d (sD s)) = .d (kD (sK s)) from rfl, inD_ok dicD]
  congr 5
  rw [Bool.eq_iff_iff, decide_eq_true_eq, Option.isSome_iff_ne_none, ne_eq, lk_none, Sq.repL_keys, Classical.not_not, List.mem_map]
  refine ⟨fun ⟨y, h, e⟩ => ⟨y, h, ?_⟩, fun ⟨y, h, e⟩ => ⟨y, h, ?_⟩⟩
  · cases s with
    | inl k =>
      have e' : (Sum.inl y : Key) = .inl k := e
      injection e' with e'
      rw [e']
    | inr b => cases e
  · rw [e]; rfl
theorem sub_keys {p : List Int} (nd : p.Nodup) (h : ∀ a ∈ p, a ∈ keys ws) : p.length ≤ ws.length := by
  have := sub_len nd h
  simpa [keys] using this
/-- the walk -/
theorem wh_ok (nd : (keys ws).Nodup) {ρ : GEnv} {G : Hg} {j r : Nat} {ks : List (Key × W)} (hl : ρ.length = 10) (h1 : ρ[1]? = some (some (.ref j))) (h3 : ρ[3]? = some (some (.d (.dic false (repD ws))))) (h5 : ρ[5]? = some (some (.ref r))) (rj : r ≠ j) (hr : r < G.length) (hj : G[j]? = some (.dic false (rep ks))) (Mk : ∀ x, (lkA ks (.inl x)).isSome = true ↔ Mt x) (hws : ws.length < 1000) :
    ∀ (n : Nat) (p : List Int) (t : S Bool) (k : Nat), Wk ws Mt m p t → ws.length + 1 ≤ p.length + n → n < k →
    ∃ p' t', Wk ws Mt m p' t' ∧ (∀ y, t' = .inl y → y ∈ keys ws → y ∉ p' → Mt y) ∧ whileN wc0__law_due wb0__law_due k (ρ.set 6 (some (.d (sD t)))) (G.set r (.lst (iw p))) = .nx (ρ.set 6 (some (.d (sD t')))) (G.set r (.lst (iw p')))
  | n, p, t, k, w, hn, hk => by
    obtain ⟨k, rfl⟩ : ∃ k', k = k' + 1 := ⟨k - 1, by omega⟩
    have plen := sub_keys w.mem.1 fun a ha => (w.mem.2 a ha).1
    have o : ∀ {i : Nat} {x : Option W}, ρ[i]? = some x → i ≠ 6 → (ρ.set 6 (some (.d (sD t))))[i]? = some x := fun h n => by rw [List.getElem?_set_ne (Ne.symm n)]; exact h
    have r6 : (ρ.set 6 (some (.d (sD t))))[6]? = some (some (.d (sD t))) := set_at (by rw [hl]; decide)
    have gr : (G.set r (.lst (iw p)))[r]? = some (.lst (iw p)) := List.getElem?_set_self hr
    have gj : (G.set r (.lst (iw p)))[j]? = some (.dic false (rep ks)) := by rw [List.getElem?_set_ne rj]; exact hj
    have c1 : gTst (gBin (fInD false) (gVar 6) (gVar 3)) (ρ.set 6 (some (.d (sD t)))) (G.set r (.lst (iw p))) = .ok (decide (∃ y ∈ keys ws, t = .inl y)) (G.set r (.lst (iw p))) := by
      refine ts_ok (b_ok (v_ok r6) (v_ok (o h3 (by decide))) ?_)
      rw [in_src, Bool.false_xor]
    have c2 : gTst (gBin (fInD true) (gVar 6) (gVar 5)) (ρ.set 6 (some (.d (sD t)))) (G.set r (.lst (iw p))) = .ok (!decide (∃ y ∈ p, t = .inl y)) (G.set r (.lst (iw p))) := by
      refine ts_ok (b_ok (v_ok r6) (v_ok (o h5 (by decide))) ?_)
      rw [inR_ok (ds := p.map .int) gr Sq.okE_s (fun d hd => by obtain ⟨i, _, rfl⟩ := List.mem_map.mp hd; exact okE_int), in_sints, Bool.true_xor]
    have stop : wc0__law_due (ρ.set 6 (some (.d (sD t)))) (G.set r (.lst (iw p))) = .ok false (G.set r (.lst (iw p))) → (∀ y, t = .inl y → y ∈ keys ws → y ∉ p → Mt y) →
      ∃ p' t', Wk ws Mt m p' t' ∧ (∀ y, t' = .inl y → y ∈ keys ws → y ∉ p' → Mt y) ∧ whileN wc0__law_due wb0__law_due (k + 1) (ρ.set 6 (some (.d (sD t)))) (G.set r (.lst (iw p))) = .nx (ρ.set 6 (some (.d (sD t')))) (G.set r (.lst (iw p'))) := fun c z => ⟨p, t, w, z, whileN_f c⟩
    by_cases d1 : ∃ y ∈ keys ws, t = .inl y
    · obtain ⟨a, ak, rfl⟩ := d1
      rw [decide_eq_true ⟨a, ak, rfl⟩] at c1
      by_cases d2 : a ∈ p
      · rw [decide_eq_true ⟨a, d2, rfl⟩] at c2
        exact stop ((an_t c1).trans (an_f c2)) fun y e _ q => by
          injection e with e
          exact absurd (by rw [← e]; exact d2) q
      · rw [decide_eq_false (fun ⟨y, hy, e⟩ => d2 (by injection e with e; rw [e]; exact hy))] at c2
        have c3 : gTst (gBin (fInD true) (gVar 6) (gVar 1)) (ρ.set 6 (some (.d (sD (.inl a : S Bool))))) (G.set r (.lst (iw p))) = .ok (!(lkA ks (.inl a)).isSome) (G.set r (.lst (iw p))) := by
          refine ts_ok (b_ok (v_ok r6) (v_ok (o h1 (by decide))) ?_)
          rw [show (W.d (sD (.inl a))) = .d (kD (.inl a)) from rfl, inD_ok (dic_w gj), Bool.true_xor]
        have cc : wc0__law_due (ρ.set 6 (some (.d (sD (.inl a : S Bool))))) (G.set r (.lst (iw p))) = .ok (!(lkA ks (.inl a)).isSome) (G.set r (.lst (iw p))) := (an_t c1).trans ((an_t c2).trans c3)
        by_cases d3 : Mt a
        · rw [(Mk a).mpr d3] at cc
          exact stop cc fun y e _ _ => by
            injection e with e
            rw [← e]; exact d3
        · rw [Bool.eq_false_iff.mpr fun z => d3 ((Mk a).mp z)] at cc
          obtain ⟨s, hs⟩ := Sq.mem_keys.mp ak
          obtain ⟨n, rfl⟩ : ∃ n', n = n' + 1 := ⟨n - 1, by omega⟩
          have b1 : gExpr (gMt .lst fAppend (gVar 5) (gConsA (gVar 6) (gNilA))) (ρ.set 6 (some (.d (sD (.inl a : S Bool))))) (G.set r (.lst (iw p))) = .nx (ρ.set 6 (some (.d (sD (.inl a : S Bool))))) (G.set r (.lst (iw (p ++ [a])))) := by
            refine (ex_ok (ap_ok (v_ok (o h5 (by decide))) (v_ok r6) ⟨_, gr⟩ gr (by rw [iw_len]; omega))).trans ?_
            rw [List.set_set, show (W.d (sD (.inl a : S Bool))) = .d (.int a) from rfl, iw_snoc]
          have b2 : gAsg (gBin fIxD (gVar 3) (gVar 6)) (gNm 6) (ρ.set 6 (some (.d (sD (.inl a : S Bool))))) (G.set r (.lst (iw (p ++ [a])))) = .nx (ρ.set 6 (some (.d (sD s)))) (G.set r (.lst (iw (p ++ [a])))) := by
            refine (as_ok (b_ok (v_ok (o h3 (by decide))) (v_ok r6) (ixDic_ok (q := .inl a) dicD (Sq.repL_get nd hs)))).trans ?_
            rw [List.set_set]
          have b : wb0__law_due (ρ.set 6 (some (.d (sD (.inl a : S Bool))))) (G.set r (.lst (iw p))) = .nx (ρ.set 6 (some (.d (sD s)))) (G.set r (.lst (iw (p ++ [a])))) := (sq_nx b1).trans b2
          obtain ⟨p', t', w', z', e'⟩ := wh_ok nd hl h1 h3 h5 rj hr hj Mk hws n (p ++ [a]) s k (w.snoc hs d2 d3) (by rw [List.length_append]; simp only [List.length_cons, List.length_nil]; omega) (by omega)
          exact ⟨p', t', w', z', (whileN_t cc b).trans e'⟩
    · rw [decide_eq_false d1] at c1
      exact stop (an_f c1) fun y e hy _ => absurd ⟨y, hy, e⟩ d1
/-! ### the ring -/
theorem slice_fromR {G : Hg} {i : Nat} {ds : List D} {k : Nat} (h : G[i]? = some (.lst (ds.map .d))) : sliceEnd (.ref i) (some (k : Int)) none G = .ok (.d (.lst (ds.drop k))) G := by
  have e : seqW (.ref i) G = some (true, ds.map .d) := by show (match G[i]? with | some (.lst ws) => some (true, ws) | _ => none) = _; rw [h]
  unfold sliceEnd
  rw [e]
  simp only [cut_from, ← List.map_drop, mkLst_d]
theorem idx_split {x : Int} : ∀ {p : List Int}, x ∈ p → ∃ p1 p2, p = p1 ++ x :: p2 ∧ (p.findIdx fun n => decide (n = x)) = p1.length
  | a :: p, h => by
    by_cases e : a = x
    · exact ⟨[], p, by rw [e]; rfl, by rw [List.findIdx_cons]; simp [e]⟩
    · obtain ⟨p1, p2, h1, h2⟩ := idx_split (p := p) ((List.mem_cons.mp h).resolve_left fun z => e z.symm)
      exact ⟨a :: p1, p2, by rw [h1]; rfl, by rw [List.findIdx_cons]; simp [e, h2]⟩
theorem lstI_ref {G : Hg} {r : Nat} {p : List Int} (h : G[r]? = some (.lst (iw p))) : lstI (.ref r) G = some p := by
  have e : seqW (.ref r) G = some (true, iw p) := by show (match G[r]? with | some (.lst ws) => some (true, ws) | _ => none) = _; rw [h]
  unfold lstI
  rw [e]
  show intsW (iw p) = some p
  unfold iw
  rw [← Sq.ints_d]
  exact Sq.intsW_map p
theorem ring_ok {ρ : GEnv} {G : Hg} {r : Nat} {x : Int} {p : List Int} (h5 : ρ[5]? = some (some (.ref r))) (h6 : ρ[6]? = some (some (.d (.int x)))) (hr : G[r]? = some (.lst (iw p))) (hx : x ∈ p) :
    ∃ p1 p2, p = p1 ++ x :: p2 ∧ gSlice (gVar 5) (gPt (gMt .lst fIndexI (gVar 5) (gConsA (gVar 6) (gNilA)))) (gNoP) ρ G = .ok (.d (.lst ((x :: p2).map .int))) G := by
  obtain ⟨p1, p2, e1, e2⟩ := idx_split hx
  refine ⟨p1, p2, e1, ?_⟩
  have e3 : gMt .lst fIndexI (gVar 5) (gConsA (gVar 6) (gNilA)) ρ G = .ok (.d (.int (p1.length : Nat))) G := by
    refine mt_ok (v_ok h5) (ty_lst hr) (noDic_lst hr) (a_ok (v_ok h6) n_ok) ?_
    unfold fIndexI
    rw [lstI_ref hr]
    simp only [e2]
    rw [if_pos (by rw [e1, List.length_append]; simp)]
  rw [e_slice, v_ok h5, bind_ok, e_pt, e3, bind_ok, ptW_int, bind_ok, e_noP, bind_ok, slice_fromR hr, ← List.map_drop, e1, List.drop_left]
/-! ### who else reads -/
def awB (C : List Int) (p : Int × S Bool) : Bool := match p.2 with
  | .inl c => decide (c ∈ C) && !decide (p.1 ∈ C)
  | .inr _ => false
def aw (C : List Int) (ws : Wr Bool) : List Int := keys (ws.filter (awB C))
theorem aw_nil {C : List Int} : aw C ws = [] ↔ ∀ y c, (y, .inl c) ∈ ws → c ∈ C → y ∈ C := by
  unfold aw keys
  rw [List.map_eq_nil_iff, List.filter_eq_nil_iff]
  refine ⟨fun h y c hy hc => Classical.byContradiction fun n => h _ hy (by unfold awB; simp [hc, n]), fun h p hp z => ?_⟩
  obtain ⟨y, s⟩ := p
  cases s with
  | inl c =>
    unfold awB at z
    simp only [Bool.and_eq_true, Bool.not_eq_true', decide_eq_false_iff_not, decide_eq_true_eq] at z
    exact z.2 (h y c hp z.1)
  | inr b => cases z
def awF (C : List Int) : W → Option W
  | .d (.tup [.int x, .int c]) => if (decide (c ∈ C) && !decide (x ∈ C)) = true then some (.d (.int x)) else none
  | _ => none
theorem awF_ok {C : List Int} {p : Int × S Bool} : awF C (.d (wD p)) = if awB C p = true then some (.d (.int p.1)) else none := by
  obtain ⟨x, s⟩ := p
  cases s with
  | inl c => rfl
  | inr b => cases b <;> rfl
theorem awF_map {C : List Int} : ∀ ws : Wr Bool, ((ws.map wD).map .d).filterMap (awF C) = (aw C ws).map fun m => W.d (.int m)
  | [] => rfl
  | p :: ws => by
    unfold aw
    rw [List.map_cons, List.map_cons, List.filterMap_cons, awF_ok, List.filter_cons]
    by_cases c : awB C p = true
    · rw [if_pos c, if_pos c, awF_map ws]; rfl
    · rw [if_neg c, if_neg c, awF_map ws]; rfl
theorem away_ok {ρ : GEnv} {G : Hg} {C : List Int} (hl : ρ.length = 10) (h0 : ρ[0]? = some (some (.d (.lst (ws.map wD))))) (h5 : ρ[5]? = some (some (.d (.lst (C.map .int))))) (hws : ws.length < 1000) :
    (fun ρ G => (gLcW (gSeqI (gVar 0)) [9, 8] (gTp [gNm 9, gNm 8]) (lt1__law_due) (le1__law_due) ρ G).bind finT : GE) ρ G = .ok (.d (.lst ((aw C ws).map .int))) G := by
  have lc := lcL_on (G := G) (t := gTp [gNm 9, gNm 8]) (tt := lt1__law_due) (e := le1__law_due) (ck := ckW (.d (.lst (ws.map wD))) ((ws.map wD).map .d)) (ρ0 := wipeG ρ [9, 8]) (awF C) rfl ((ws.map wD).map .d) [] (fun w hw => by
    obtain ⟨d, hd, rfl⟩ := List.mem_map.mp hw
    obtain ⟨p, hp, rfl⟩ := List.mem_map.mp hd
    let ρ1 : GEnv := ((wipeG ρ [9, 8]).set 9 (some (.d (.int p.1)))).set 8 (some (.d (sD p.2)))
    have ll : (wipeG ρ [9, 8]).length = 10 := by show ((ρ.set 8 none).set 9 none).length = 10; simp [hl]
    have o : ∀ {i : Nat} {x : Option W}, ρ[i]? = some x → i ≠ 9 → i ≠ 8 → ρ1[i]? = some x := fun {i x} h a b => by
      show ((((ρ.set 8 none).set 9 none).set 9 _).set 8 _)[i]? = _
      rw [List.getElem?_set_ne (Ne.symm b), List.getElem?_set_ne (Ne.symm a), List.getElem?_set_ne (Ne.symm a), List.getElem?_set_ne (Ne.symm b)]; exact h
    have r8 : ρ1[8]? = some (some (.d (sD p.2))) := set_at (by rw [List.length_set, ll]; decide)
    have r9 : ρ1[9]? = some (some (.d (.int p.1))) := by show (((wipeG ρ [9, 8]).set 9 _).set 8 _)[9]? = _; rw [List.getElem?_set_ne (by decide)]; exact set_at (by rw [ll]; decide)
    refine ⟨ρ1, rfl, ?_⟩
    have t1 : gTst (gBin (fInD false) (gVar 8) (gVar 5)) ρ1 G = .ok (decide (∃ y ∈ C, p.2 = .inl y)) G := by
      refine ts_ok (b_ok (v_ok r8) (v_ok (o h5 (by decide) (by decide))) ?_)
      rw [inL_ok Sq.okE_s (fun d hd => by obtain ⟨i, _, rfl⟩ := List.mem_map.mp hd; exact okE_int), in_sints, Bool.false_xor]
    have t2 : gTst (gBin (fInD true) (gVar 9) (gVar 5)) ρ1 G = .ok (!decide (p.1 ∈ C)) G := by
      refine ts_ok (b_ok (v_ok r9) (v_ok (o h5 (by decide) (by decide))) ?_)
      rw [in_lst, Bool.true_xor]
    have tt : lt1__law_due ρ1 G = .ok (awB C p) G := by
      unfold awB
      cases q : p.2 with
      | inr b =>
        rw [decide_eq_false (fun ⟨y, _, e⟩ => by rw [q] at e; cases e)] at t1
        exact an_f t1
      | inl c =>
        have e : decide (∃ y ∈ C, p.2 = .inl y) = decide (c ∈ C) := by
          rw [Bool.eq_iff_iff, q]; simp
        rw [e] at t1
        by_cases z : c ∈ C
        · rw [decide_eq_true z] at t1
          simp only [decide_eq_true z, Bool.true_and]
          exact (an_t t1).trans t2
        · rw [decide_eq_false z] at t1
          simp only [decide_eq_false z, Bool.false_and]
          exact an_f t1
    rw [awF_ok]
    by_cases c : awB C p = true
    · rw [c] at tt
      rw [if_pos c]
      exact .inr ⟨_, rfl, tt, v_ok r9⟩
    · rw [Bool.eq_false_iff.mpr c] at tt
      rw [if_neg c]
      exact .inl ⟨rfl, tt⟩) (by simp; omega)
  rw [awF_map, List.nil_append] at lc
  show (gLcW _ _ _ _ _ _ _).bind finT = _
  unfold gLcW
  rw [e_seqI (v_ok (w := .d (.lst (ws.map wD))) h0) (b := true) rfl, bind_ok, lc, bind_ok]
  exact Sq.finT_ints
/-! ### met marks -/
def mkL (C : List Int) : List (Key × W) := C.map fun x => (.inl x, .d (.bl true))
def mkP (C : List Int) : List D := C.map fun x => .tup [.int x, .bl true]
def mkD (C : List Int) : List (D × D) := C.map fun x => (.int x, .bl true)
theorem mkL_keys {C : List Int} : (mkL C).map (·.1) = C.map Sum.inl := by unfold mkL; rw [List.map_map]; rfl
theorem mk_pairs {G : Hg} : ∀ C : List Int, mapO (pairW G) ((mkP C).map .d) = some (rep (mkL C))
  | [] => rfl
  | x :: C => by
    show mapO (pairW G) (W.d (.tup [.int x, .bl true]) :: (mkP C).map .d) = _
    unfold mapO
    rw [mk_pairs C]
    rfl
theorem mk_all : ∀ C : List Int, allKD (rep (mkL C)) = some (mkD C)
  | [] => rfl
  | x :: C => by
    show (allKD (rep (mkL C))).map _ = _
    rw [mk_all C]
    rfl
theorem mk_dic {C : List Int} {G : Hg} : dicW (.d (.dic false (mkD C))) G = some (rep (mkL C)) := by
  have e : (mkD C).map (fun p => (p.1, W.d p.2)) = rep (mkL C) := by
    unfold mkD rep mkL
    rw [List.map_map, List.map_map]
    rfl
  rw [← e]
  rfl
theorem mk_dict {C : List Int} {a : GE} {ρ : GEnv} {G G1 : Hg} (nd : C.Nodup) (h : a ρ G = .ok (.d (.lst (mkP C))) G1) : gDictC false a ρ G = .ok (.d (.dic false (mkD C))) G1 := by
  have pw : pairsW (.d (.lst (mkP C))) G1 = some (rep (mkL C)) := by
    show (mapO (pairW G1) ((mkP C).map .d)).map (mergeW []) = _
    rw [mk_pairs]
    show some (mergeW (rep []) (rep (mkL C))) = _
    rw [merge_ok, fold_new (by rw [List.nil_append, mkL_keys]; exact nd.map _ fun a b n e => n (by injection e)), List.nil_append]
  unfold gDictC
  rw [h, bind_ok, pw]
  simp only [Bool.false_eq_true, if_false, mk_all]
theorem mk_fold : ∀ (C : List Int) (ks : List (Key × W)), ((mkL C).foldl (fun a p => ptA a p.1 p.2) ks).length ≤ ks.length + C.length ∧ ∀ x, (lkA ((mkL C).foldl (fun a p => ptA a p.1 p.2) ks) (.inl x)).isSome = true ↔ (lkA ks (.inl x)).isSome = true ∨ x ∈ C
  | [], ks => ⟨Nat.le_refl _, fun x => by show (lkA ks (.inl x)).isSome = true ↔ _; simp⟩
  | y :: C, ks => by
    have e : (mkL (y :: C)).foldl (fun a p => ptA a p.1 p.2) ks = (mkL C).foldl (fun a p => ptA a p.1 p.2) (ptA ks (.inl y) (.d (.bl true))) := rfl
    obtain ⟨i1, i2⟩ := mk_fold C (ptA ks (.inl y) (.d (.bl true)))
    rw [e]
    have pl := pt_len (l := ks) (k := .inl y) (w := .d (.bl true))
    refine ⟨by simp only [List.length_cons]; omega, fun x => ?_⟩
    rw [i2, lk_pt, List.mem_cons]
    by_cases q : x = y
    · rw [q]; simp
    · rw [if_neg (fun z => q (by injection z))]
      simp [q]
def mkF : W → Option W
  | .d (.int x) => some (.d (.tup [.int x, .bl true]))
  | _ => none
theorem mkF_map : ∀ C : List Int, (iw C).filterMap mkF = (mkP C).map .d
  | [] => rfl
  | x :: C => by
    show (W.d (.int x) :: iw C).filterMap mkF = W.d (.tup [.int x, .bl true]) :: (mkP C).map .d
    rw [List.filterMap_cons, ← mkF_map C]
    rfl
theorem met_comp {ρ : GEnv} {G : Hg} {C : List Int} {ck : Hg → Bool} (hl : ρ.length = 10) (hck : ck G = true) (hC : C.length < 10000) (h5 : gSeqI (gVar 5) ρ G = .ok (iw C, ck) G) :
    (fun ρ G => (gLcW (gSeqI (gVar 5)) [9] (gNm 9) (gYes) (le3__law_due) ρ G).bind finT : GE) ρ G = .ok (.d (.lst (mkP C))) G := by
  have lc := lcL_on (G := G) (t := gNm 9) (tt := gYes) (e := le3__law_due) (ck := ck) (ρ0 := wipeG ρ [9]) mkF hck (iw C) [] (fun w hw => by
    obtain ⟨d, hd, rfl⟩ := List.mem_map.mp hw
    obtain ⟨x, hx, rfl⟩ := List.mem_map.mp hd
    have r9 : ((wipeG ρ [9]).set 9 (some (.d (.int x))))[9]? = some (some (.d (.int x))) := set_at (by show 9 < (ρ.set 9 none).length; rw [List.length_set, hl]; decide)
    exact ⟨(wipeG ρ [9]).set 9 (some (.d (.int x))), rfl, .inr ⟨_, rfl, rfl, tp_ok (a_ok (v_ok r9) (a_ok c_ok n_ok)) rfl rfl⟩⟩) (by rw [iw_len]; simp only [List.length_nil]; omega)
  rw [mkF_map, List.nil_append] at lc
  show (gLcW _ _ _ _ _ _ _).bind finT = _
  unfold gLcW
  rw [h5, bind_ok, lc, bind_ok]
  unfold finT
  rw [mkLst_d]
end K94

set_option Elab.async false
set_option linter.all false
set_option maxRecDepth 100000
set_option maxHeartbeats 8000000
namespace K94
open PySem PySem.Spec PyProof.Rows L2 Gh
open Sq (S Wr keys vals wD sD sK tS rowsA repL chg Pos Reach InCyc Iso Reps Pth Cyc Row rowD Go)
variable {ws : Wr Bool} {Mt : Int → Prop} {m : Int}
def mg (ks : List (Key × W)) (C : List Int) : List (Key × W) := (mkL C).foldl (fun a p => ptA a p.1 p.2) ks
theorem upd_ok {ρ : GEnv} {G : Hg} {j : Nat} {ks : List (Key × W)} {C : List Int} {ck : Hg → Bool} (hl : ρ.length = 10) (h1 : ρ[1]? = some (some (.ref j))) (hj : G[j]? = some (.dic false (rep ks))) (nd : C.Nodup) (h5 : gSeqI (gVar 5) ρ G = .ok (iw C, ck) G) (hck : ck G = true) (hC : C.length < 10000) (hk : ks.length < 10000000) :
    gExpr (gUpdD (gVar 1) (gDictC false (fun ρ G => (gLcW (gSeqI (gVar 5)) [9] (gNm 9) (gYes) (le3__law_due) ρ G).bind finT))) ρ G = .nx ρ (G.set j (.dic false (rep (mg ks C)))) := by
  have e := mk_dict (a := fun ρ G => (gLcW (gSeqI (gVar 5)) [9] (gNm 9) (gYes) (le3__law_due) ρ G).bind finT) (ρ := ρ) (G := G) (G1 := G) nd (met_comp hl hck hC h5)
  refine ex_ok (w := .d .non) ?_
  unfold gUpdD
  rw [v_ok h1, bind_ok, dic_w hj]
  simp only [Option.isSome_some, if_true]
  rw [e, bind_ok, dm_w hj, mk_dic]
  have lb : Nat.ble ((rep ks).length + (rep (mkL C)).length) 16777216 = true := Nat.ble_eq.mpr (by rw [len_rep, len_rep]; unfold mkL; rw [List.length_map]; omega)
  simp only [notI, lb, Bool.and_self, if_true]
  rw [merge_ok]
  rfl
theorem tup2_5 {ρ : GEnv} {G : Hg} {m : Int} (hl : ρ.length = 10) (h2 : ρ[2]? = some (some (.d (.int m)))) :
    gAsg (gTup (gConsA (gNew (gNilA)) (gConsA (gVar 2) (gNilA)))) (gTp [gNm 5, gNm 6]) ρ G = .nx ((ρ.set 5 (some (.ref G.length))).set 6 (some (.d (.int m)))) (G ++ [.lst []]) := by
  have e : gTup (gConsA (gNew (gNilA)) (gConsA (gVar 2) (gNilA))) ρ G = .ok (.tup [.ref G.length, .d (.int m)]) (G ++ [.lst []]) := tp_ok (a_ok (nw_ok n_ok rfl) (a_ok (v_ok h2) n_ok)) rfl rfl
  rw [e_asg, e, toS_ok]
  rfl
structure DInv (ws : Wr Bool) (j : Nat) (ρ : GEnv) (G : Hg) (ks : List (Key × W)) (R Vs : List Int) : Prop where
  l : ρ.length = 10
  r0 : ρ[0]? = some (some (.d (.lst (ws.map wD))))
  r1 : ρ[1]? = some (some (.ref j))
  r3 : ρ[3]? = some (some (.d (.dic false (repD ws))))
  r4 : ρ[4]? = some (some (.d (.int (((chg ws).length + R.length : Nat) : Int))))
  gj : G[j]? = some (.dic false (rep ks))
  kl : ks.length ≤ Vs.length * 1000
  cl : Cl ws (fun x => (lkA ks (.inl x)).isSome = true) R Vs
  nl : NoL G
theorem due_turn (nd : (keys ws).Nodup) (hws : ws.length < 1000) {j : Nat} {ρ : GEnv} {G : Hg} {ks : List (Key × W)} {R Vs : List Int} (I : DInv ws j ρ G ks R Vs) (h2 : ρ[2]? = some (some (.d (.int m)))) (hm : m ∈ keys ws) (hv : Vs.length < 1000) :
    ∃ ρ' G' ks' R', fb0__law_due ρ G = .nx ρ' G' ∧ DInv ws j ρ' G' ks' R' (m :: Vs) := by
  have p1 := tup2_5 (G := G) I.l h2
  have jl : j < G.length := (List.getElem?_eq_some_iff.mp I.gj).1
  let ρ1 : GEnv := ρ.set 5 (some (.ref G.length))
  have l1 : ρ1.length = 10 := by show (ρ.set 5 _).length = 10; rw [List.length_set]; exact I.l
  have o1 : ∀ {i : Nat} {x : Option W}, ρ[i]? = some x → i ≠ 5 → ρ1[i]? = some x := fun h n => by show (ρ.set 5 _)[_]? = _; rw [List.getElem?_set_ne (Ne.symm n)]; exact h
  have g1 : (G ++ [GO.lst []])[G.length]? = some (.lst []) := by rw [List.getElem?_append_right (Nat.le_refl _), Nat.sub_self]; rfl
  have s1 : (G ++ [GO.lst []]).set G.length (.lst (iw [])) = G ++ [GO.lst []] := by
    exact List.ext_getElem? fun i => by
      rw [List.getElem?_set]
      by_cases e : G.length = i
      · subst e; rw [if_pos rfl, g1]; simp [iw]
      · rw [if_neg e]
  have j1 : (G ++ [GO.lst []])[j]? = some (.dic false (rep ks)) := by rw [List.getElem?_append_left jl]; exact I.gj
  obtain ⟨p', t', w', z', e2⟩ := wh_ok (ws := ws) (Mt := fun x => (lkA ks (.inl x)).isSome = true) (m := m) nd (ρ := ρ1) (G := G ++ [.lst []]) (j := j) (r := G.length) (ks := ks) l1 (o1 I.r1 (by decide)) (o1 I.r3 (by decide)) (set_at (by rw [I.l]; decide)) (by omega) (by simp) j1 (fun _ => Iff.rfl) hws (ws.length + 1) [] (.inl m) 1000000 .nil (by simp) (by omega)
  rw [s1] at e2
  have e2' : whileN wc0__law_due wb0__law_due 1000000 ((ρ.set 5 (some (.ref G.length))).set 6 (some (.d (.int m)))) (G ++ [GO.lst []]) = .nx (ρ1.set 6 (some (.d (sD t')))) ((G ++ [GO.lst []]).set G.length (GO.lst (iw p'))) := e2
  let ρ2 : GEnv := ρ1.set 6 (some (.d (sD t')))
  have l2 : ρ2.length = 10 := by show (ρ1.set 6 _).length = 10; rw [List.length_set]; exact l1
  have o2 : ∀ {i : Nat} {x : Option W}, ρ[i]? = some x → i ≠ 5 → i ≠ 6 → ρ2[i]? = some x := fun h a b => by show (ρ1.set 6 _)[_]? = _; rw [List.getElem?_set_ne (Ne.symm b)]; exact o1 h a
  have r26 : ρ2[6]? = some (some (.d (sD t'))) := set_at (by rw [l1]; decide)
  have r25 : ρ2[5]? = some (some (.ref G.length)) := by show (ρ1.set 6 _)[5]? = _; rw [List.getElem?_set_ne (by decide)]; exact set_at (by rw [I.l]; decide)
  let G2 : Hg := (G ++ [GO.lst []]).set G.length (GO.lst (iw p'))
  have gr : G2[G.length]? = some (.lst (iw p')) := List.getElem?_set_self (by simp)
  have gj : G2[j]? = some (.dic false (rep ks)) := by show ((G ++ [GO.lst []]).set G.length (GO.lst (iw p')))[j]? = _; rw [List.getElem?_set_ne (by omega)]; exact j1
  have nl2 : NoL G2 := (I.nl.app rfl).set _ rfl
  have pl := sub_keys w'.mem.1 fun a ha => (w'.mem.2 a ha).1
  have c1 : gTst (gBin (fInD false) (gVar 6) (gVar 5)) ρ2 G2 = .ok (decide (∃ y ∈ p', t' = .inl y)) G2 := by
    refine ts_ok (b_ok (v_ok r26) (v_ok r25) ?_)
    rw [inR_ok (ds := p'.map .int) gr Sq.okE_s (fun d hd => by obtain ⟨i, _, rfl⟩ := List.mem_map.mp hd; exact okE_int), in_sints, Bool.false_xor]
  have lenv : (m :: Vs).length * 1000 = Vs.length * 1000 + 1000 := by simp only [List.length_cons]; omega
  by_cases d : ∃ y ∈ p', t' = .inl y
  · rw [decide_eq_true d] at c1
    obtain ⟨x, xp, rfl⟩ := d
    obtain ⟨q1, q2, e3, e4⟩ := ring_ok (ρ := ρ2) (G := G2) (r := G.length) (x := x) (p := p') r25 r26 gr xp
    subst e3
    have w2 : (aw (x :: q2) ws = []) ↔ ∀ y c, (y, .inl c) ∈ ws → c ∈ x :: q2 → y ∈ x :: q2 := aw_nil
    have ndC : (x :: q2).Nodup := (List.nodup_append.mp w'.mem.1).2.1
    let bb : Bool := decide (1 < (x :: q2).length) && (aw (x :: q2) ws).isEmpty
    have hb : bb = true ↔ q2 ≠ [] ∧ ∀ y c, (y, .inl c) ∈ ws → c ∈ x :: q2 → y ∈ x :: q2 := by
      show (_ && _) = true ↔ _
      rw [Bool.and_eq_true, decide_eq_true_eq, List.isEmpty_iff, w2]
      refine and_congr_left fun _ => ?_
      cases q2 <;> simp
    have cl := I.cl.inn nd w' hb
    let ρ3 : GEnv := ρ2.set 5 (some (.d (.lst ((x :: q2).map .int))))
    have l3 : ρ3.length = 10 := by show (ρ2.set 5 _).length = 10; rw [List.length_set]; exact l2
    have r35 : ρ3[5]? = some (some (.d (.lst ((x :: q2).map .int)))) := set_at (by rw [l2]; decide)
    have o3 : ∀ {i : Nat} {x : Option W}, ρ[i]? = some x → i ≠ 5 → i ≠ 6 → ρ3[i]? = some x := fun h a b => by show (ρ2.set 5 _)[_]? = _; rw [List.getElem?_set_ne (Ne.symm a)]; exact o2 h a b
    have p3 : gAsg (gSlice (gVar 5) (gPt (gMt .lst fIndexI (gVar 5) (gConsA (gVar 6) (gNilA)))) (gNoP)) (gNm 5) ρ2 G2 = .nx ρ3 G2 := as_ok e4
    have p4 := as_ok (k := 7) (a := fun ρ G => (gLcW (gSeqI (gVar 0)) [9, 8] (gTp [gNm 9, gNm 8]) (lt1__law_due) (le1__law_due) ρ G).bind finT) (away_ok (ws := ws) (ρ := ρ3) (G := G2) (C := x :: q2) l3 (o3 I.r0 (by decide) (by decide)) r35 hws)
    let ρ4 : GEnv := ρ3.set 7 (some (.d (.lst ((aw (x :: q2) ws).map .int))))
    have l4 : ρ4.length = 10 := by show (ρ3.set 7 _).length = 10; rw [List.length_set]; exact l3
    have r47 : ρ4[7]? = some (some (.d (.lst ((aw (x :: q2) ws).map .int)))) := set_at (by rw [l3]; decide)
    have r45 : ρ4[5]? = some (some (.d (.lst ((x :: q2).map .int)))) := by show (ρ3.set 7 _)[5]? = _; rw [List.getElem?_set_ne (by decide)]; exact r35
    have o4 : ∀ {i : Nat} {x : Option W}, ρ[i]? = some x → i ≠ 5 → i ≠ 6 → i ≠ 7 → ρ4[i]? = some x := fun h a b c => by show (ρ3.set 7 _)[_]? = _; rw [List.getElem?_set_ne (Ne.symm c)]; exact o3 h a b
    have v1 : gAndV (gBin (fI (iCmp fun i j => decide (j < i))) (gCall fLenD (gConsA (gVar 5) (gNilA))) (gC (.int 1))) (gBin (fEqS false) (gVar 7) (gLst (gNilA))) ρ4 G2 = .ok (.d (.bl bb)) G2 := by
      have x1 : gBin (fI (iCmp fun i j => decide (j < i))) (gCall fLenD (gConsA (gVar 5) (gNilA))) (gC (.int 1)) ρ4 G2 = .ok (.d (.bl (decide (1 < (x :: q2).length)))) G2 := by
        refine b_ok (cl_ok (a_ok (v_ok r45) n_ok) lenL_ok) c_ok ?_
        rw [e_fI]
        have : decide ((1 : Int) < (((x :: q2).map D.int).length : Nat)) = decide (1 < (x :: q2).length) := by rw [Bool.eq_iff_iff]; simp; omega
        show some (W.d (.bl (decide ((1 : Int) < (((x :: q2).map D.int).length : Nat)))), G2) = _
        rw [this]
      have x2 : gBin (fEqS false) (gVar 7) (gLst (gNilA)) ρ4 G2 = .ok (.d (.bl (aw (x :: q2) ws).isEmpty)) G2 := by
        refine b_ok (v_ok r47) (ls_ok (ds := []) n_ok rfl rfl) ?_
        rw [Sq.neNil_ints, Bool.false_xor]
      rw [e_andV, x1, bind_ok]
      show oB _ (some (decide (1 < (x :: q2).length))) = .ok (.d (.bl (_ && _))) G2
      rw [oB_some]
      cases decide (1 < (x :: q2).length) with
      | true => rw [cond_true, x2, Bool.true_and]
      | false => rw [cond_false, Bool.false_and]
    have p5 : gAsg (gBin fAdd (gVar 4) (gCall fInt (gConsA (gAndV (gBin (fI (iCmp fun i j => decide (j < i))) (gCall fLenD (gConsA (gVar 5) (gNilA))) (gC (.int 1))) (gBin (fEqS false) (gVar 7) (gLst (gNilA)))) (gNilA)))) (gNm 4) ρ4 G2 = .nx (ρ4.set 4 (some (.d (.int ((((chg ws).length + R.length : Nat) : Int) + if bb = true then 1 else 0))))) G2 :=
      as_ok (b_ok (v_ok (o4 I.r4 (by decide) (by decide) (by decide))) (cl_ok (a_ok v1 n_ok) e_intb) e_add)
    let R' : List Int := if bb = true then R ++ [x] else R
    have eR : ((((chg ws).length + R.length : Nat) : Int) + if bb = true then 1 else 0) = (((chg ws).length + R'.length : Nat) : Int) := by
      show _ = (((chg ws).length + (if bb = true then R ++ [x] else R).length : Nat) : Int)
      cases bb <;> simp <;> omega
    rw [eR] at p5
    let ρ5 : GEnv := ρ4.set 4 (some (.d (.int (((chg ws).length + R'.length : Nat) : Int))))
    have l5 : ρ5.length = 10 := by show (ρ4.set 4 _).length = 10; rw [List.length_set]; exact l4
    have o5 : ∀ {i : Nat} {x : Option W}, ρ[i]? = some x → i ≠ 5 → i ≠ 6 → i ≠ 7 → i ≠ 4 → ρ5[i]? = some x := fun h a b c d => by show (ρ4.set 4 _)[_]? = _; rw [List.getElem?_set_ne (Ne.symm d)]; exact o4 h a b c
    have r55 : ρ5[5]? = some (some (.d (.lst ((x :: q2).map .int)))) := by show (ρ4.set 4 _)[5]? = _; rw [List.getElem?_set_ne (by decide)]; exact r45
    have cl5 : (x :: q2).length ≤ ws.length := by
      have : (q1 ++ x :: q2).length = q1.length + (x :: q2).length := List.length_append
      omega
    have p6 := upd_ok (ρ := ρ5) (G := G2) (j := j) (ks := ks) (C := x :: q2) (ck := ckW (.d (.lst ((x :: q2).map .int))) (iw (x :: q2))) l5 (o5 I.r1 (by decide) (by decide) (by decide) (by decide)) gj ndC (e_seqI (v_ok r55) rfl) rfl (by omega) (by have := I.kl; omega)
    obtain ⟨f1, f2⟩ := mk_fold (x :: q2) ks
    refine ⟨ρ5, G2.set j (.dic false (rep (mg ks (x :: q2)))), mg ks (x :: q2), R', ?_, l5, o5 I.r0 (by decide) (by decide) (by decide) (by decide), o5 I.r1 (by decide) (by decide) (by decide) (by decide), o5 I.r3 (by decide) (by decide) (by decide) (by decide), set_at (by rw [l4]; decide), List.getElem?_set_self (List.getElem?_eq_some_iff.mp gj).1, ?_, cl.ext fun y => (f2 y), nl2.set _ rfl⟩
    · unfold fb0__law_due
      rw [sq_nx p1, sq_nx e2']
      refine (sq_nx (ρ1 := ρ5) (G1 := G2) ?_).trans p6
      exact (if_t c1).trans ((sq_nx p3).trans ((sq_nx p4).trans p5))
    · have : (mg ks (x :: q2)).length ≤ ks.length + (x :: q2).length := f1
      have := I.kl
      omega
  · rw [decide_eq_false d] at c1
    have cl := I.cl.out nd hm w' fun y e hy => z' y e hy fun q => d ⟨y, q, e⟩
    have p6 := upd_ok (ρ := ρ2) (G := G2) (j := j) (ks := ks) (C := p') (ck := ckW (.ref G.length) (iw p')) l2 (o2 I.r1 (by decide) (by decide)) gj w'.mem.1 (e_seqI (v_ok r25) (b := true) (by show (match G2[G.length]? with | some (.lst ws) => some (true, ws) | _ => none) = _; rw [gr])) (ckW_now (b := true) (by show (match G2[G.length]? with | some (.lst ws) => some (true, ws) | _ => none) = _; rw [gr])) (by omega) (by have := I.kl; omega)
    obtain ⟨f1, f2⟩ := mk_fold p' ks
    refine ⟨ρ2, G2.set j (.dic false (rep (mg ks p'))), mg ks p', R, ?_, l2, o2 I.r0 (by decide) (by decide), o2 I.r1 (by decide) (by decide), o2 I.r3 (by decide) (by decide), o2 I.r4 (by decide) (by decide), List.getElem?_set_self (List.getElem?_eq_some_iff.mp gj).1, ?_, cl.ext fun y => (f2 y), nl2.set _ rfl⟩
    · unfold fb0__law_due
      rw [sq_nx p1, sq_nx e2']
      exact (sq_nx (ρ1 := ρ2) (G1 := G2) ((if_f c1).trans nl_ok)).trans p6
    · have : (mg ks p').length ≤ ks.length + p'.length := f1
      have := I.kl
      omega
theorem due_for (nd : (keys ws).Nodup) (hws : ws.length < 1000) {j : Nat} {ck : Hg → Bool} (hck : ∀ G, ck G = true) : ∀ (ms Vs : List Int) (ρ : GEnv) (G : Hg) (ks : List (Key × W)) (R : List Int), DInv ws j ρ G ks R Vs → (∀ x ∈ ms, x ∈ keys ws) → Vs.length + ms.length < 1000 →
    ∃ ρ' G' ks' R', forL (gNm 2) fb0__law_due ck (ms.map fun m => W.d (.int m)) ρ G = .nx ρ' G' ∧ DInv ws j ρ' G' ks' R' (ms.reverse ++ Vs)
  | [], Vs, ρ, G, ks, R, I, _, _ => ⟨ρ, G, ks, R, forL_nil (hck _), I⟩
  | m :: ms, Vs, ρ, G, ks, R, I, hm, hl => by
    simp only [List.length_cons] at hl
    have I1 : DInv ws j (ρ.set 2 (some (.d (.int m)))) G ks R Vs := by
      have o : ∀ {i : Nat} {x : Option W}, ρ[i]? = some x → i ≠ 2 → (ρ.set 2 (some (.d (.int m))))[i]? = some x := fun h a => by rw [List.getElem?_set_ne (Ne.symm a)]; exact h
      exact ⟨by rw [List.length_set]; exact I.l, o I.r0 (by decide), o I.r1 (by decide), o I.r3 (by decide), o I.r4 (by decide), I.gj, I.kl, I.cl, I.nl⟩
    obtain ⟨ρ2, G2, ks2, R2, e, I2⟩ := due_turn (m := m) nd hws I1 (set_at (by rw [I.l]; decide)) (hm m (by simp)) (by omega)
    obtain ⟨ρ3, G3, ks3, R3, e3, I3⟩ := due_for nd hws hck ms (m :: Vs) ρ2 G2 ks2 R2 I2 (fun x hx => hm x (List.mem_cons_of_mem _ hx)) (by simp only [List.length_cons]; omega)
    refine ⟨ρ3, G3, ks3, R3, ?_, by rw [List.reverse_cons, List.append_assoc]; exact I3⟩
    rw [List.map_cons]
    exact (forL_t (hck _) (ρ1 := ρ.set 2 (some (.d (.int m)))) (G1 := G) rfl e).trans e3
theorem due_ok (nd : (keys ws).Nodup) (hws : ws.length < 1000) : ∃ R, Reps (chg ws) R ∧ f__law_due [.lst (ws.map wD)] = .ok (.int (((chg ws).length + R.length : Nat) : Int)) := by
  let e0 : GEnv := [some (.d (.lst (ws.map wD))), none, none, none, none, none, none, none, none, none]
  -- how many change something
  have c1 : (fun ρ G => (gLcW (gSeqI (gVar 0)) [2, 8] (gTp [gNm 2, gNm 8]) (lt0__law_due) (le0__law_due) ρ G).bind finT : GE) e0 [] = .ok (.d (.lst ((chg ws).map fun _ => D.int 1))) [] := by
    have lc := lcL_on (G := []) (t := gTp [gNm 2, gNm 8]) (tt := lt0__law_due) (e := le0__law_due) (ck := ckW (.d (.lst (ws.map wD))) ((ws.map wD).map .d)) (ρ0 := wipeG e0 [2, 8]) (fun w => (chF w).map fun _ => W.d (.int 1)) rfl ((ws.map wD).map .d) [] (fun w hw => by
      obtain ⟨d, hd, rfl⟩ := List.mem_map.mp hw
      obtain ⟨p, hp, rfl⟩ := List.mem_map.mp hd
      let ρ1 : GEnv := ((wipeG e0 [2, 8]).set 2 (some (.d (.int p.1)))).set 8 (some (.d (sD p.2)))
      refine ⟨ρ1, rfl, ?_⟩
      have r2 : ρ1[2]? = some (some (.d (sD (.inl p.1)))) := rfl
      have r8 : ρ1[8]? = some (some (.d (sD p.2))) := rfl
      have t : lt0__law_due ρ1 [] = .ok (!decide (p.2 = .inl p.1)) [] := by
        refine ts_ok (b_ok (v_ok r2) (v_ok r8) ?_)
        rw [Sq.eqS_s, Bool.true_xor, dec_comm]
      rw [chF_ok]
      by_cases c : (!decide (p.2 = .inl p.1)) = true
      · rw [c] at t
        rw [if_pos c]
        exact .inr ⟨_, rfl, t, c_ok⟩
      · rw [Bool.eq_false_iff.mpr c] at t
        rw [if_neg c]
        exact .inl ⟨rfl, t⟩) (by simp; omega)
    have fm : ((ws.map wD).map W.d).filterMap (fun w => (chF w).map fun _ => W.d (.int 1)) = ((chg ws).map fun _ => D.int 1).map .d := by
      clear lc hws nd e0
      induction ws with
      | nil => rfl
      | cons p l ih =>
        rw [List.map_cons, List.map_cons, List.filterMap_cons, chF_ok]
        unfold chg at ih ⊢
        rw [List.filter_cons]
        by_cases c : (!decide (p.2 = .inl p.1)) = true
        · rw [if_pos c, if_pos c, List.map_cons, List.map_cons, ← ih]; rfl
        · rw [if_neg c, if_neg c, ← ih]; rfl
    rw [fm, List.nil_append] at lc
    show (gLcW _ _ _ _ _ _ _).bind finT = _
    unfold gLcW
    rw [e_seqI (v_ok (ρ := e0) (w := .d (.lst (ws.map wD))) rfl) (b := true) rfl, bind_ok, lc, bind_ok]
    unfold finT
    rw [mkLst_d]
  have d1 : gDictC false (gVar 0) e0 [] = .ok (.d (.dic false (repD ws))) [] := dictC_ok nd (v_ok rfl)
  have p1 : gPar2 3 4 (gConsA (gDictC false (gVar 0)) (gConsA (gCall fLenD (gConsA (fun ρ G => (gLcW (gSeqI (gVar 0)) [2, 8] (gTp [gNm 2, gNm 8]) (lt0__law_due) (le0__law_due) ρ G).bind finT) (gNilA))) (gNilA))) e0 [] = .nx ((e0.set 3 (some (.d (.dic false (repD ws))))).set 4 (some (.d (.int (((chg ws).length + ([] : List Int).length : Nat) : Int))))) [] := by
    have a : gConsA (gDictC false (gVar 0)) (gConsA (gCall fLenD (gConsA (fun ρ G => (gLcW (gSeqI (gVar 0)) [2, 8] (gTp [gNm 2, gNm 8]) (lt0__law_due) (le0__law_due) ρ G).bind finT) (gNilA))) (gNilA)) e0 [] = .ok [.d (.dic false (repD ws)), .d (.int (((chg ws).length + ([] : List Int).length : Nat) : Int))] [] := by
      refine a_ok d1 (a_ok (cl_ok (a_ok c1 n_ok) ?_) n_ok)
      rw [lenL_ok, List.length_map]
      rfl
    unfold gPar2
    rw [a]
    rfl
  let ρ2 : GEnv := (((e0.set 3 (some (.d (.dic false (repD ws))))).set 4 (some (.d (.int (((chg ws).length + ([] : List Int).length : Nat) : Int))))).set 1 (some (.ref 0)))
  have p2 : gAsg (gDicN) (gNm 1) ((e0.set 3 (some (.d (.dic false (repD ws))))).set 4 (some (.d (.int (((chg ws).length + ([] : List Int).length : Nat) : Int))))) [] = .nx ρ2 [.dic false []] := rfl
  have I0 : DInv ws 0 ρ2 [.dic false []] [] [] [] := ⟨rfl, rfl, rfl, rfl, rfl, rfl, Nat.zero_le _, Cl.start.ext fun x => ⟨fun h => (by cases h), fun h => h.elim⟩, rfl⟩
  obtain ⟨ρ3, G3, ks, R, e, I⟩ := due_for nd hws (j := 0) (ck := fun _ => true) (fun _ => rfl) (keys ws) [] ρ2 [.dic false []] [] [] I0 (fun _ h => h) (by simp [keys]; omega)
  have p3 : gLock 3 (gFor (gDicI .keys (gVar 3)) (gNm 2) (fb0__law_due)) ρ2 [.dic false []] = .nx ρ3 G3 := by
    rw [lockD (d := .dic false (repD ws)) rfl, e_for, diD (v_ok rfl), toS_ok, Sq.repL_keysW]
    exact e
  refine ⟨R, (I.cl.perm fun x hx => by simp [hx]).fin nd, ?_⟩
  show runP 10 g__law_due _ = _
  unfold runP
  have key : g__law_due (envP 10 [.lst (ws.map wD)]) [] = .ret (.d (.int (((chg ws).length + R.length : Nat) : Int))) G3 := by
    show g__law_due e0 [] = _
    unfold g__law_due
    exact (sq_nx p1).trans ((sq_nx p2).trans ((sq_nx p3).trans (re_ok (v_ok I.r4))))
  rw [key]
  have nl : G3.any GO.isL = false := I.nl
  simp only [nl, Bool.false_eq_true, if_false]
  rfl
end K94

set_option Elab.async false
set_option linter.all false
set_option maxRecDepth 100000
set_option maxHeartbeats 8000000
namespace K94
open PySem PySem.Spec PyProof.Rows L2 Gh
open Sq (S Wr keys vals wD sD sK tS rowsA repL chg Pos Reach InCyc Iso Reps Pth Cyc Row rowD Go put act acts rowOf)
theorem next_eq : f__law_next = fNext := rfl
theorem mixed_eq : f__law_mixed = fMixed := rfl
theorem one_eq : f__law_one = fOne := rfl
theorem source_eq : f__law_source_of = fSource := rfl
def SrcAt (i : Nat) (G : Hg) : Prop := ∃ src, G[i]? = some (.lst src) ∧ SrcOk src ∧ NoL G
theorem SrcAt.lt {i : Nat} {G : Hg} (h : SrcAt i G) : i < G.length := let ⟨_, e, _⟩ := h; (List.getElem?_eq_some_iff.mp e).1
theorem SrcAt.next {i : Nat} {G : Hg} {m : Int} (h : SrcAt i G) (h0 : 0 < m) (h1 : m < 1073741824) : ∃ r G', 0 ≤ r ∧ r < m ∧ f__law_next [.ref i, .d (.int m)] G = .ok (.d (.int r)) G' ∧ SrcAt i G' ∧ Fr [i] G G' := by
  obtain ⟨src, h2, h3, h4⟩ := h
  obtain ⟨r, src', a, b, c, d⟩ := next_ok h2 h3 h0 h1
  exact ⟨r, _, a, b, d, ⟨src', List.getElem?_set_self (List.getElem?_eq_some_iff.mp h2).1, c, h4.set i rfl⟩, .set (by simp)⟩
theorem SrcAt.one {i : Nat} {G : Hg} {ds : List D} (h : SrcAt i G) (h0 : ds ≠ []) (h1 : ds.length < 1073741824) : ∃ d G', d ∈ ds ∧ f__law_one [.ref i, .d (.lst ds)] G = .ok (.d d) G' ∧ SrcAt i G' ∧ Fr [i] G G' := by
  obtain ⟨src, h2, h3, h4⟩ := h
  obtain ⟨src', d, a, b, c⟩ := one_ok h2 h3 h0 h1
  exact ⟨d, _, a, c, ⟨src', List.getElem?_set_self (List.getElem?_eq_some_iff.mp h2).1, b, h4.set i rfl⟩, .set (by simp)⟩
theorem SrcAt.fr {i : Nat} {G G' : Hg} {m : List Nat} (h : SrcAt i G) (f : Fr m G G') (n : i ∉ m) : SrcAt i G' := by
  obtain ⟨src, h2, h3, h4⟩ := h
  exact ⟨src, f.at h2 n, h3, f.nl h4⟩
theorem atI_some {α : Type} {l : List α} {k : Int} (h : -(l.length : Int) ≤ k) (h2 : k < l.length) : ∃ x ∈ l, atI l k = some x := by
  unfold atI ixN
  by_cases h0 : 0 ≤ k
  · rw [if_pos h0, if_pos (by omega)]
    have lt : k.toNat < l.length := by omega
    exact ⟨l[k.toNat], List.getElem_mem lt, List.getElem?_eq_getElem lt⟩
  · rw [if_neg h0, if_pos (by omega)]
    have lt : (k + (l.length : Int)).toNat < l.length := by omega
    exact ⟨l[(k + (l.length : Int)).toNat], List.getElem_mem lt, List.getElem?_eq_getElem lt⟩
/-- a source that may be drawn -/
abbrev Bd (x : Int) : Prop := 0 ≤ x ∧ x < 40
def RowB : Row Bool → Prop
  | .copy m k => Bd m ∧ Bd k
  | .const _ m => Bd m
/-! ### the rows' marks -/
theorem row_b {m : Int} {s : S Bool} (h : Bd m) (h2 : ∀ k, s = .inl k → Bd k) : RowB (rowOf m s) := by
  cases s with
  | inl k => exact ⟨h, h2 k rfl⟩
  | inr b => exact h
theorem go_b {sp : Int} (hs : Bd sp) {l : Wr Bool} {f : Int → Option Int} {rs : List (Row Bool)} (g : Go sp l f rs) : (∀ p ∈ l, Bd p.1 ∧ ∀ k, p.2 = .inl k → Bd k) → (∀ x k, f x = some k → Bd k) → ∀ r ∈ rs, RowB r := by
  have kset_b : ∀ {f : Int → Option Int} {s : S Bool} {m : Int}, (∀ x k, f x = some k → Bd k) → Bd m → ∀ x k, Sq.kset f s m x = some k → Bd k := fun {f s m} hf hm x k h => by
    unfold Sq.kset at h
    by_cases e : s = .inl x
    · rw [if_pos e] at h
      have := Option.some.inj h
      rw [← this]; exact hm
    · rw [if_neg e] at h
      exact hf x k h
  have red_b : ∀ {l : Wr Bool} {m k : Int}, (∀ p ∈ l, Bd p.1 ∧ ∀ k, p.2 = .inl k → Bd k) → Bd k → ∀ p ∈ Sq.red l m k, Bd p.1 ∧ ∀ k, p.2 = .inl k → Bd k := fun {l m k} hl hk p hp => by
    rcases Sq.mem_red hp with ⟨h1, _⟩ | ⟨h1, h2⟩
    · exact hl p h1
    · refine ⟨(hl _ h1).1, fun j e => ?_⟩
      rw [h2] at e
      injection e with e
      rw [← e]; exact hk
  induction g with
  | done => intro _ _ r hr; cases hr
  | free hm hf g ih =>
    intro hl hf r hr
    have b := hl _ hm
    rcases List.mem_cons.mp hr with e | e
    · rw [e]; exact row_b b.1 b.2
    · exact ih (fun p hp => hl p (Sq.mem_pop.mp hp).1) (kset_b hf b.1) r e
  | @saved l f m k s rs ha mk hk hm g ih =>
    intro hl hf r hr
    have hl' := red_b (m := m) hl (hf _ _ hk)
    have b := hl' _ hm
    rcases List.mem_cons.mp hr with e | e
    · rw [e]; exact row_b b.1 b.2
    · exact ih (fun p hp => hl' p (Sq.mem_pop.mp hp).1) (kset_b hf b.1) r e
  | @spare l f m s rs ha hn mk hm g ih =>
    intro hl hf r hr
    have hl' := red_b (m := m) hl hs
    have b := hl' _ hm
    rcases List.mem_cons.mp hr with e | e
    · rw [e]; exact ⟨hs, b.1⟩
    · rcases List.mem_cons.mp e with e | e
      · rw [e]; exact row_b b.1 b.2
      · exact ih (fun p hp => hl' p (Sq.mem_pop.mp hp).1) (kset_b hf b.1) r e
/-- the writes at hand -/
structure Ok (ws : Wr Bool) (sp : Int) : Prop where
  nd : (keys ws).Nodup
  len : ws.length < 100
  b : ∀ p ∈ ws, Bd p.1 ∧ ∀ k, p.2 = .inl k → Bd k
  spb : Bd sp
  spk : sp ∉ keys ws
  spv : Sum.inl sp ∉ vals ws
theorem Ok.pos {ws : Wr Bool} {sp : Int} (h : Ok ws sp) : Pos ws := fun p hp => ⟨(h.b p hp).1.1, fun k e => ((h.b p hp).2 k e).1⟩
theorem Ok.org {ws : Wr Bool} {sp : Int} (h : Ok ws sp) : Sq.Org (chg ws) sp := Sq.chg_org h.nd h.spk h.spv
/-- what the marks are due -/
def target (ws : Wr Bool) (c : Int → S Bool) : Int → S Bool := ws.foldl (fun c p => put c p.1 p.2) c
theorem target_out {ws : Wr Bool} {m : Int} (h : m ∉ keys ws) : ∀ c, target ws c m = c m := by
  induction ws with
  | nil => intro c; rfl
  | cons p ws ih =>
    intro c
    show target ws (put c p.1 p.2) m = _
    rw [ih (fun z => h (List.mem_cons_of_mem _ z))]
    exact Sq.put_ne fun z => h (by rw [z]; exact List.mem_cons_self ..)
theorem target_in {ws : Wr Bool} (nd : (keys ws).Nodup) {m : Int} {s : S Bool} (h : (m, s) ∈ ws) : ∀ c, target ws c m = s := by
  induction ws with
  | nil => cases h
  | cons p ws ih =>
    intro c
    have nd' := List.nodup_cons.mp (show (p.1 :: keys ws).Nodup from nd)
    show target ws (put c p.1 p.2) m = _
    rcases List.mem_cons.mp h with e | e
    · rw [← e]
      rw [target_out (by have := nd'.1; rw [← e] at this; exact this)]
      exact Sq.put_same
    · exact ih nd'.2 e _
theorem same_target {ws : Wr Bool} {sp : Int} (h : Ok ws sp) {rs : List (Row Bool)} (g : Go sp (chg ws) (fun _ => none) rs) {m : Int} (n : m ≠ sp) : acts Sum.inl rs m = target ws Sum.inl m := by
  obtain ⟨h1, h2⟩ := Sq.rows_do h.org g
  by_cases k : m ∈ keys ws
  · obtain ⟨s, hs⟩ := Sq.mem_keys.mp k
    rw [target_in h.nd hs]
    by_cases e : s = .inl m
    · rw [e]
      refine h2 m (fun z => ?_) n
      obtain ⟨t, ht⟩ := Sq.mem_keys.mp z
      have := Sq.uniq h.nd (Sq.chg_sub ht) hs
      rw [this, e] at ht
      exact h.org.ns m ht
    · exact h1 m s (List.mem_filter.mpr ⟨hs, by simp [e]⟩)
  · rw [target_out k]
    refine h2 m (fun z => k ?_) n
    obtain ⟨t, ht⟩ := Sq.mem_keys.mp z
    exact Sq.key_of (Sq.chg_sub ht)
/-! ### tables of truths -/
def tb (f : Int → Bool) : List (Key × W) := (List.range 40).map fun (m : Nat) => (.inl (m : Int), .d (.bl (f m)))
def tbD (f : Int → Bool) : List (D × D) := (List.range 40).map fun (m : Nat) => (.int (m : Int), .bl (f m))
def tbP (f : Int → Bool) : List D := (List.range 40).map fun (m : Nat) => .tup [.int (m : Int), .bl (f m)]
theorem tb_keys {f : Int → Bool} : (tb f).map (·.1) = (List.range 40).map fun (m : Nat) => (Sum.inl (m : Int) : Key) := by
  unfold tb
  rw [List.map_map]
  rfl
theorem tb_nd {f : Int → Bool} : ((tb f).map (·.1)).Nodup := by
  rw [tb_keys]
  exact List.nodup_range.map _ fun a b n e => n (by injection e with e; omega)
theorem tb_get {f : Int → Bool} {m : Int} (h : Bd m) : lkA (tb f) (.inl m) = some (.d (.bl (f m))) := by
  refine lk_of tb_nd ?_
  obtain ⟨n, rfl⟩ := Int.eq_ofNat_of_zero_le h.1
  exact List.mem_map.mpr ⟨n, List.mem_range.mpr (by omega), rfl⟩
theorem tb_put {f : Int → Bool} {m : Int} {v : Bool} (h : Bd m) : ptA (tb f) (.inl m) (.d (.bl v)) = tb (put f m v) := by
  unfold ptA
  rw [if_pos]
  · unfold tb
    rw [List.map_map]
    refine List.map_congr_left fun n _ => ?_
    show (if (Sum.inl (n : Int) : Key) = .inl m then (Sum.inl (n : Int), W.d (.bl v)) else (Sum.inl (n : Int), W.d (.bl (f n)))) = (Sum.inl (n : Int), W.d (.bl (put f m v n)))
    unfold put
    by_cases e : (n : Int) = m
    · rw [if_pos (by rw [e]), if_pos e]
    · rw [if_neg (fun z => e (by injection z)), if_neg e]
  · obtain ⟨n, rfl⟩ := Int.eq_ofNat_of_zero_le h.1
    exact List.any_eq_true.mpr ⟨_, List.mem_map.mpr ⟨n, List.mem_range.mpr (by omega), rfl⟩, by simp⟩
theorem tb_len {f : Int → Bool} : (tb f).length = 40 := by unfold tb; simp
theorem tb_pairs {f : Int → Bool} {G : Hg} : mapO (pairW G) ((tbP f).map .d) = some (rep (tb f)) := by
  unfold tbP tb rep
  generalize List.range 40 = ns
  induction ns with
  | nil => rfl
  | cons n r ih =>
    rw [List.map_cons, List.map_cons, List.map_cons, List.map_cons]
    unfold mapO
    rw [ih]
    rfl
theorem tb_all {f : Int → Bool} : allKD (rep (tb f)) = some (tbD f) := by
  unfold tbD tb rep
  generalize List.range 40 = ns
  induction ns with
  | nil => rfl
  | cons n r ih =>
    rw [List.map_cons, List.map_cons, List.map_cons]
    show (allKD _).map _ = _
    rw [ih]
    rfl
theorem tb_dic {f : Int → Bool} {G : Hg} : dicW (.d (.dic false (tbD f))) G = some (rep (tb f)) := by
  have e : (tbD f).map (fun p => (p.1, W.d p.2)) = rep (tb f) := by
    unfold rep tb tbD
    rw [List.map_map, List.map_map]
    rfl
  rw [← e]
  rfl
theorem tb_dict {f : Int → Bool} {a : GE} {ρ : GEnv} {G G1 : Hg} (h : a ρ G = .ok (.d (.lst (tbP f))) G1) : gDictC false a ρ G = .ok (.d (.dic false (tbD f))) G1 := by
  have pw : pairsW (.d (.lst (tbP f))) G1 = some (rep (tb f)) := by
    show (mapO (pairW G1) ((tbP f).map .d)).map (mergeW []) = _
    rw [tb_pairs]
    show some (mergeW (rep []) (rep (tb f))) = _
    rw [merge_ok, fold_new (by rw [List.nil_append]; exact tb_nd), List.nil_append]
  unfold gDictC
  rw [h, bind_ok, pw]
  simp only [Bool.false_eq_true, if_false, tb_all]
theorem tb_dictN {f : Int → Bool} {a : GE} {ρ : GEnv} {G G1 : Hg} (h : a ρ G = .ok (.d (.dic false (tbD f))) G1) : gDictC true a ρ G = .ok (.ref G1.length) (G1 ++ [.dic false (rep (tb f))]) := by
  have pw : pairsW (.d (.dic false (tbD f))) G1 = some (rep (tb f)) := by unfold pairsW; rw [tb_dic]
  unfold gDictC
  rw [h, bind_ok, pw]
  simp only [if_true]
/-! ### the draws -/
theorem paired_f : ∀ {ns : List Nat} {zs : List W}, ns.Nodup → Paired (fun w z => ∃ (k : Int) (b : Bool), w = .d (.int k) ∧ z = .d (.tup [.int k, .bl b])) (ns.map fun (n : Nat) => W.d (.int (n : Int))) zs → ∃ f : Int → Bool, zs = (ns.map fun (n : Nat) => D.tup [.int (n : Int), .bl (f n)]).map .d
  | [], zs, _, h => by cases h; exact ⟨fun _ => false, rfl⟩
  | n :: ns, zs, nd, h => by
    have nd' := List.nodup_cons.mp nd
    rw [List.map_cons] at h
    cases h with
    | cons h1 h2 =>
      obtain ⟨f, rfl⟩ := paired_f nd'.2 h2
      obtain ⟨k, b, e1, rfl⟩ := h1
      injection e1 with e1
      injection e1 with e1
      subst e1
      refine ⟨put f (n : Int) b, ?_⟩
      rw [List.map_cons, List.map_cons, Sq.put_same]
      congr 2
      refine List.map_congr_left fun j hj => ?_
      rw [Sq.put_ne fun e => nd'.1 (by have : j = n := by omega
                                       rw [← this]; exact hj)]
theorem draw_comp {i : Nat} {ρ : GEnv} {G : Hg} (hs : SrcAt i G) (hl : ρ.length = 11) (h0 : ρ[0]? = some (some (.ref i))) : ∃ (f : Int → Bool) (G' : Hg), (fun ρ G => (gLcW (gRng1 (gConsA (gC (.int 40)) (gNilA))) [9] (gNm 9) (gYes) (le0__law_rows_right) ρ G).bind finT : GE) ρ G = .ok (.d (.lst (tbP f))) G' ∧ SrcAt i G' ∧ Fr [i] G G' := by
  have rg : gRng1 (gConsA (gC (.int 40)) (gNilA)) ρ G = .ok ((List.range 40).map fun (n : Nat) => W.d (.int (n : Int)), fun _ => true) G := by kernel_rfl
  obtain ⟨zs, G', e, pr, s', fr⟩ := lcL_inv (t := gNm 9) (tt := gYes) (e := le0__law_rows_right) (ck := fun _ => true) (ρ0 := wipeG ρ [9]) (I := fun G' => SrcAt i G' ∧ Fr [i] G G') (P := fun w => ∃ k : Int, w = .d (.int k)) (R := fun w z => ∃ (k : Int) (b : Bool), w = .d (.int k) ∧ z = .d (.tup [.int k, .bl b])) (fun _ _ => rfl) (fun w G1 hw ⟨s1, f1⟩ => by
    obtain ⟨k, rfl⟩ := hw
    obtain ⟨r, G2, r0, r1, er, s2, f2⟩ := s1.next (m := 2) (by decide) (by decide)
    let ρ1 : GEnv := (wipeG ρ [9]).set 9 (some (.d (.int k)))
    have r9 : ρ1[9]? = some (some (.d (.int k))) := set_at (by show 9 < (ρ.set 9 none).length; rw [List.length_set, hl]; decide)
    have r00 : ρ1[0]? = some (some (.ref i)) := by show ((ρ.set 9 none).set 9 _)[0]? = _; rw [List.getElem?_set_ne (by decide), List.getElem?_set_ne (by decide)]; exact h0
    refine ⟨ρ1, .d (.tup [.int k, .bl (r == 1)]), G2, rfl, rfl, ?_, ⟨k, _, rfl, rfl⟩, s2, f1.trans f2⟩
    refine tp_ok (a_ok (v_ok r9) (a_ok (b_ok (fs_ok (a_ok (v_ok r00) (a_ok c_ok n_ok)) rfl er) c_ok (z := .d (.bl (r == 1))) ?_) n_ok)) rfl rfl
    rw [eq_ok (okD_E okE_int) (okD_E okE_int) (fun _ z => by cases z) (fun _ z => by cases z) (fun _ _ z => by cases z.1), eqD_int, Bool.false_xor]) ((List.range 40).map fun (n : Nat) => W.d (.int (n : Int))) [] G (fun w hw => by
    obtain ⟨n, _, rfl⟩ := List.mem_map.mp hw
    exact ⟨_, rfl⟩) ⟨hs, .refl⟩ (by simp)
  obtain ⟨f, rfl⟩ := paired_f (ns := List.range 40) List.nodup_range pr
  refine ⟨f, G', ?_, s', fr⟩
  show (gLcW _ _ _ _ _ _ _).bind finT = _
  unfold gLcW
  rw [rg, bind_ok, e, bind_ok, List.nil_append]
  unfold finT
  rw [mkLst_d]
  rfl
/-! ### the rows done on truths -/
def ev (f : Int → Bool) : S Bool → Bool
  | .inl k => f k
  | .inr b => b
def actB (h : Int → Bool) : Row Bool → Int → Bool
  | .copy m k => put h m (h k)
  | .const b m => put h m b
theorem ev_put {f : Int → Bool} {c : Int → S Bool} {m : Int} {v : S Bool} : (fun x => ev f (put c m v x)) = put (fun x => ev f (c x)) m (ev f v) := by
  funext x
  unfold put
  by_cases e : x = m
  · rw [if_pos e, if_pos e]
  · rw [if_neg e, if_neg e]
theorem ev_act {f : Int → Bool} {c : Int → S Bool} {r : Row Bool} : actB (fun x => ev f (c x)) r = fun x => ev f (act c r x) := by
  cases r with
  | copy m k => exact (ev_put (v := c k)).symm
  | const b m => exact (ev_put (v := .inr b)).symm
abbrev atJ (G : Hg) (j : Nat) (h : Int → Bool) : Hg := G.set j (.dic false (rep (tb h)))
theorem atJ_at {G : Hg} {j : Nat} {h : Int → Bool} (hj : j < G.length) : (atJ G j h)[j]? = some (.dic false (rep (tb h))) := List.getElem?_set_self hj
theorem st_ok {G : Hg} {j : Nat} {h : Int → Bool} {m : Int} {v : Bool} (hj : j < G.length) (hm : Bd m) : fSetD (.ref j) (.d (kD (.inl m))) (.d (.bl v)) (atJ G j h) = some (atJ G j (put h m v)) := by
  rw [setD_ok (l := tb h) (atJ_at hj) (by rw [tb_len]; decide), tb_put hm, List.set_set]
theorem rw_row {ρ : GEnv} {G : Hg} {j : Nat} {h : Int → Bool} {r : Row Bool} (h6 : ρ[6]? = some (some (.ref j))) (h7 : ρ[7]? = some (some (.d (rowD r)))) (hj : j < G.length) (hb : RowB r) : fb0__law_rows_right ρ (atJ G j h) = .nx ρ (atJ G j (actB h r)) := by
  unfold fb0__law_rows_right
  cases r with
  | copy m k =>
    obtain ⟨hm, hk⟩ := hb
    have t1 : gTst (gBin (fEqS false) (gBin fIxD (gVar 7) (gC (.int 0))) (gC (.str "copy"))) ρ (atJ G j h) = .ok true (atJ G j h) := ts_ok (b_ok (b_ok (v_ok h7) c_ok rfl) c_ok rfl)
    have t2 : gTst (gBin (fEqS false) (gCall fLenD (gConsA (gVar 7) (gNilA))) (gC (.int 3))) ρ (atJ G j h) = .ok true (atJ G j h) := ts_ok (b_ok (cl_ok (a_ok (v_ok h7) n_ok) rfl) c_ok rfl)
    refine (if_t ((an_t t1).trans t2)).trans ?_
    exact asb_ok (v := .d (.bl (h k))) (G1 := atJ G j h) (b_ok (v_ok h6) (b_ok (v_ok h7) c_ok (z := .d (kD (.inl k))) rfl) (ixDic_ok (l := tb h) (dic_w (atJ_at hj)) (tb_get hk))) (v_ok h6) (b_ok (v_ok h7) c_ok (z := .d (kD (.inl m))) rfl) (st_ok hj hm)
  | const b m =>
    have t1 : gTst (gBin (fEqS false) (gBin fIxD (gVar 7) (gC (.int 0))) (gC (.str "copy"))) ρ (atJ G j h) = .ok false (atJ G j h) := by
      refine ts_ok (b_ok (b_ok (v_ok h7) c_ok (z := .d (.str (tS b))) rfl) c_ok ?_)
      rw [Gh.eq_str]
      cases b <;> rfl
    have t2 : gTst (gBin (fInD false) (gBin fIxD (gVar 7) (gC (.int 0))) (gTup (gConsA (gC (.str "on")) (gConsA (gC (.str "off")) (gNilA))))) ρ (atJ G j h) = .ok true (atJ G j h) := by
      refine ts_ok (b_ok (b_ok (v_ok h7) c_ok (z := .d (.str (tS b))) rfl) (tp_ok (w := .d (.tup [.str "on", .str "off"])) (a_ok c_ok (a_ok c_ok n_ok)) rfl rfl) ?_)
      rw [inT_ok (okE_str Sq.strOk_tS) (fun d hd => by
        rcases List.mem_cons.mp hd with rfl | hd
        · exact okE_str (by decide +kernel)
        · rcases List.mem_cons.mp hd with rfl | hd
          · exact okE_str (by decide +kernel)
          · cases hd)]
      cases b <;> rfl
    have t3 : gTst (gBin (fEqS false) (gCall fLenD (gConsA (gVar 7) (gNilA))) (gC (.int 2))) ρ (atJ G j h) = .ok true (atJ G j h) := ts_ok (b_ok (cl_ok (a_ok (v_ok h7) n_ok) rfl) c_ok rfl)
    refine (if_f (an_f t1)).trans ((if_t ((an_t t2).trans t3)).trans ?_)
    refine asb_ok (v := .d (.bl b)) (G1 := atJ G j h) (b_ok (b_ok (v_ok h7) c_ok (z := .d (.str (tS b))) rfl) c_ok ?_) (v_ok h6) (b_ok (v_ok h7) c_ok (z := .d (kD (.inl m))) rfl) (st_ok hj hb)
    rw [Gh.eq_str]
    cases b <;> rfl
theorem rw_for {ck : Hg → Bool} (hck : ∀ G, ck G = true) {G : Hg} {j : Nat} (hj : j < G.length) {f : Int → Bool} : ∀ (rs : List (Row Bool)) (ρ : GEnv) (c : Int → S Bool), ρ.length = 11 → ρ[6]? = some (some (.ref j)) → (∀ r ∈ rs, RowB r) → ∃ ρ', forL (gNm 7) fb0__law_rows_right ck ((rs.map rowD).map .d) ρ (atJ G j fun x => ev f (c x)) = .nx ρ' (atJ G j fun x => ev f (acts c rs x)) ∧ Ag [7] ρ ρ'
  | [], ρ, c, _, _, _ => ⟨ρ, forL_nil (hck _), .refl⟩
  | r :: rs, ρ, c, hl, h6, hb => by
    have e1 := rw_row (ρ := ρ.set 7 (some (.d (rowD r)))) (G := G) (h := fun x => ev f (c x)) (r := r) (by rw [List.getElem?_set_ne (by decide)]; exact h6) (set_at (by rw [hl]; decide)) hj (hb r (by simp))
    rw [ev_act] at e1
    obtain ⟨ρ', e, ag⟩ := rw_for hck hj rs (ρ.set 7 (some (.d (rowD r)))) (act c r) (by rw [List.length_set]; exact hl) (by rw [List.getElem?_set_ne (by decide)]; exact h6) fun x hx => hb x (List.mem_cons_of_mem _ hx)
    exact ⟨ρ', (forL_t (hck _) rfl e1).trans e, (Ag.set (by simp)).trans ag⟩
/-! ### what is due -/
theorem du_row {ρ : GEnv} {G : Hg} {j : Nat} {f h : Int → Bool} {p : Int × S Bool} (h5 : ρ[5]? = some (some (.d (.dic false (tbD f))))) (h8 : ρ[8]? = some (some (.ref j))) (h9 : ρ[9]? = some (some (.d (.int p.1)))) (h10 : ρ[10]? = some (some (.d (sD p.2)))) (hj : j < G.length) (hb : Bd p.1 ∧ ∀ k, p.2 = .inl k → Bd k) :
    fb1__law_rows_right ρ (atJ G j h) = .nx ρ (atJ G j (put h p.1 (ev f p.2))) := by
  unfold fb1__law_rows_right
  refine asb_ok (v := .d (.bl (ev f p.2))) (G1 := atJ G j h) ?_ (v_ok h8) (v_ok (w := .d (kD (.inl p.1))) h9) (st_ok hj hb.1)
  cases q : p.2 with
  | inl k =>
    rw [q] at h10
    have t : gTst (gIsc k_str (gVar 10)) ρ (atJ G j h) = .ok false (atJ G j h) := by
      refine ts_ok ?_
      unfold gIsc
      rw [v_ok h10, bind_ok]
      rfl
    exact (ie_f t).trans (b_ok (v_ok h5) (v_ok h10) (ixDic_ok (q := .inl k) tb_dic (tb_get (hb.2 k q))))
  | inr b =>
    rw [q] at h10
    have t : gTst (gIsc k_str (gVar 10)) ρ (atJ G j h) = .ok true (atJ G j h) := by
      refine ts_ok ?_
      unfold gIsc
      rw [v_ok h10, bind_ok]
      rfl
    refine (ie_t t).trans (b_ok (v_ok (w := .d (.str (tS b))) h10) c_ok ?_)
    rw [Gh.eq_str]
    cases b <;> rfl
theorem du_for {ck : Hg → Bool} (hck : ∀ G, ck G = true) {G : Hg} {j : Nat} (hj : j < G.length) {f : Int → Bool} : ∀ (ws : Wr Bool) (ρ : GEnv) (c : Int → S Bool), ρ.length = 11 → ρ[5]? = some (some (.d (.dic false (tbD f)))) → ρ[8]? = some (some (.ref j)) → (∀ p ∈ ws, Bd p.1 ∧ ∀ k, p.2 = .inl k → Bd k) → ∃ ρ', forL (gTp [gNm 9, gNm 10]) fb1__law_rows_right ck ((ws.map wD).map .d) ρ (atJ G j fun x => ev f (c x)) = .nx ρ' (atJ G j fun x => ev f (target ws c x)) ∧ Ag [9, 10] ρ ρ'
  | [], ρ, c, _, _, _, _ => ⟨ρ, forL_nil (hck _), .refl⟩
  | p :: ws, ρ, c, hl, h5, h8, hb => by
    let ρ1 : GEnv := (ρ.set 9 (some (.d (.int p.1)))).set 10 (some (.d (sD p.2)))
    have o : ∀ {i : Nat} {x : Option W}, ρ[i]? = some x → i ≠ 9 → i ≠ 10 → ρ1[i]? = some x := fun {i x} h a b => by
      show ((ρ.set 9 _).set 10 _)[i]? = _
      rw [List.getElem?_set_ne (Ne.symm b), List.getElem?_set_ne (Ne.symm a)]; exact h
    have l1 : ρ1.length = 11 := by show ((ρ.set 9 _).set 10 _).length = 11; simp [hl]
    have e1 := du_row (ρ := ρ1) (G := G) (f := f) (h := fun x => ev f (c x)) (p := p) (o h5 (by decide) (by decide)) (o h8 (by decide) (by decide)) (by show ((ρ.set 9 _).set 10 _)[9]? = _; rw [List.getElem?_set_ne (by decide)]; exact set_at (by rw [hl]; decide)) (set_at (by simp [hl])) hj (hb p (by simp))
    rw [← ev_put] at e1
    obtain ⟨ρ', e, ag⟩ := du_for hck hj ws ρ1 (put c p.1 p.2) l1 (o h5 (by decide) (by decide)) (o h8 (by decide) (by decide)) fun x hx => hb x (List.mem_cons_of_mem _ hx)
    exact ⟨ρ', (forL_t (hck _) (ρ1 := ρ1) (G1 := atJ G j fun x => ev f (c x)) rfl e1).trans e, (show Ag [9, 10] ρ ρ1 from (Ag.set (by simp)).trans (Ag.set (by simp))).trans ag⟩
/-! ### a turn of the check -/
theorem nil_ne {ρ : GEnv} {G : Hg} {a : GE} (h : a ρ G = .ok (.d (.lst [])) G) : gTst (gBin (fEqS true) a (gLst (gNilA))) ρ G = .ok false G := by
  refine ts_ok (b_ok h (ls_ok (ds := []) n_ok rfl rfl) ?_)
  exact Sq.neNil_ints (ns := [])
theorem rr_turn {i : Nat} {ρ : GEnv} {G : Hg} {ws : Wr Bool} {sp : Int} {rs : List (Row Bool)} (hs : SrcAt i G) (ok : Ok ws sp) (rb : ∀ r ∈ rs, RowB r) (st : ∀ m, m ≠ sp → acts Sum.inl rs m = target ws Sum.inl m) (hl : ρ.length = 11) (h0 : ρ[0]? = some (some (.ref i))) (h1 : ρ[1]? = some (some (.d (.lst (ws.map wD))))) (h2 : ρ[2]? = some (some (.d (.int sp)))) (h3 : ρ[3]? = some (some (.d (.lst (rs.map rowD))))) :
    ∃ ρ' G', fb2__law_rows_right ρ G = .nx ρ' G' ∧ Ag [5, 6, 7, 8, 9, 10] ρ ρ' ∧ SrcAt i G' ∧ Fr [i] G G' := by
  obtain ⟨f, G1, e1, s1, f1⟩ := draw_comp hs hl h0
  have il := s1.lt
  have p1 := as_ok (k := 5) (tb_dict (a := fun ρ G => (gLcW (gRng1 (gConsA (gC (.int 40)) (gNilA))) [9] (gNm 9) (gYes) (le0__law_rows_right) ρ G).bind finT) e1)
  let ρ1 : GEnv := ρ.set 5 (some (.d (.dic false (tbD f))))
  have a1 : Ag [5] ρ ρ1 := .set (by simp)
  have r5 : ρ1[5]? = some (some (.d (.dic false (tbD f)))) := set_at (by rw [hl]; decide)
  have p2 := as_ok (k := 6) (tb_dictN (ρ := ρ1) (G := G1) (v_ok r5))
  let ρ2 : GEnv := ρ1.set 6 (some (.ref G1.length))
  have a2 : Ag [6] ρ1 ρ2 := .set (by simp)
  let G2 : Hg := G1 ++ [.dic false (rep (tb f))]
  have g2 : G2 = atJ G2 G1.length fun x => ev f (Sum.inl x) := by
    show _ = G2.set G1.length (.dic false (rep (tb f)))
    exact List.ext_getElem? fun k => by
      rw [List.getElem?_set]
      by_cases e : G1.length = k
      · subst e
        rw [if_pos rfl, if_pos (by simp [G2])]
        show (G1 ++ [_])[G1.length]? = _
        rw [List.getElem?_append_right (Nat.le_refl _), Nat.sub_self]; rfl
      · rw [if_neg e]
  have l2 : G1.length < G2.length := by simp [G2]
  obtain ⟨ρ3, e3, a3⟩ := rw_for (ck := ckW (.d (.lst (rs.map rowD))) ((rs.map rowD).map .d)) (fun _ => rfl) (G := G2) (j := G1.length) l2 (f := f) rs ρ2 Sum.inl (by show ((ρ.set 5 _).set 6 _).length = 11; simp [hl]) (set_at (by show 6 < (ρ.set 5 _).length; rw [List.length_set, hl]; decide)) rb
  rw [← g2] at e3
  have p3 : gFor (gSeqI (gVar 3)) (gNm 7) (fb0__law_rows_right) ρ2 G2 = .nx ρ3 (atJ G2 G1.length fun x => ev f (acts Sum.inl rs x)) := by
    rw [e_for, e_seqI (v_ok (w := .d (.lst (rs.map rowD))) (a2.at (a1.at h3))) (b := true) rfl, toS_ok]
    exact e3
  let G3 : Hg := atJ G2 G1.length fun x => ev f (acts Sum.inl rs x)
  have len3 : G3.length = G1.length + 1 := by show (G2.set _ _).length = _; simp [G2]
  have p4 := as_ok (k := 8) (tb_dictN (ρ := ρ3) (G := G3) (v_ok (a3.at (a2.at r5))))
  let ρ4 : GEnv := ρ3.set 8 (some (.ref G3.length))
  have a4 : Ag [8] ρ3 ρ4 := .set (by simp)
  let G4 : Hg := G3 ++ [.dic false (rep (tb f))]
  have g4 : G4 = atJ G4 G3.length fun x => ev f (Sum.inl x) := by
    show _ = G4.set G3.length (.dic false (rep (tb f)))
    exact List.ext_getElem? fun k => by
      rw [List.getElem?_set]
      by_cases e : G3.length = k
      · subst e
        rw [if_pos rfl, if_pos (by simp [G4])]
        show (G3 ++ [_])[G3.length]? = _
        rw [List.getElem?_append_right (Nat.le_refl _), Nat.sub_self]; rfl
      · rw [if_neg e]
  have l4 : G3.length < G4.length := by simp [G4]
  have hl3 : ρ3.length = 11 := by rw [a3.le, a2.le, a1.le, hl]
  have hl4 : ρ4.length = 11 := by rw [a4.le, hl3]
  have r48 : ρ4[8]? = some (some (.ref G3.length)) := set_at (by rw [hl3]; decide)
  obtain ⟨ρ5, e5, a5⟩ := du_for (ck := ckW (.d (.lst (ws.map wD))) ((ws.map wD).map .d)) (fun _ => rfl) (G := G4) (j := G3.length) l4 (f := f) ws ρ4 Sum.inl hl4 (a4.at (a3.at (a2.at r5))) r48 ok.b
  rw [← g4] at e5
  have p5 : gFor (gSeqI (gVar 1)) (gTp [gNm 9, gNm 10]) (fb1__law_rows_right) ρ4 G4 = .nx ρ5 (atJ G4 G3.length fun x => ev f (target ws Sum.inl x)) := by
    rw [e_for, e_seqI (v_ok (w := .d (.lst (ws.map wD))) (a4.at (a3.at (a2.at (a1.at h1))))) (b := true) rfl, toS_ok]
    exact e5
  let hd : Int → Bool := fun x => ev f (target ws Sum.inl x)
  let hr : Int → Bool := fun x => ev f (acts Sum.inl rs x)
  let G5 : Hg := atJ G4 G3.length hd
  have r58 : ρ5[8]? = some (some (.ref G3.length)) := a5.at r48
  have r56 : ρ5[6]? = some (some (.ref G1.length)) := a5.at (a4.at (a3.at (set_at (by show 6 < (ρ.set 5 _).length; rw [List.length_set, hl]; decide))))
  have r52 : ρ5[2]? = some (some (.d (.int sp))) := a5.at (a4.at (a3.at (a2.at (a1.at h2))))
  have hl5 : ρ5.length = 11 := by rw [a5.le, hl4]
  have g58 : G5[G3.length]? = some (.dic false (rep (tb hd))) := atJ_at l4
  let GL : Hg := G5.set G3.length (.lkd false (rep (tb hd)))
  have gl8 : GL[G3.length]? = some (.lkd false (rep (tb hd))) := List.getElem?_set_self (List.getElem?_eq_some_iff.mp g58).1
  have gl6 : GL[G1.length]? = some (.dic false (rep (tb hr))) := by
    show ((G4.set G3.length _).set G3.length _)[G1.length]? = _
    rw [List.getElem?_set_ne (by omega), List.getElem?_set_ne (by omega)]
    show (G3 ++ [_])[G1.length]? = _
    rw [List.getElem?_append_left (by omega)]
    exact atJ_at l2
  have ce : (fun ρ G => (gLcW (gDicI .keys (gVar 8)) [9] (gNm 9) (lt0__law_rows_right) (le1__law_rows_right) ρ G).bind finT : GE) ρ5 GL = .ok (.d (.lst [])) GL := by
    have lc := lcL_on (G := GL) (t := gNm 9) (tt := lt0__law_rows_right) (e := le1__law_rows_right) (ck := fun _ => true) (ρ0 := wipeG ρ5 [9]) (fun _ => none) rfl ((List.range 40).map fun (n : Nat) => W.d (.int (n : Int))) [] (fun w hw => by
      obtain ⟨n, hn, rfl⟩ := List.mem_map.mp hw
      have hn' := List.mem_range.mp hn
      have bd : Bd (n : Int) := ⟨by omega, by omega⟩
      let ρ6 : GEnv := (wipeG ρ5 [9]).set 9 (some (.d (.int (n : Int))))
      have r9 : ρ6[9]? = some (some (.d (.int (n : Int)))) := set_at (by show 9 < (ρ5.set 9 none).length; rw [List.length_set, hl5]; decide)
      have o : ∀ {k : Nat} {x : Option W}, ρ5[k]? = some x → k ≠ 9 → ρ6[k]? = some x := fun {k x} h a => by
        show ((ρ5.set 9 none).set 9 _)[k]? = _
        rw [List.getElem?_set_ne (Ne.symm a), List.getElem?_set_ne (Ne.symm a)]; exact h
      refine ⟨ρ6, rfl, .inl ⟨rfl, ?_⟩⟩
      have t1 : gTst (gBin (fEqS true) (gVar 9) (gVar 2)) ρ6 GL = .ok (!decide ((n : Int) = sp)) GL := by
        refine ts_ok (b_ok (v_ok r9) (v_ok (o r52 (by decide))) ?_)
        rw [eq_ok (okD_E okE_int) (okD_E okE_int) (fun _ z => by cases z) (fun _ z => by cases z) (fun _ _ z => by cases z.1), eqD_int, Bool.true_xor]
        rfl
      by_cases c : (n : Int) = sp
      · rw [decide_eq_true c] at t1
        exact an_f t1
      · rw [decide_eq_false c] at t1
        refine (an_t t1).trans ?_
        refine ts_ok (b_ok (x := .d (.bl (hr n))) (y := .d (.bl (hd n))) (b_ok (v_ok (o r56 (by decide))) (v_ok r9) (ixDic_ok (q := .inl (n : Int)) (dic_w gl6) (tb_get bd))) (b_ok (v_ok (o r58 (by decide))) (v_ok r9) (ixDic_ok (q := .inl (n : Int)) (dic_lk gl8) (tb_get bd))) ?_)
        have e : hr n = hd n := by show ev f (acts Sum.inl rs n) = ev f (target ws Sum.inl n); rw [st n c]
        rw [e, eq_ok (okD_E okE_bl) (okD_E okE_bl) (fun _ z => by cases z) (fun _ z => by cases z) (fun _ _ z => by cases z.1), eqD_bl]
        simp) (by simp)
    have fm : ((List.range 40).map fun (n : Nat) => W.d (.int (n : Int))).filterMap (fun _ => (none : Option W)) = [] := by simp
    rw [fm] at lc
    show (gLcW _ _ _ _ _ _ _).bind finT = _
    unfold gLcW
    rw [di_ok (kd := .keys) (v_ok r58) gl8, bind_ok]
    have ks : DicK.keys.of (rep (tb hd)) = (List.range 40).map fun (n : Nat) => W.d (.int (n : Int)) := by
      unfold DicK.of rep tb
      simp only [List.map_map]
      rfl
    rw [ks, lc, bind_ok]
    rfl
  have p6 : gLock 8 (gIf (gTst (gBin (fEqS true) (fun ρ G => (gLcW (gDicI .keys (gVar 8)) [9] (gNm 9) (lt0__law_rows_right) (le1__law_rows_right) ρ G).bind finT) (gLst (gNilA)))) (gRet (gC (.bl false))) (gNil)) ρ5 G5 = .nx ρ5 (GL.set G3.length (.dic false (rep (tb hd)))) :=
    lk_ok r58 g58 ((if_f (nil_ne ce)).trans nl_ok) gl8
  have F2 : Fr [] G1 G2 := .app
  have F3 : Fr [G1.length] G2 G3 := .set (by simp)
  have F4 : Fr [] G3 G4 := .app
  have F5 : Fr [G3.length] G4 G5 := .set (by simp)
  have ge : GL.set G3.length (.dic false (rep (tb hd))) = G5 := set_back g58
  rw [ge] at p6
  have FF : Fr [G1.length, G3.length] G1 G5 := (F2.mono (m' := [G1.length, G3.length]) (by simp)).trans ((F3.mono (by simp)).trans ((F4.mono (m' := [G1.length, G3.length]) (by simp)).trans (F5.mono (by simp))))
  have FE : Fr [] G1 G5 := FF.newOnly fun k hk => by
    simp only [List.mem_cons, List.not_mem_nil, or_false] at hk
    rcases hk with z | z
    · exact .inr (by rw [z]; exact Nat.le_refl _)
    · exact .inr (by rw [z]; omega)
  refine ⟨ρ5, G5, ?_, ?_, s1.fr FE (by simp), f1.trans (FE.mono (by simp))⟩
  · unfold fb2__law_rows_right
    exact (sq_nx p1).trans ((sq_nx p2).trans ((sq_nx p3).trans ((sq_nx p4).trans ((sq_nx p5).trans p6))))
  · exact (a1.mono (by simp)).trans ((a2.mono (by simp)).trans ((a3.mono (by simp)).trans ((a4.mono (by simp)).trans (a5.mono (by simp)))))
end K94

set_option Elab.async false
set_option linter.all false
set_option maxRecDepth 100000
set_option maxHeartbeats 8000000
namespace K94
open PySem PySem.Spec PyProof.Rows L2 Gh
open Sq (S Wr keys vals wD sD sK tS rowsA repL chg Pos Reach InCyc Iso Reps Pth Cyc Row rowD Go put act acts rowOf)
theorem cut_fr {i : Nat} {G G' : Hg} {d : D} (hi : i < G.length) (hs : SrcAt i G') (f : Fr [i] G G') : ∃ G'', endS G.length (.d d) G' = .ok (.d d) G'' ∧ SrcAt i G'' ∧ Fr [i] G G'' := by
  unfold endS
  rw [if_pos (show belowW G.length (.d d) = true by simp [belowW])]
  unfold cutG
  by_cases c : (G'.take G.length).all (belowO G.length) = true
  · rw [if_pos c]
    obtain ⟨src, h1, h2, h3⟩ := hs
    have at_ : ∀ j, j < G.length → (G'.take G.length)[j]? = G'[j]? := fun j hj => by rw [List.getElem?_take, if_pos hj]
    have nl : NoL (G'.take G.length) := by
      have e : (G'.take G.length ++ G'.drop G.length).any GO.isL = false := by rw [List.take_append_drop]; exact h3
      rw [List.any_append, Bool.or_eq_false_iff] at e
      exact e.1
    exact ⟨_, rfl, ⟨src, (at_ i hi).trans h1, h2, nl⟩, ⟨by rw [List.length_take]; have := f.le; omega, fun j h4 h5 => (at_ j h4).trans (f.eq j h4 h5), fun _ => nl⟩⟩
  · rw [if_neg c]
    exact ⟨_, rfl, hs, f⟩
theorem rr_ok {i : Nat} {G : Hg} {ws : Wr Bool} {sp : Int} {rs : List (Row Bool)} (hs : SrcAt i G) (ok : Ok ws sp) (rb : ∀ r ∈ rs, RowB r) (st : ∀ m, m ≠ sp → acts Sum.inl rs m = target ws Sum.inl m) :
    ∃ G', f__law_rows_right [.ref i, .d (.lst (ws.map wD)), .d (.int sp), .d (.lst (rs.map rowD))] G = .ok (.d (.bl true)) G' ∧ SrcAt i G' ∧ Fr [i] G G' := by
  let e0 : GEnv := [some (.ref i), some (.d (.lst (ws.map wD))), some (.d (.int sp)), some (.d (.lst (rs.map rowD))), none, none, none, none, none, none, none]
  obtain ⟨ρ', G', e, l', r0, r1, r2, r3, s', f'⟩ := forL_inv (t := gNm 4) (b := fb2__law_rows_right) (ck := fun _ => true) (I := fun ρ' G' => ρ'.length = 11 ∧ ρ'[0]? = some (some (.ref i)) ∧ ρ'[1]? = some (some (.d (.lst (ws.map wD)))) ∧ ρ'[2]? = some (some (.d (.int sp))) ∧ ρ'[3]? = some (some (.d (.lst (rs.map rowD)))) ∧ SrcAt i G' ∧ Fr [i] G G') (P := fun _ => True) (fun _ _ _ => rfl) (fun w ρ1 G1 _ ⟨l1, q0, q1, q2, q3, s1, f1⟩ => by
    have o : ∀ {k : Nat} {x : Option W}, ρ1[k]? = some x → k ≠ 4 → (ρ1.set 4 (some w))[k]? = some x := fun h n => by rw [List.getElem?_set_ne (Ne.symm n)]; exact h
    obtain ⟨ρ', G', e, ag, s2, f2⟩ := rr_turn (ρ := ρ1.set 4 (some w)) s1 ok rb st (by rw [List.length_set]; exact l1) (o q0 (by decide)) (o q1 (by decide)) (o q2 (by decide)) (o q3 (by decide))
    exact ⟨ρ1.set 4 (some w), G1, ρ', G', rfl, e, by rw [ag.le, List.length_set]; exact l1, ag.at (o q0 (by decide)), ag.at (o q1 (by decide)), ag.at (o q2 (by decide)), ag.at (o q3 (by decide)), s2, f1.trans f2⟩) (rangeW 0 4) e0 G (fun _ _ => trivial) ⟨rfl, rfl, rfl, rfl, rfl, hs, .refl⟩
  have key : g__law_rows_right e0 G = .ret (.d (.bl true)) G' := by
    have z : gFor (gRng1 (gConsA (gC (.int 4)) (gNilA))) (gNm 4) (fb2__law_rows_right) e0 G = .nx ρ' G' := by
      have rg : gRng1 (gConsA (gC (.int 4)) (gNilA)) e0 G = .ok (rangeW 0 4, fun _ => true) G := rfl
      rw [e_for, rg, toS_ok]
      exact e
    exact (sq_nx z).trans (re_ok c_ok)
  have ee : envS 11 [.ref i, .d (.lst (ws.map wD)), .d (.int sp), .d (.lst (rs.map rowD))] = e0 := rfl
  obtain ⟨G'', z1, z2, z3⟩ := cut_fr (d := .bl true) hs.lt s' f'
  refine ⟨G'', ?_, z2, z3⟩
  show runS 11 g__law_rows_right _ _ = _
  unfold runS
  rw [ee, key]
  exact z1
/-! ### the drawn writes -/
theorem lcL_t {t : GTg} {tt : GT} {e : GE} {ck : Hg → Bool} {ρ0 ρ' : GEnv} {w z : W} {ws acc : List W} {G G1 G2 G3 : Hg} (hck : ck G = true) (ht : t w ρ0 G = some (ρ', G1)) (htt : tt ρ' G1 = .ok true G2) (he : e ρ' G2 = .ok z G3) (hl : acc.length < 16777216) : lcL t tt e ck ρ0 (w :: ws) acc G = lcL t tt e ck ρ0 ws (acc ++ [z]) G3 := by
  conv => lhs; unfold lcL
  rw [if_pos hck, ht]
  simp only [htt, he]
  rw [if_pos (Nat.blt_eq.mpr hl)]
/-- marks are taken off the end -/
theorem pop_ok {G : Hg} {i : Nat} {p : List Int} {a : Int} (h : G[i]? = some (.lst (iw (p ++ [a])))) : fPop (.ref i) [] G = some (.d (.int a), G.set i (.lst (iw p))) := by
  unfold fPop getL
  simp only [h]
  rw [← iw_snoc]
  simp
theorem pops_ok {ρ : GEnv} {G : Hg} {l : Nat} (hl : ρ.length = 8) (h2 : ρ[2]? = some (some (.ref l))) (ll : l < G.length) : ∀ (us : List W) (p q : List Int) (acc : List W), q.length = us.length → acc.length + us.length < 1000 →
    lcL (gNm 6) gYes le0__law_writes (fun _ => true) ρ us acc (G.set l (.lst (iw (p ++ q.reverse)))) = .ok (acc ++ iw q) (G.set l (.lst (iw p)))
  | [], p, q, acc, hq, _ => by
    have : q = [] := List.eq_nil_of_length_eq_zero hq
    subst this
    unfold lcL
    simp [iw]
  | u :: us, p, [], acc, hq, _ => by simp at hq
  | u :: us, p, a :: q, acc, hq, hn => by
    simp only [List.length_cons] at hq hn
    have gl : ∀ x, (G.set l x)[l]? = some x := fun x => List.getElem?_set_self ll
    have e : le0__law_writes (ρ.set 6 (some u)) (G.set l (.lst (iw (p ++ (a :: q).reverse)))) = .ok (.d (.int a)) (G.set l (.lst (iw (p ++ q.reverse)))) := by
      have e1 := pop_ok (G := G.set l (.lst (iw (p ++ (a :: q).reverse)))) (i := l) (p := p ++ q.reverse) (a := a) (by rw [gl, List.reverse_cons, List.append_assoc])
      rw [List.set_set] at e1
      exact mt_ok (v_ok (by rw [List.getElem?_set_ne (by decide)]; exact h2)) (ty_lst (gl _)) (noDic_lst (gl _)) n_ok e1
    refine (lcL_t rfl rfl rfl e (by omega)).trans ?_
    rw [pops_ok hl h2 ll us p q (acc ++ [W.d (.int a)]) (by omega) (by rw [List.length_append]; simp only [List.length_cons, List.length_nil]; omega), List.append_assoc]
    rfl
theorem part_ok {ρ : GEnv} {G : Hg} {i l : Nat} {p : List Int} (hs : SrcAt i G) (hil : i ≠ l) (hl : ρ.length = 8) (h0 : ρ[0]? = some (some (.ref i))) (h2 : ρ[2]? = some (some (.ref l))) (gl : G[l]? = some (.lst (iw p))) (hp : p ≠ []) (hn : p.length < 500) :
    ∃ p' q G', q ≠ [] ∧ p = p' ++ q.reverse ∧ (fun ρ G => (gLcW (gRng1 (gConsA (gCall fMin2 (gConsA (gCall fLenD (gConsA (gVar 2) (gNilA))) (gConsA (gBin fAdd (gC (.int 1)) (gFnS 2 f__law_next (gConsA (gVar 0) (gConsA (gC (.int 4)) (gNilA))))) (gNilA)))) (gNilA))) [6] (gNm 6) (gYes) (le0__law_writes) ρ G).bind finT : GE) ρ G = .ok (.d (.lst (q.map .int))) G' ∧ SrcAt i G' ∧ Fr [i, l] G G' ∧ G'[l]? = some (.lst (iw p')) := by
  obtain ⟨r, G1, r0, r1, er, s1, f1⟩ := hs.next (m := 4) (by decide) (by decide)
  have gl1 : G1[l]? = some (.lst (iw p)) := f1.at gl (by simp [Ne.symm hil])
  have ll : l < G1.length := (List.getElem?_eq_some_iff.mp gl1).1
  have lp : 0 < p.length := List.length_pos_iff.mpr hp
  obtain ⟨k, hk⟩ : ∃ k : Nat, (if 1 + r < ((iw p).length : Nat) then 1 + r else (((iw p).length : Nat) : Int)) = (k : Int) ∧ 0 < k ∧ k ≤ p.length := by
    rw [iw_len]
    split
    · exact ⟨(1 + r).toNat, by omega, by omega, by omega⟩
    · exact ⟨p.length, rfl, lp, Nat.le_refl _⟩
  have rg : gRng1 (gConsA (gCall fMin2 (gConsA (gCall fLenD (gConsA (gVar 2) (gNilA))) (gConsA (gBin fAdd (gC (.int 1)) (gFnS 2 f__law_next (gConsA (gVar 0) (gConsA (gC (.int 4)) (gNilA))))) (gNilA)))) (gNilA)) ρ G = .ok (rangeW 0 k, fun _ => true) G1 := by
    have e : gConsA (gCall fMin2 (gConsA (gCall fLenD (gConsA (gVar 2) (gNilA))) (gConsA (gBin fAdd (gC (.int 1)) (gFnS 2 f__law_next (gConsA (gVar 0) (gConsA (gC (.int 4)) (gNilA))))) (gNilA)))) (gNilA) ρ G = .ok [.d (.int (k : Int))] G1 := by
      refine a_ok (cl_ok (a_ok (cl_ok (a_ok (v_ok h2) n_ok) (lenR_ok gl)) (a_ok (b_ok c_ok (fs_ok (a_ok (v_ok h0) (a_ok c_ok n_ok)) rfl er) e_add) n_ok)) ?_) n_ok
      rw [← hk.1]
      rfl
    have ft : fit62 (k : Int) = true := by unfold fit62; simp only [Bool.and_eq_true, decide_eq_true_eq]; omega
    unfold gRng1
    rw [e, bind_ok]
    simp only [ft, if_true]
    rfl
  let q : List Int := (p.drop (p.length - k)).reverse
  have pe : p = p.take (p.length - k) ++ q.reverse := by show _ = _ ++ (p.drop (p.length - k)).reverse.reverse; rw [List.reverse_reverse, List.take_append_drop]
  have ql : q.length = k := by show (p.drop (p.length - k)).reverse.length = k; rw [List.length_reverse, List.length_drop]; omega
  have l0 : (wipeG ρ [6]).length = 8 := by show (ρ.set 6 none).length = 8; rw [List.length_set, hl]
  have lc := pops_ok (ρ := wipeG ρ [6]) (G := G1) (l := l) l0 (by show (ρ.set 6 none)[2]? = _; rw [List.getElem?_set_ne (by decide)]; exact h2) ll (rangeW 0 k) (p.take (p.length - k)) q [] (by rw [ql]; simp [rangeW]) (by simp [rangeW]; omega)
  have gs : G1.set l (.lst (iw (p.take (p.length - k) ++ q.reverse))) = G1 := by
    rw [← pe]
    exact List.ext_getElem? fun j => by
      rw [List.getElem?_set]
      by_cases e : l = j
      · subst e; rw [if_pos rfl, gl1]; simp [ll]
      · rw [if_neg e]
  rw [gs, List.nil_append] at lc
  have f2 : Fr [l] G1 (G1.set l (.lst (iw (p.take (p.length - k))))) := .set (by simp)
  refine ⟨p.take (p.length - k), q, G1.set l (.lst (iw (p.take (p.length - k)))), fun z => by rw [z] at ql; simp at ql; omega, pe, ?_, s1.fr f2 (by simp [hil]), (f1.mono (by simp)).trans (f2.mono (by simp)), List.getElem?_set_self ll⟩
  show (gLcW _ _ _ _ _ _ _).bind finT = _
  unfold gLcW
  rw [rg, bind_ok, lc, bind_ok]
  unfold finT iw
  rw [mkLst_d]
end K94

set_option Elab.async false
set_option linter.all false
set_option maxRecDepth 100000
set_option maxHeartbeats 8000000
namespace K94
open PySem PySem.Spec PyProof.Rows L2 Gh
open Sq (S Wr keys vals wD sD sK tS rowsA repL chg Pos Reach InCyc Iso Reps Pth Cyc Row rowD Go put act acts rowOf)
/-- a source that may be drawn -/
def SM (marks : List Int) (s : S Bool) : Prop := ∀ k, s = .inl k → k ∈ marks
theorem xt_ok {ρ : GEnv} {G G1 : Hg} {a : GE} {f : Nat} {ds : List D} {us ws : List W} (h3 : ρ[3]? = some (some (.ref f))) (hf0 : G[f]? = some (.lst us)) (ha : a ρ G = .ok (.d (.lst ds)) G1) (hf : G1[f]? = some (.lst ws)) (hl : ws.length + ds.length < 1000) :
    gExpr (gMt .lst fExtend (gVar 3) (gConsA a (gNilA))) ρ G = .nx ρ (G1.set f (.lst (ws ++ ds.map .d))) := by
  refine ex_ok (w := .d .non) (mt_ok (v_ok h3) (ty_lst hf0) (noDic_lst hf0) (a_ok ha n_ok) ?_)
  have sm : small (ws.length + (ds.map W.d).length) = true := Nat.ble_eq.mpr (by rw [List.length_map]; omega)
  have sq : seqW (.d (.lst ds)) G1 = some (true, ds.map .d) := rfl
  unfold fExtend getL
  simp only [hf, sq, sm, if_true]
theorem paired_w {marks : List Int} : ∀ {q : List Int} {zs : List W}, Paired (fun w z => ∃ (m : Int) (s : S Bool), w = W.d (.int m) ∧ z = W.d (wD (m, s)) ∧ SM marks s) (iw q) zs → ∃ new : Wr Bool, zs = (new.map wD).map .d ∧ keys new = q ∧ ∀ p ∈ new, SM marks p.2
  | [], zs, h => by cases h; exact ⟨[], rfl, rfl, fun _ h => by cases h⟩
  | n :: q, zs, h => by
    have h' : Paired (fun w z => ∃ (m : Int) (s : S Bool), w = W.d (.int m) ∧ z = W.d (wD (m, s)) ∧ SM marks s) (W.d (.int n) :: iw q) zs := h
    cases h' with
    | cons h1 h2 =>
      obtain ⟨new, rfl, e, a⟩ := paired_w h2
      obtain ⟨m, s, e1, rfl, sm⟩ := h1
      injection e1 with e1
      injection e1 with e1
      subst e1
      refine ⟨(n, s) :: new, rfl, by show n :: keys new = _; rw [e], fun p hp => ?_⟩
      rcases List.mem_cons.mp hp with rfl | hp
      · exact sm
      · exact a p hp
theorem draw_srcs {el : GE} {i : Nat} {marks q : List Int} {ρ : GEnv} {G : Hg} (hel : ∀ (ρ1 : GEnv) (G1 : Hg) (m : Int), ρ1[0]? = some (some (.ref i)) → ρ1[1]? = some (some (.d (.lst (marks.map .int)))) → ρ1[7]? = some (some (.d (.int m))) → SrcAt i G1 → ∃ s G2, el ρ1 G1 = .ok (.d (wD (m, s))) G2 ∧ SrcAt i G2 ∧ Fr [i] G1 G2 ∧ SM marks s)
    (hs : SrcAt i G) (hl : ρ.length = 8) (h0 : ρ[0]? = some (some (.ref i))) (h1 : ρ[1]? = some (some (.d (.lst (marks.map .int))))) (h4 : ρ[4]? = some (some (.d (.lst (q.map .int))))) (hq : q.length < 500) :
    ∃ (new : Wr Bool) (G' : Hg), (gLcW (gSeqI (gVar 4)) [7] (gNm 7) gYes el ρ G).bind finT = .ok (.d (.lst (new.map wD))) G' ∧ SrcAt i G' ∧ Fr [i] G G' ∧ keys new = q ∧ ∀ p ∈ new, SM marks p.2 := by
  obtain ⟨zs, G', e, pr, s', fr⟩ := lcL_inv (t := gNm 7) (tt := gYes) (e := el) (ck := ckW (.d (.lst (q.map .int))) (iw q)) (ρ0 := wipeG ρ [7]) (I := fun G' => SrcAt i G' ∧ Fr [i] G G') (P := fun w => ∃ k : Int, w = .d (.int k)) (R := fun w z => ∃ (m : Int) (s : S Bool), w = W.d (.int m) ∧ z = W.d (wD (m, s)) ∧ SM marks s) (fun _ _ => rfl) (fun w G1 hw ⟨s1, f1⟩ => by
    obtain ⟨k, rfl⟩ := hw
    let ρ1 : GEnv := (wipeG ρ [7]).set 7 (some (.d (.int k)))
    have o : ∀ {k : Nat} {x : Option W}, ρ[k]? = some x → k ≠ 7 → ρ1[k]? = some x := fun {k x} h a => by
      show ((ρ.set 7 none).set 7 _)[k]? = _
      rw [List.getElem?_set_ne (Ne.symm a), List.getElem?_set_ne (Ne.symm a)]; exact h
    obtain ⟨s, G2, e, s2, f2, sm⟩ := hel ρ1 G1 k (o h0 (by decide)) (o h1 (by decide)) (set_at (by show 7 < (ρ.set 7 none).length; rw [List.length_set, hl]; decide)) s1
    exact ⟨ρ1, _, G2, rfl, rfl, e, ⟨k, s, rfl, rfl, sm⟩, s2, f1.trans f2⟩) (iw q) [] G (fun w hw => by
    obtain ⟨d, hd, rfl⟩ := List.mem_map.mp hw
    obtain ⟨n, _, rfl⟩ := List.mem_map.mp hd
    exact ⟨_, rfl⟩) ⟨hs, .refl⟩ (by rw [iw_len]; simp only [List.length_nil]; omega)
  obtain ⟨new, rfl, kn, sm⟩ := paired_w pr
  refine ⟨new, G', ?_, s', fr, kn, sm⟩
  unfold gLcW
  rw [e_seqI (v_ok h4) (b := true) (ws := iw q) rfl, bind_ok, e, bind_ok, List.nil_append]
  unfold finT
  rw [mkLst_d]
/-! ### pairs of marks -/
def zw : List Int → List Int → Wr Bool
  | x :: r, y :: s => (x, .inl y) :: zw r s
  | _, _ => []
theorem zw_D : ∀ a b : List Int, zipD (a.map .int) (b.map .int) = (zw a b).map wD
  | [], b => by unfold zw; rfl
  | x :: a, [] => rfl
  | x :: a, y :: b => by
    show D.tup [.int x, .int y] :: zipD (a.map .int) (b.map .int) = wD (x, .inl y) :: (zw a b).map wD
    rw [zw_D a b]; rfl
theorem zw_keys : ∀ a b : List Int, (keys (zw a b)).Sublist a
  | [], b => by unfold zw; exact List.Sublist.refl _
  | x :: a, [] => List.nil_sublist _
  | x :: a, y :: b => (zw_keys a b).cons₂ x
theorem zw_src : ∀ (a b : List Int), ∀ p ∈ zw a b, ∀ k, p.2 = .inl k → k ∈ b
  | [], b, p, h, k, e => by unfold zw at h; cases h
  | x :: a, [], p, h, k, e => by cases h
  | x :: a, y :: b, p, h, k, e => by
    have h' : p ∈ (x, .inl y) :: zw a b := h
    rcases List.mem_cons.mp h' with rfl | h'
    · injection e with e
      rw [← e]; simp
    · exact List.mem_cons_of_mem _ (zw_src a b p h' k e)
theorem zip_ok {a b : GE} {ρ : GEnv} {G : Hg} {x y : List Int} (ha : a ρ G = .ok (.d (.lst (x.map .int))) G) (hb : b ρ G = .ok (.d (.lst (y.map .int))) G) : gListZip (gConsA a (gConsA b (gNilA))) ρ G = .ok (.d (.lst ((zw x y).map wD))) G := by
  have e : gConsA a (gConsA b (gNilA)) ρ G = .ok [.d (.lst (x.map .int)), .d (.lst (y.map .int))] G := a_ok ha (a_ok hb n_ok)
  have s1 : seqW (.d (.lst (x.map .int))) G = some (true, (x.map D.int).map .d) := rfl
  have s2 : seqW (.d (.lst (y.map .int))) G = some (true, (y.map D.int).map .d) := rfl
  unfold gListZip
  rw [e, bind_ok]
  simp only [s1, s2, allD_map]
  rw [zw_D]
theorem from1 {ρ : GEnv} {G : Hg} {q : List Int} (h4 : ρ[4]? = some (some (.d (.lst (q.map .int))))) : gSlice (gVar 4) (gPt (gC (.int 1))) (gNoP) ρ G = .ok (.d (.lst ((q.drop 1).map .int))) G := by
  rw [e_slice, v_ok h4, bind_ok, e_pt, c_ok, bind_ok, ptW_int, bind_ok, e_noP, bind_ok, List.map_drop]
  exact slice_fromL (k := 1)
theorem to1 {ρ : GEnv} {G : Hg} {q : List Int} (h4 : ρ[4]? = some (some (.d (.lst (q.map .int))))) : gSlice (gVar 4) (gNoP) (gPt (gC (.int 1))) ρ G = .ok (.d (.lst ((q.take 1).map .int))) G := by
  rw [e_slice, v_ok h4, bind_ok, e_noP, bind_ok, e_pt, c_ok, bind_ok, ptW_int, bind_ok, List.map_take]
  exact slice_toL (k := 1)
theorem eqc {k : Nat} {c : Int} {ρ : GEnv} {G : Hg} {w : Int} (h : ρ[k]? = some (some (.d (.int w)))) : gTst (gBin (fEqS false) (gVar k) (gC (.int c))) ρ G = .ok (w == c) G := by
  refine ts_ok (b_ok (v_ok h) c_ok ?_)
  rw [eq_ok (okD_E okE_int) (okD_E okE_int) (fun _ z => by cases z) (fun _ z => by cases z) (fun _ _ z => by cases z.1), eqD_int, Bool.false_xor]
/-- the part's writes are put behind those so far -/
abbrev wayS : GS := gIf (gTst (gBin (fEqS false) (gVar 5) (gC (.int 0)))) (gExpr (gMt .lst fExtend (gVar 3) (gConsA (fun ρ G => (gLcW (gSeqI (gVar 4)) [7] (gNm 7) (gYes) (le1__law_writes) ρ G).bind finT) (gNilA)))) (gIf (gTst (gBin (fEqS false) (gVar 5) (gC (.int 1)))) (gExpr (gMt .lst fExtend (gVar 3) (gConsA (fun ρ G => (gLcW (gSeqI (gVar 4)) [7] (gNm 7) (gYes) (le2__law_writes) ρ G).bind finT) (gNilA)))) (gIf (gTst (gBin (fI (iCmp fun i j => decide (i < j))) (gVar 5) (gC (.int 4)))) (gExpr (gMt .lst fExtend (gVar 3) (gConsA (gListZip (gConsA (gVar 4) (gConsA (gBin fAdd (gSlice (gVar 4) (gPt (gC (.int 1))) (gNoP)) (gSlice (gVar 4) (gNoP) (gPt (gC (.int 1))))) (gNilA)))) (gNilA)))) (gExpr (gMt .lst fExtend (gVar 3) (gConsA (gListZip (gConsA (gSlice (gVar 4) (gPt (gC (.int 1))) (gNoP)) (gConsA (gVar 4) (gNilA)))) (gNilA))))))
theorem way_ok {i f : Nat} {marks q : List Int} {w : Int} {old : Wr Bool} {ρ : GEnv} {G : Hg} (hs : SrcAt i G) (hif : i ≠ f) (hl : ρ.length = 8) (h0 : ρ[0]? = some (some (.ref i))) (h1 : ρ[1]? = some (some (.d (.lst (marks.map .int))))) (h3 : ρ[3]? = some (some (.ref f))) (h4 : ρ[4]? = some (some (.d (.lst (q.map .int))))) (h5 : ρ[5]? = some (some (.d (.int w))))
    (hq : ∀ x ∈ q, x ∈ marks) (hq0 : q ≠ []) (hm : marks.length < 100) (hql : q.length < 100) (hf : G[f]? = some (.lst ((old.map wD).map .d))) (ho : old.length < 100) :
    ∃ (new : Wr Bool) (G' : Hg), wayS ρ G = .nx ρ G' ∧ SrcAt i G' ∧ Fr [i, f] G G' ∧ G'[f]? = some (.lst (((old ++ new).map wD).map .d)) ∧ (keys new).Sublist q ∧ ∀ p ∈ new, SM marks p.2 := by
  have mne : marks ≠ [] := fun z => by
    cases q with
    | nil => exact hq0 rfl
    | cons x q => have := hq x (by simp); rw [z] at this; cases this
  have fin : ∀ {a : GE} {new : Wr Bool} {G1 : Hg}, a ρ G = .ok (.d (.lst (new.map wD))) G1 → SrcAt i G1 → Fr [i] G G1 → (keys new).Sublist q → (∀ p ∈ new, SM marks p.2) → wayS ρ G = gExpr (gMt .lst fExtend (gVar 3) (gConsA a (gNilA))) ρ G →
      ∃ (new : Wr Bool) (G' : Hg), wayS ρ G = .nx ρ G' ∧ SrcAt i G' ∧ Fr [i, f] G G' ∧ G'[f]? = some (.lst (((old ++ new).map wD).map .d)) ∧ (keys new).Sublist q ∧ ∀ p ∈ new, SM marks p.2 := fun {a new G1} e s1 f1 kn sm we => by
    have hf1 := f1.at hf (by simp [Ne.symm hif])
    have nl : new.length ≤ q.length := by have := kn.length_le; simpa [keys] using this
    have x := xt_ok h3 hf e hf1 (by simp; omega)
    have f2 : Fr [f] G1 (G1.set f (.lst ((old.map wD).map .d ++ (new.map wD).map .d))) := .set (by simp)
    refine ⟨new, _, we.trans x, s1.fr f2 (by simp [hif]), (f1.mono (by simp)).trans (f2.mono (by simp)), ?_, kn, sm⟩
    rw [List.getElem?_set_self (List.getElem?_eq_some_iff.mp hf1).1, List.map_append, List.map_append]
  have t0 := eqc (c := 0) (G := G) h5
  by_cases c0 : w = 0
  · subst c0
    obtain ⟨new, G1, e, s1, f1, kn, sm⟩ := draw_srcs (el := le1__law_writes) (fun ρ1 G1 m q0 q1 q7 s1 => by
      obtain ⟨d, G2, hd, ed, s2, f2⟩ := s1.one (ds := [.str "on", .str "off"]) (by simp) (by simp)
      obtain ⟨bb, rfl⟩ : ∃ bb : Bool, d = sD (.inr bb) := by
        rcases List.mem_cons.mp hd with e | e
        · exact ⟨true, e⟩
        · refine ⟨false, ?_⟩
          rcases List.mem_cons.mp e with q | q
          · exact q
          · cases q
      exact ⟨.inr bb, G2, tp_ok (a_ok (v_ok q7) (a_ok (fs_ok (a_ok (v_ok q0) (a_ok (ls_ok (ds := [.str "on", .str "off"]) (a_ok c_ok (a_ok c_ok n_ok)) rfl rfl) n_ok)) rfl ed) n_ok)) rfl rfl, s2, f2, fun k e => by cases e⟩) hs hl h0 h1 h4 (by omega)
    exact fin (a := fun ρ G => (gLcW (gSeqI (gVar 4)) [7] (gNm 7) (gYes) (le1__law_writes) ρ G).bind finT) e s1 f1 (by rw [kn]; exact List.Sublist.refl _) sm (if_t t0)
  · have e0 : (w == (0 : Int)) = false := by simpa using c0
    rw [e0] at t0
    have t1 := eqc (c := 1) (G := G) h5
    by_cases c1 : w = 1
    · subst c1
      obtain ⟨new, G1, e, s1, f1, kn, sm⟩ := draw_srcs (el := le2__law_writes) (fun ρ1 G1 m q0 q1 q7 s1 => by
        obtain ⟨d, G2, hd, ed, s2, f2⟩ := s1.one (ds := marks.map .int) (by simpa using mne) (by simp; omega)
        obtain ⟨k, hk, rfl⟩ := List.mem_map.mp hd
        exact ⟨.inl k, G2, tp_ok (a_ok (v_ok q7) (a_ok (fs_ok (a_ok (v_ok q0) (a_ok (v_ok q1) n_ok)) rfl ed) n_ok)) rfl rfl, s2, f2, fun j e => by injection e with e; rw [← e]; exact hk⟩) hs hl h0 h1 h4 (by omega)
      exact fin (a := fun ρ G => (gLcW (gSeqI (gVar 4)) [7] (gNm 7) (gYes) (le2__law_writes) ρ G).bind finT) e s1 f1 (by rw [kn]; exact List.Sublist.refl _) sm ((if_f t0).trans (if_t t1))
    · have e1 : (w == (1 : Int)) = false := by simpa using c1
      rw [e1] at t1
      have t2 : gTst (gBin (fI (iCmp fun i j => decide (i < j))) (gVar 5) (gC (.int 4))) ρ G = .ok (decide (w < 4)) G := by
        refine ts_ok (b_ok (v_ok h5) c_ok ?_)
        rw [e_fI]; rfl
      by_cases c2 : w < 4
      · rw [decide_eq_true c2] at t2
        have x : gBin fAdd (gSlice (gVar 4) (gPt (gC (.int 1))) (gNoP)) (gSlice (gVar 4) (gNoP) (gPt (gC (.int 1)))) ρ G = .ok (.d (.lst ((q.drop 1 ++ q.take 1).map .int))) G := by
          rw [List.map_append]
          exact b_ok (from1 h4) (to1 h4) (addL_ok (by simp; omega))
        refine fin (zip_ok (v_ok h4) x) hs .refl (zw_keys _ _) (fun p hp k e => ?_) ((if_f t0).trans ((if_f t1).trans (if_t t2)))
        rcases List.mem_append.mp (zw_src _ _ p hp k e) with z | z
        · exact hq k (List.mem_of_mem_drop z)
        · exact hq k (List.mem_of_mem_take z)
      · rw [decide_eq_false c2] at t2
        exact fin (zip_ok (from1 h4) (v_ok h4)) hs .refl ((zw_keys _ _).trans (List.drop_sublist ..)) (fun p hp k e => hq k (zw_src _ _ p hp k e)) ((if_f t0).trans ((if_f t1).trans (if_f t2)))
theorem wr_loop {i l f : Nat} {marks : List Int} (hil : i ≠ l) (hif : i ≠ f) (hlf : l ≠ f) (hm : marks.length < 100) : ∀ (n k : Nat) (p : List Int) (old : Wr Bool) (ρ : GEnv) (G : Hg), p.length ≤ n → n < k → SrcAt i G → ρ.length = 8 → ρ[0]? = some (some (.ref i)) → ρ[1]? = some (some (.d (.lst (marks.map .int)))) → ρ[2]? = some (some (.ref l)) → ρ[3]? = some (some (.ref f)) → G[l]? = some (.lst (iw p)) → G[f]? = some (.lst ((old.map wD).map .d)) →
    (keys old ++ p).Nodup → (∀ x ∈ keys old ++ p, x ∈ marks) → (∀ w ∈ old, SM marks w.2) →
    ∃ ρ' G' ws, whileN wc0__law_writes wb0__law_writes k ρ G = .nx ρ' G' ∧ ρ'[0]? = some (some (.ref i)) ∧ ρ'[3]? = some (some (.ref f)) ∧ G'[f]? = some (.lst ((ws.map wD).map .d)) ∧ SrcAt i G' ∧ Fr [i, l, f] G G' ∧ (keys ws).Nodup ∧ (∀ x ∈ keys ws, x ∈ marks) ∧ ∀ w ∈ ws, SM marks w.2
  | n, k, p, old, ρ, G, hp, hk, hs, hl, h0, h1, h2, h3, gl, gf, nd, sub, sm => by
    obtain ⟨k, rfl⟩ : ∃ k', k = k' + 1 := ⟨k - 1, by omega⟩
    have len : (keys old ++ p).length ≤ marks.length := sub_len nd sub
    have lo : old.length + p.length ≤ marks.length := by simpa [keys] using len
    have c : wc0__law_writes ρ G = .ok (!p.isEmpty) G := by
      refine ts_ok (b_ok (v_ok h2) (ls_ok (ds := []) n_ok rfl rfl) ?_)
      rw [neNil_ok (ds := p.map .int) gl (fun d hd => by obtain ⟨x, _, rfl⟩ := List.mem_map.mp hd; exact okE_int)]
      cases p <;> rfl
    by_cases pe : p = []
    · subst pe
      exact ⟨ρ, G, old, whileN_f c, h0, h3, gf, hs, .refl, by simpa using nd, fun x hx => sub x (by simpa using hx), sm⟩
    · have c' : wc0__law_writes ρ G = .ok true G := by
        rw [c]
        cases p with
        | nil => exact absurd rfl pe
        | cons a r => rfl
      obtain ⟨p', q, G1, q0, epq, e1, s1, f1, gl1⟩ := part_ok hs hil hl h0 h2 gl pe (by omega)
      have gf1 := f1.at gf (by simp [Ne.symm hif, Ne.symm hlf])
      have p1 := as_ok (k := 4) (a := fun ρ G => (gLcW (gRng1 (gConsA (gCall fMin2 (gConsA (gCall fLenD (gConsA (gVar 2) (gNilA))) (gConsA (gBin fAdd (gC (.int 1)) (gFnS 2 f__law_next (gConsA (gVar 0) (gConsA (gC (.int 4)) (gNilA))))) (gNilA)))) (gNilA))) [6] (gNm 6) (gYes) (le0__law_writes) ρ G).bind finT) e1
      let ρ1 : GEnv := ρ.set 4 (some (.d (.lst (q.map .int))))
      have a1 : Ag [4] ρ ρ1 := .set (by simp)
      obtain ⟨w, G2, w0, w1, ew, s2, f2⟩ := s1.next (m := 5) (by decide) (by decide)
      have p2 : gAsg (gFnS 2 f__law_next (gConsA (gVar 0) (gConsA (gC (.int 5)) (gNilA)))) (gNm 5) ρ1 G1 = .nx (ρ1.set 5 (some (.d (.int w)))) G2 := as_ok (fs_ok (a_ok (v_ok (a1.at h0)) (a_ok c_ok n_ok)) rfl ew)
      let ρ2 : GEnv := ρ1.set 5 (some (.d (.int w)))
      have a2 : Ag [4, 5] ρ ρ2 := (a1.mono (by simp)).trans (.set (by simp))
      have gf2 := f2.at gf1 (by simp [Ne.symm hif])
      have gl2 := f2.at gl1 (by simp [Ne.symm hil])
      have ppl : p'.length + q.length = p.length := by rw [epq]; simp
      have qp : ∀ x ∈ q, x ∈ p := fun x hx => by rw [epq]; exact List.mem_append_right _ (List.mem_reverse.mpr hx)
      have ql : 0 < q.length := List.length_pos_iff.mpr q0
      obtain ⟨new, G3, e3, s3, f3, gf3, kn, smn⟩ := way_ok (ρ := ρ2) (G := G2) (q := q) (w := w) (old := old) s2 hif (by rw [a2.le]; exact hl) (a2.at h0) (a2.at h1) (a2.at h3) (by show (ρ1.set 5 _)[4]? = _; rw [List.getElem?_set_ne (by decide)]; exact set_at (by rw [hl]; decide)) (set_at (by rw [a1.le, hl]; decide)) (fun x hx => sub x (List.mem_append_right _ (qp x hx))) q0 hm (by omega) gf2 (by omega)
      have gl3 := f3.at gl2 (by simp [Ne.symm hil, hlf])
      have b : wb0__law_writes ρ G = .nx ρ2 G3 := (sq_nx p1).trans ((sq_nx p2).trans e3)
      have ndp : (p' ++ q.reverse).Nodup := by rw [← epq]; exact (List.nodup_append.mp nd).2.1
      have ko : keys (old ++ new) = keys old ++ keys new := by simp [keys]
      have nd3 : (keys (old ++ new) ++ p').Nodup := by
        rw [ko, List.append_assoc, List.nodup_append]
        have n1 := List.nodup_append.mp nd
        have n2 := List.nodup_append.mp ndp
        refine ⟨n1.1, ?_, fun a ha b hb => ?_⟩
        · rw [List.nodup_append]
          refine ⟨(List.reverse_perm q).nodup_iff.mp n2.2.1 |>.sublist kn, n2.1, fun a ha b hb e => n2.2.2 b hb a (List.mem_reverse.mpr (kn.subset ha)) e.symm⟩
        · refine n1.2.2 a ha b ?_
          rw [epq]
          rcases List.mem_append.mp hb with z | z
          · exact List.mem_append_right _ (List.mem_reverse.mpr (kn.subset z))
          · exact List.mem_append_left _ z
      obtain ⟨ρ', G', ws, e4, r0, r3, g4, s4, f4, k1, k2, k3⟩ := wr_loop hil hif hlf hm (n - 1) k p' (old ++ new) ρ2 G3 (by omega) (by omega) s3 (by rw [a2.le]; exact hl) (a2.at h0) (a2.at h1) (a2.at h2) (a2.at h3) gl3 gf3 nd3 (fun x hx => by
        rw [ko] at hx
        rcases List.mem_append.mp hx with z | z
        · rcases List.mem_append.mp z with z | z
          · exact sub x (List.mem_append_left _ z)
          · exact sub x (List.mem_append_right _ (qp x (kn.subset z)))
        · exact sub x (List.mem_append_right _ (by rw [epq]; exact List.mem_append_left _ z))) (fun w hw => by
        rcases List.mem_append.mp hw with z | z
        · exact sm w z
        · exact smn w z)
      exact ⟨ρ', G', ws, (whileN_t c' b).trans e4, r0, r3, g4, s4, (f1.mono (by simp)).trans ((f2.mono (by simp)).trans ((f3.mono (by simp)).trans f4)), k1, k2, k3⟩
termination_by n => n
decreasing_by omega
end K94

set_option Elab.async false
set_option linter.all false
set_option maxRecDepth 100000
set_option maxHeartbeats 8000000
namespace K94
open PySem PySem.Spec PyProof.Rows L2 Gh
open Sq (S Wr keys vals wD sD sK tS rowsA repL chg Pos Reach InCyc Iso Reps Pth Cyc Row rowD Go put act acts rowOf)
def rng (n : Nat) : List D := (List.range n).map fun (k : Nat) => D.int (k : Int)
def toI : D → Int
  | .int i => i
  | _ => 0
theorem perm_ints {p : List D} {n : Nat} (h : p.Perm (rng n)) : p = (p.map toI).map .int ∧ (p.map toI).Nodup ∧ (∀ x ∈ p.map toI, 0 ≤ x ∧ x < n) ∧ p.length = n := by
  have mem : ∀ d ∈ p, ∃ k : Nat, k < n ∧ d = .int (k : Int) := fun d hd => by
    obtain ⟨k, hk, e⟩ := List.mem_map.mp (h.subset hd)
    exact ⟨k, List.mem_range.mp hk, e.symm⟩
  refine ⟨?_, ?_, fun x hx => ?_, by rw [h.length_eq]; simp [rng]⟩
  · rw [List.map_map]
    refine (List.map_id p).symm.trans (List.map_congr_left fun d hd => ?_)
    obtain ⟨k, _, rfl⟩ := mem d hd
    rfl
  · refine (h.map toI).nodup_iff.mpr ?_
    unfold rng
    rw [List.map_map]
    exact List.nodup_range.map _ fun a b n e => n (by have e' : (a : Int) = b := e; omega)
  · obtain ⟨d, hd, rfl⟩ := List.mem_map.mp hx
    obtain ⟨k, hk, rfl⟩ := mem d hd
    exact ⟨by show (0 : Int) ≤ k; omega, by show (k : Int) < n; omega⟩
theorem okE_rng {n : Nat} : ∀ d ∈ rng n, OkE d := fun d hd => by
  obtain ⟨k, _, rfl⟩ := List.mem_map.mp hd
  exact okE_int
theorem mixedA {i : Nat} {G : Hg} {w : W} {ds : List D} (hs : SrcAt i G) (hw : itemsW w G = some (ds.map .d)) (hok : ∀ d ∈ ds, OkE d) (hn : ds.length < 1000000) :
    ∃ (p : List D) (G' : Hg), p.Perm ds ∧ f__law_mixed [.ref i, w] G = .ok (.ref (G.length + 1)) G' ∧ SrcAt i G' ∧ G'[G.length + 1]? = some (.lst (p.map .d)) ∧ Fr [i] G G' := by
  obtain ⟨src, h2, h3, h4⟩ := hs
  obtain ⟨src', p, G', a1, a2, a3, a4, a5, a6, a7⟩ := mixed_ok h2 h3 hw hok hn
  exact ⟨p, G', a2, a3, ⟨src', a4, a1, a6.nl h4⟩, a5, a6⟩
def wI : D → Int × S Bool
  | .tup [.int m, .int k] => (m, .inl k)
  | .tup [.int m, .str t] => (m, .inr (decide (t = "on")))
  | _ => (0, .inl 0)
theorem wI_wD (p : Int × S Bool) : wI (wD p) = p := by
  obtain ⟨m, s⟩ := p
  cases s with
  | inl k => rfl
  | inr b => cases b <;> rfl
theorem perm_w {p : List D} {ws : Wr Bool} (h : p.Perm (ws.map wD)) : p = (p.map wI).map wD ∧ (p.map wI).Perm ws := by
  refine ⟨?_, ?_⟩
  · rw [List.map_map]
    refine (List.map_id p).symm.trans (List.map_congr_left fun d hd => ?_)
    obtain ⟨q, _, rfl⟩ := List.mem_map.mp (h.subset hd)
    show wD q = wD (wI (wD q))
    rw [wI_wD]
  · have := h.map wI
    rw [List.map_map, show (wI ∘ wD) = id from funext wI_wD, List.map_id] at this
    exact this
theorem Ok.perm {ws q : Wr Bool} {sp : Int} (h : Ok ws sp) (p : q.Perm ws) : Ok q sp := by
  have kp : (keys q).Perm (keys ws) := p.map _
  have vp : (vals q).Perm (vals ws) := p.map _
  exact ⟨kp.nodup_iff.mpr h.nd, by rw [p.length_eq]; exact h.len, fun x hx => h.b x (p.subset hx), h.spb, fun z => h.spk (kp.subset z), fun z => h.spv (vp.subset z)⟩
theorem rng30 {ρ : GEnv} {G : Hg} : gListRg1 false (gC (.int 30)) ρ G = .ok (.d (.lst (rng 30))) G := by kernel_rfl
theorem rng40 {ρ : GEnv} {G : Hg} : gListRg1 false (gC (.int 40)) ρ G = .ok (.d (.lst (rng 40))) G := by kernel_rfl
/-! ### the drawn writes -/
theorem writes_ok {i : Nat} {G : Hg} {marks : List Int} (hs : SrcAt i G) (nd : marks.Nodup) (hm : marks.length < 100) : ∃ ws G', f__law_writes [.ref i, .d (.lst (marks.map .int))] G = .ok (.d (.lst (ws.map wD))) G' ∧ (keys ws).Nodup ∧ (∀ x ∈ keys ws, x ∈ marks) ∧ (∀ p ∈ ws, SM marks p.2) ∧ SrcAt i G' ∧ Fr [i] G G' := by
  let e0 : GEnv := [some (.ref i), some (.d (.lst (marks.map .int))), none, none, none, none, none, none]
  obtain ⟨p, G1, hp, em, s1, m1, f1⟩ := mixedA hs (w := .d (.lst (marks.map .int))) (ds := marks.map .int) rfl (fun d hd => by obtain ⟨x, _, rfl⟩ := List.mem_map.mp hd; exact okE_int) (by simp; omega)
  obtain ⟨pm, rfl, pp⟩ : ∃ pm : List Int, p = pm.map .int ∧ pm.Perm marks := by
    refine ⟨p.map toI, ?_, ?_⟩
    · rw [List.map_map]
      refine (List.map_id p).symm.trans (List.map_congr_left fun d hd => ?_)
      obtain ⟨k, _, rfl⟩ := List.mem_map.mp (hp.subset hd)
      rfl
    · have := hp.map toI
      rwa [List.map_map, show (toI ∘ D.int) = id from rfl, List.map_id] at this
  have x1 : gFnS 2 f__law_mixed (gConsA (gVar 0) (gConsA (gVar 1) (gNilA))) e0 G = .ok (.ref (G.length + 1)) G1 := fs_ok (a_ok (v_ok rfl) (a_ok (v_ok rfl) n_ok)) rfl em
  have il := s1.lt
  have i0 := hs.lt
  have gl : G.length + 1 < G1.length := (List.getElem?_eq_some_iff.mp m1).1
  let ρ1 : GEnv := [some (.ref i), some (.d (.lst (marks.map .int))), some (.ref (G.length + 1)), some (.ref G1.length), none, none, none, none]
  have p1 : gAsg (gTup (gConsA (gFnS 2 f__law_mixed (gConsA (gVar 0) (gConsA (gVar 1) (gNilA)))) (gConsA (gNew (gNilA)) (gNilA)))) (gTp [gNm 2, gNm 3]) e0 G = .nx ρ1 (G1 ++ [.lst []]) := by
    have e : gTup (gConsA (gFnS 2 f__law_mixed (gConsA (gVar 0) (gConsA (gVar 1) (gNilA)))) (gConsA (gNew (gNilA)) (gNilA))) e0 G = .ok (.tup [.ref (G.length + 1), .ref G1.length]) (G1 ++ [.lst []]) := tp_ok (a_ok x1 (a_ok (nw_ok n_ok rfl) n_ok)) rfl rfl
    rw [e_asg, e, toS_ok]
    rfl
  have f2 : Fr [i] G1 (G1 ++ [.lst []]) := .app
  have s2 : SrcAt i (G1 ++ [.lst []]) := by
    obtain ⟨src, a, b, c⟩ := s1
    exact ⟨src, by rw [List.getElem?_append_left il]; exact a, b, c.app rfl⟩
  obtain ⟨ρ2, G2, ws, e2, r0, r3, g2, s3, f3, k1, k2, k3⟩ := wr_loop (i := i) (l := G.length + 1) (f := G1.length) (marks := marks) (by omega) (by omega) (by omega) hm pm.length 1000000 pm [] ρ1 (G1 ++ [.lst []]) (Nat.le_refl _) (by have := pp.length_eq; omega) s2 rfl rfl rfl rfl rfl (by rw [List.getElem?_append_left gl]; exact m1) (by rw [List.getElem?_append_right (Nat.le_refl _), Nat.sub_self]; rfl) (by simpa [keys] using pp.nodup_iff.mpr nd) (fun x hx => pp.subset (by simpa [keys] using hx)) (fun _ h => by cases h)
  obtain ⟨r, G3, q0, q1, er, s4, f4⟩ := s3.next (m := 13) (by decide) (by decide)
  have gi : G1.length ≠ i := by omega
  have g3 := f4.at g2 (by simp [gi])
  have p3 : gRet (gSlice (gVar 3) (gNoP) (gPt (gFnS 2 f__law_next (gConsA (gVar 0) (gConsA (gC (.int 13)) (gNilA)))))) ρ2 G2 = .ret (.d (.lst ((ws.take r.toNat).map wD))) G3 := by
    refine re_ok ?_
    have x2 : gFnS 2 f__law_next (gConsA (gVar 0) (gConsA (gC (.int 13)) (gNilA))) ρ2 G2 = .ok (.d (.int r)) G3 := fs_ok (a_ok (v_ok r0) (a_ok c_ok n_ok)) rfl er
    rw [e_slice, v_ok r3, bind_ok, e_noP, bind_ok, e_pt, x2, bind_ok, ptW_int, bind_ok]
    have er' : r = ((r.toNat : Nat) : Int) := by omega
    rw [er', slice_toR g3, List.map_take]
    rfl
  have FF : Fr [i] G G3 := ((f1.mono (m' := [i, G.length + 1, G1.length]) (by simp)).trans ((f2.mono (by simp)).trans (f3.trans (f4.mono (by simp))))).newOnly fun k hk => by
    simp only [List.mem_cons, List.not_mem_nil, or_false] at hk
    rcases hk with z | z | z
    · exact .inl (by simp [z])
    · exact .inr (by omega)
    · exact .inr (by omega)
  obtain ⟨G4, z1, z2, z3⟩ := cut_fr (d := .lst ((ws.take r.toNat).map wD)) i0 s4 FF
  have kt : keys (ws.take r.toNat) = (keys ws).take r.toNat := by unfold keys; rw [List.map_take]
  refine ⟨ws.take r.toNat, G4, ?_, ?_, ?_, fun p hp => k3 p (List.mem_of_mem_take hp), z2, z3⟩
  · show runS 8 g__law_writes _ _ = _
    unfold runS
    have key : g__law_writes (envS 8 [.ref i, .d (.lst (marks.map .int))]) G = .ret (.d (.lst ((ws.take r.toNat).map wD))) G3 := (sq_nx p1).trans ((sq_nx e2).trans p3)
    rw [key]
    exact z1
  · rw [kt]; exact k1.sublist (List.take_sublist ..)
  · rw [kt]; exact fun x hx => k2 x (List.mem_of_mem_take hx)
/-! ### as many in another order -/
theorem Reach.same {O O' : Wr Bool} (h : ∀ p, p ∈ O → p ∈ O') {a b : Int} (r : Reach O a b) : Reach O' a b := by
  induction r with
  | refl => exact .refl
  | step _ e ih => exact ih.step (h _ e)
theorem Reps.same {O O' : Wr Bool} (h : ∀ p, p ∈ O ↔ p ∈ O') {R : List Int} (P : Reps O R) : Reps O' R := by
  have f := fun p => (h p).mp
  have b := fun p => (h p).mpr
  have cy : ∀ r, InCyc O r ↔ InCyc O' r := fun r => ⟨fun ⟨x, y, z⟩ => ⟨x, Reach.same f y, f _ z⟩, fun ⟨x, y, z⟩ => ⟨x, Reach.same b y, b _ z⟩⟩
  have is : ∀ r, Iso O r ↔ Iso O' r := fun r => ⟨fun ⟨x, y⟩ => ⟨(cy r).mp x, fun u v hu hv => Reach.same f (y u v (Reach.same b hu) (b _ hv))⟩, fun ⟨x, y⟩ => ⟨(cy r).mpr x, fun u v hu hv => Reach.same b (y u v (Reach.same f hu) (f _ hv))⟩⟩
  exact ⟨P.nd, fun r hr => (is r).mp (P.iso r hr), fun m hm => let ⟨r, h1, h2⟩ := P.all m ((is m).mpr hm); ⟨r, h1, Reach.same f h2⟩, fun r hr q hq z => P.one r hr q hq (Reach.same b z)⟩
theorem target_perm {ws q : Wr Bool} (nd : (keys ws).Nodup) (p : q.Perm ws) (m : Int) : target q Sum.inl m = target ws Sum.inl m := by
  have kp : (keys q).Perm (keys ws) := p.map _
  by_cases k : m ∈ keys ws
  · obtain ⟨s, hs⟩ := Sq.mem_keys.mp k
    rw [target_in nd hs, target_in (kp.nodup_iff.mpr nd) (p.symm.subset hs)]
  · rw [target_out k, target_out fun z => k (kp.subset z)]
/-! ### the spare mark -/
theorem frz_d {a : GE} {ρ : GEnv} {G G1 : Hg} {d : D} (h : a ρ G = .ok (.d d) G1) : gFrz a ρ G = .ok (.d d) G1 := by
  unfold gFrz
  rw [h, bind_ok]
  rfl
def spF (marks : List Int) : W → Option W
  | .d (.int m) => if (!decide (m ∈ marks)) = true then some (.d (.int m)) else none
  | _ => none
theorem spF_map {marks : List Int} : ∀ q : List Int, (iw q).filterMap (spF marks) = iw (q.filter fun m => !decide (m ∈ marks))
  | [] => rfl
  | m :: r => by
    show (W.d (.int m) :: iw r).filterMap _ = _
    have e : spF marks (.d (.int m)) = if (!decide (m ∈ marks)) = true then some (.d (.int m)) else none := rfl
    rw [List.filterMap_cons, List.filter_cons, e]
    by_cases c : (!decide (m ∈ marks)) = true
    · rw [if_pos c, if_pos c, spF_map r]; rfl
    · rw [if_neg c, if_neg c, spF_map r]
theorem spare_ok {i : Nat} {ρ : GEnv} {G : Hg} {marks : List Int} (hs : SrcAt i G) (hl : ρ.length = 10) (h2 : ρ[2]? = some (some (.ref i))) (h4 : ρ[4]? = some (some (.d (.lst (marks.map .int))))) (hm : marks.length < 40) :
    ∃ (sp : Int) (G' : Hg), gBin fIxD (fun ρ G => (gLcW (gSeqI (gFnS 2 f__law_mixed (gConsA (gVar 2) (gConsA (gListRg1 false (gC (.int 40))) (gNilA))))) [9] (gNm 9) (lt0_law) (le0_law) ρ G).bind finT) (gC (.int 0)) ρ G = .ok (.d (.int sp)) G' ∧ SrcAt i G' ∧ Fr [i] G G' ∧ Bd sp ∧ sp ∉ marks := by
  obtain ⟨p, G1, hp, em, s1, m1, f1⟩ := mixedA hs (w := .d (.lst (rng 40))) (ds := rng 40) rfl okE_rng (by simp [rng])
  obtain ⟨pe, pn, pb, pl⟩ := perm_ints hp
  generalize hq : p.map toI = q at pe pn pb
  subst pe
  have x1 : gFnS 2 f__law_mixed (gConsA (gVar 2) (gConsA (gListRg1 false (gC (.int 40))) (gNilA))) ρ G = .ok (.ref (G.length + 1)) G1 := fs_ok (a_ok (v_ok h2) (a_ok rng40 n_ok)) rfl em
  have sq : seqW (.ref (G.length + 1)) G1 = some (true, iw q) := by show (match G1[G.length + 1]? with | some (.lst ws) => some (true, ws) | _ => none) = _; rw [m1]; rfl
  have q40 : q.length = 40 := by simpa using pl
  have lc := lcL_on (G := G1) (t := gNm 9) (tt := lt0_law) (e := le0_law) (ck := ckW (.ref (G.length + 1)) (iw q)) (ρ0 := wipeG ρ [9]) (spF marks) (ckW_now sq) (iw q) [] (fun w hw => by
    obtain ⟨d, hd, rfl⟩ := List.mem_map.mp hw
    obtain ⟨m, _, rfl⟩ := List.mem_map.mp hd
    let ρ1 : GEnv := (wipeG ρ [9]).set 9 (some (.d (.int m)))
    have r9 : ρ1[9]? = some (some (.d (.int m))) := set_at (by show 9 < (ρ.set 9 none).length; rw [List.length_set, hl]; decide)
    have r4 : ρ1[4]? = some (some (.d (.lst (marks.map .int)))) := by show ((ρ.set 9 none).set 9 _)[4]? = _; rw [List.getElem?_set_ne (by decide), List.getElem?_set_ne (by decide)]; exact h4
    refine ⟨ρ1, rfl, ?_⟩
    have t : lt0_law ρ1 G1 = .ok (!decide (m ∈ marks)) G1 := by
      refine ts_ok (b_ok (v_ok r9) (v_ok r4) ?_)
      rw [in_lst, Bool.true_xor]
    by_cases c : (!decide (m ∈ marks)) = true
    · rw [c] at t
      exact .inr ⟨.d (.int m), if_pos c, t, v_ok r9⟩
    · rw [Bool.eq_false_iff.mpr c] at t
      exact .inl ⟨if_neg c, t⟩) (by rw [iw_len]; simp only [List.length_nil]; omega)
  rw [spF_map, List.nil_append] at lc
  have ne : (q.filter fun m => !decide (m ∈ marks)) ≠ [] := fun z => by
    have sub : q ⊆ marks := fun m hm' => by
      have := List.filter_eq_nil_iff.mp z m hm'
      simpa using this
    have h1 := sub_len pn sub
    omega
  obtain ⟨sp, rest, hsp⟩ := List.exists_cons_of_ne_nil ne
  have msp : sp ∈ q.filter fun m => !decide (m ∈ marks) := by rw [hsp]; simp
  rw [List.mem_filter] at msp
  refine ⟨sp, G1, b_ok (G1 := G1) (G2 := G1) (x := .d (.lst ((q.filter fun m => !decide (m ∈ marks)).map .int))) ?_ c_ok ?_, s1, f1, pb sp msp.1, by simpa using msp.2⟩
  · show (gLcW _ _ _ _ _ _ _).bind finT = _
    unfold gLcW
    rw [e_seqI x1 (b := true) (ws := iw q) sq, bind_ok, lc, bind_ok]
    unfold finT iw
    rw [mkLst_d]
  · rw [hsp, e_ixL]
    rw [List.map_cons, List.map_cons, atI_0]
    rfl
end K94

set_option Elab.async false
set_option linter.all false
set_option maxRecDepth 100000
set_option maxHeartbeats 8000000
namespace K94
open PySem PySem.Spec PyProof.Rows L2 Gh
open Sq (S Wr keys vals wD sD sK tS rowsA repL chg Pos Reach InCyc Iso Reps Pth Cyc Row rowD Go put act acts rowOf)
theorem len_rows {rs : List (Row Bool)} {G : Hg} : fLenD [.d (.lst (rs.map rowD))] G = some (.d (.int (rs.length : Nat)), G) := by rw [lenL_ok, List.length_map]
theorem cut_mid {ws : List W} {a b : Nat} (h : a ≤ b) : cutW ws (some (a : Int)) (some (b : Int)) = (ws.take b).drop a := by
  unfold cutW
  rw [HT.sIx_nat, HT.sIx_nat, List.drop_take]
  rcases Nat.le_total a ws.length with h1 | h1
  · rw [Nat.min_eq_left h1]
    rcases Nat.le_total b ws.length with h2 | h2
    · rw [Nat.min_eq_left h2]
    · rw [Nat.min_eq_right h2, List.take_of_length_le (by simp), List.take_of_length_le (by rw [List.length_drop]; omega)]
  · rw [Nat.min_eq_right h1, List.drop_of_length_le (Nat.le_refl _), List.drop_of_length_le h1]
    simp
theorem slice_midL {G : Hg} {ds : List D} {a b : Nat} (h : a ≤ b) : sliceEnd (.d (.lst ds)) (some (a : Int)) (some (b : Int)) G = .ok (.d (.lst ((ds.take b).drop a))) G := by
  unfold sliceEnd seqW
  simp only [cut_mid h, ← List.map_take, ← List.map_drop, mkLst_d]
/-! ### a turn -/
theorem turn_ok {ρ : GEnv} {G : Hg} {i : Nat} (hs : SrcAt i G) (hl : ρ.length = 10) (h2 : ρ[2]? = some (some (.ref i))) : ∃ ρ' G', fb0_law ρ G = .nx ρ' G' ∧ Ag [4, 5, 6, 7, 8] ρ ρ' ∧ SrcAt i G' := by
  -- the marks
  obtain ⟨p, G1, hp, em, s1, m1, f1⟩ := mixedA hs (w := .d (.lst (rng 30))) (ds := rng 30) rfl okE_rng (by simp [rng])
  obtain ⟨pe, pn, pb, pl⟩ := perm_ints hp
  generalize hq : p.map toI = q at pe pn pb
  subst pe
  have q30 : q.length = 30 := by simpa using pl
  obtain ⟨r, G2, r0, r1, er, s2, f2⟩ := s1.next (m := 14) (by decide) (by decide)
  have i0 := hs.lt
  have m2 : G2[G.length + 1]? = some (.lst ((q.map D.int).map .d)) := f2.at m1 (by simp; omega)
  let marks : List Int := q.take (1 + r).toNat
  have mnd : marks.Nodup := pn.sublist (List.take_sublist ..)
  have mb : ∀ x ∈ marks, 0 ≤ x ∧ x < 30 := fun x hx => pb x (List.mem_of_mem_take hx)
  have ml : marks.length < 15 := by show (q.take (1 + r).toNat).length < 15; rw [List.length_take]; omega
  have x1 : gSlice (gFnS 2 f__law_mixed (gConsA (gVar 2) (gConsA (gListRg1 false (gC (.int 30))) (gNilA)))) (gNoP) (gPt (gBin fAdd (gC (.int 1)) (gFnS 2 f__law_next (gConsA (gVar 2) (gConsA (gC (.int 14)) (gNilA)))))) ρ G = .ok (.d (.lst (marks.map .int))) G2 := by
    have y1 : gFnS 2 f__law_mixed (gConsA (gVar 2) (gConsA (gListRg1 false (gC (.int 30))) (gNilA))) ρ G = .ok (.ref (G.length + 1)) G1 := fs_ok (a_ok (v_ok h2) (a_ok rng30 n_ok)) rfl em
    have y2 : gBin fAdd (gC (.int 1)) (gFnS 2 f__law_next (gConsA (gVar 2) (gConsA (gC (.int 14)) (gNilA)))) ρ G1 = .ok (.d (.int (1 + r))) G2 := b_ok c_ok (fs_ok (a_ok (v_ok h2) (a_ok c_ok n_ok)) rfl er) e_add
    rw [e_slice, y1, bind_ok, e_noP, bind_ok, e_pt, y2, bind_ok, ptW_int, bind_ok]
    have er' : (1 + r) = (((1 + r).toNat : Nat) : Int) := by omega
    rw [er', slice_toR m2]
    show _ = Res.ok (W.d (D.lst ((q.take (1 + r).toNat).map .int))) G2
    rw [List.map_take]
  have p1 := as_ok (k := 4) x1
  let ρ1 : GEnv := ρ.set 4 (some (.d (.lst (marks.map .int))))
  have a1 : Ag [4] ρ ρ1 := .set (by simp)
  have r4 : ρ1[4]? = some (some (.d (.lst (marks.map .int)))) := set_at (by rw [hl]; decide)
  -- the writes
  obtain ⟨ws, G3, ew, wn, wk, wm, s3, f3⟩ := writes_ok s2 mnd (by omega)
  have p2 : gAsg (gFnS 2 f__law_writes (gConsA (gVar 2) (gConsA (gVar 4) (gNilA)))) (gNm 5) ρ1 G2 = .nx (ρ1.set 5 (some (.d (.lst (ws.map wD))))) G3 := as_ok (fs_ok (a_ok (v_ok (a1.at h2)) (a_ok (v_ok r4) n_ok)) rfl ew)
  let ρ2 : GEnv := ρ1.set 5 (some (.d (.lst (ws.map wD))))
  have a2 : Ag [5] ρ1 ρ2 := .set (by simp)
  have r5 : ρ2[5]? = some (some (.d (.lst (ws.map wD)))) := set_at (by rw [a1.le, hl]; decide)
  have wl : ws.length ≤ marks.length := by
    have := sub_len wn wk
    simpa [keys] using this
  -- the spare mark
  obtain ⟨sp, G4, es, s4, f4, spb, spn⟩ := spare_ok (ρ := ρ2) (G := G3) (marks := marks) s3 (by rw [a2.le, a1.le, hl]) (a2.at (a1.at h2)) (a2.at r4) (by omega)
  have p3 := as_ok (k := 6) es
  let ρ3 : GEnv := ρ2.set 6 (some (.d (.int sp)))
  have a3 : Ag [6] ρ2 ρ3 := .set (by simp)
  have r6 : ρ3[6]? = some (some (.d (.int sp))) := set_at (by rw [a2.le, a1.le, hl]; decide)
  have ok : Ok ws sp := ⟨wn, by omega, fun p hp => ⟨by have := mb _ (wk _ (Sq.key_of hp)); exact ⟨this.1, by omega⟩, fun k e => by have := mb _ (wm p hp k e); exact ⟨this.1, by omega⟩⟩, spb, fun z => spn (wk _ z), fun z => by
    obtain ⟨p, hp, e⟩ := List.mem_map.mp z
    exact spn (wm p hp sp e)⟩
  -- the rows
  obtain ⟨rs, g, eq1⟩ := Sq.sequence_ok (b := false) ok.pos ok.nd ok.spb.1 ok.spk ok.spv (by omega)
  have eq1' : f_sequence [.tup (ws.map wD), .int sp] = .ok (.lst (rs.map rowD)) := eq1
  have x4 : gFnP 2 f_sequence (gConsA (gCall fTuple (gConsA (gVar 5) (gNilA))) (gConsA (gVar 6) (gNilA))) ρ3 G4 = .ok (.d (.lst (rs.map rowD))) G4 := by
    have y1 : gCall fTuple (gConsA (gVar 5) (gNilA)) ρ3 G4 = .ok (.d (.tup (ws.map wD))) G4 := cl_ok (a_ok (v_ok (a3.at r5)) n_ok) (by
      show some (mkTup ((ws.map wD).map .d), G4) = _
      rw [mkTup_d])
    exact fp_ok (ds := [.tup (ws.map wD), .int sp]) (a_ok y1 (a_ok (v_ok r6) n_ok)) rfl eq1'
  have p4 := as_ok (k := 7) x4
  let ρ4 : GEnv := ρ3.set 7 (some (.d (.lst (rs.map rowD))))
  have a4 : Ag [7] ρ3 ρ4 := .set (by simp)
  have l3 : ρ3.length = 10 := by rw [a3.le, a2.le, a1.le, hl]
  have r7 : ρ4[7]? = some (some (.d (.lst (rs.map rowD)))) := set_at (by rw [l3]; decide)
  have rowb : ∀ {l : Wr Bool} {rs : List (Row Bool)}, Go sp (chg l) (fun _ => none) rs → (∀ p ∈ l, p ∈ ws) → ∀ r ∈ rs, RowB r := fun g hsub => go_b ok.spb g (fun p hp => ok.b p (hsub p (Sq.chg_sub hp))) (fun _ _ z => by cases z)
  obtain ⟨G5, e5, s5, f5⟩ := rr_ok s4 ok (rowb g fun _ h => h) fun m n => same_target ok g n
  obtain ⟨R, RP, ed⟩ := due_ok wn (ws := ws) (by omega)
  have len := Sq.rows_many ok.org RP g
  have p5 : gIf (gOr (gNot (gTst (gFnS 4 f__law_rows_right (gConsA (gVar 2) (gConsA (gVar 5) (gConsA (gVar 6) (gConsA (gVar 7) (gNilA)))))))) (gTst (gBin (fEqS true) (gCall fLenD (gConsA (gVar 7) (gNilA))) (gFnP 1 f__law_due (gConsA (gVar 5) (gNilA)))))) (gRet (gC (.bl false))) (gNil) ρ4 G4 = .nx ρ4 G5 := by
    have t1 : gNot (gTst (gFnS 4 f__law_rows_right (gConsA (gVar 2) (gConsA (gVar 5) (gConsA (gVar 6) (gConsA (gVar 7) (gNilA))))))) ρ4 G4 = .ok false G5 := no_ok (b := true) (ts_ok (fs_ok (a_ok (v_ok (a4.at (a3.at (a2.at (a1.at h2))))) (a_ok (v_ok (a4.at (a3.at r5))) (a_ok (v_ok (a4.at r6)) (a_ok (v_ok r7) n_ok)))) rfl e5))
    have t2 : gTst (gBin (fEqS true) (gCall fLenD (gConsA (gVar 7) (gNilA))) (gFnP 1 f__law_due (gConsA (gVar 5) (gNilA)))) ρ4 G5 = .ok false G5 := by
      refine ts_ok (b_ok (cl_ok (a_ok (v_ok r7) n_ok) len_rows) (fp_ok (ds := [.lst (ws.map wD)]) (a_ok (v_ok (a4.at (a3.at r5))) n_ok) rfl ed) ?_)
      rw [eq_ok (okD_E okE_int) (okD_E okE_int) (fun _ z => by cases z) (fun _ z => by cases z) (fun _ _ z => by cases z.1), eqD_int, len]
      simp
    exact (if_f ((or_f t1).trans t2)).trans nl_ok
  -- in another order
  obtain ⟨p2', G6, hp2, em2, s6, m6, f6⟩ := mixedA s5 (w := .d (.lst (ws.map wD))) (ds := ws.map wD) rfl (fun d hd => by
    obtain ⟨q, hq, rfl⟩ := List.mem_map.mp hd
    obtain ⟨m, s⟩ := q
    refine okE_tup (fun d hd => ?_) (fun d hd => ?_)
    · rcases List.mem_cons.mp hd with rfl | hd
      · exact okE_int
      · rcases List.mem_cons.mp hd with rfl | hd
        · exact Sq.okE_s
        · cases hd
    · rcases List.mem_cons.mp hd with rfl | hd
      · simp [toPy, PyData.depth]
      · rcases List.mem_cons.mp hd with rfl | hd
        · cases s with
          | inl k => simp [sD, sK, kD, toPy, PyData.depth]
          | inr b => simp [sD, sK, kD, toPy, PyData.depth]
        · cases hd) (by simp; omega)
  obtain ⟨pe2, pp⟩ := perm_w hp2
  have okq := ok.perm pp
  obtain ⟨rs2, g2, es2⟩ := Sq.sequence_ok (b := true) okq.pos okq.nd okq.spb.1 okq.spk okq.spv (by have := okq.len; omega)
  have es2' : f_sequence [.lst p2', .int sp] = .ok (.lst (rs2.map rowD)) := by
    rw [pe2]
    exact es2
  let G7 : Hg := G6.set (G5.length + 1) .dead
  have f7 : Fr [G5.length + 1] G6 G7 := .set (by simp)
  have i5 := s5.lt
  have s7 : SrcAt i G7 := s6.fr f7 (by simp; omega)
  have x6 : gFnP 2 f_sequence (gConsA (gFrz (gFnS 2 f__law_mixed (gConsA (gVar 2) (gConsA (gVar 5) (gNilA))))) (gConsA (gVar 6) (gNilA))) ρ4 G5 = .ok (.d (.lst (rs2.map rowD))) G7 := by
    have y1 : gFnS 2 f__law_mixed (gConsA (gVar 2) (gConsA (gVar 5) (gNilA))) ρ4 G5 = .ok (.ref (G5.length + 1)) G6 := fs_ok (a_ok (v_ok (a4.at (a3.at (a2.at (a1.at h2))))) (a_ok (v_ok (a4.at (a3.at r5))) n_ok)) rfl em2
    exact fp_ok (ds := [.lst p2', .int sp]) (a_ok (frz_ok y1 m6) (a_ok (v_ok (a4.at r6)) n_ok)) rfl es2'
  have p6 := as_ok (k := 8) x6
  let ρ5 : GEnv := ρ4.set 8 (some (.d (.lst (rs2.map rowD))))
  have a5 : Ag [8] ρ4 ρ5 := .set (by simp)
  have r8 : ρ5[8]? = some (some (.d (.lst (rs2.map rowD)))) := set_at (by rw [a4.le, l3]; decide)
  have cp : (chg (p2'.map wI)).Perm (chg ws) := pp.filter _
  have len2 := Sq.rows_many okq.org (Reps.same (fun p => (cp.mem_iff (a := p)).symm) RP) g2
  have ll : rs2.length = rs.length := by rw [len2, len, cp.length_eq]
  obtain ⟨G8, e8, s8, f8⟩ := rr_ok s7 ok (rowb g2 fun p hp => pp.subset hp) fun m n => (same_target okq g2 n).trans (target_perm wn pp m)
  have p7 : gIf (gOr (gTst (gBin (fEqS true) (gCall fLenD (gConsA (gVar 8) (gNilA))) (gCall fLenD (gConsA (gVar 7) (gNilA))))) (gNot (gTst (gFnS 4 f__law_rows_right (gConsA (gVar 2) (gConsA (gVar 5) (gConsA (gVar 6) (gConsA (gVar 8) (gNilA))))))))) (gRet (gC (.bl false))) (gNil) ρ5 G7 = .nx ρ5 G8 := by
    have t1 : gTst (gBin (fEqS true) (gCall fLenD (gConsA (gVar 8) (gNilA))) (gCall fLenD (gConsA (gVar 7) (gNilA)))) ρ5 G7 = .ok false G7 := by
      refine ts_ok (b_ok (cl_ok (a_ok (v_ok r8) n_ok) len_rows) (cl_ok (a_ok (v_ok (a5.at r7)) n_ok) len_rows) ?_)
      rw [eq_ok (okD_E okE_int) (okD_E okE_int) (fun _ z => by cases z) (fun _ z => by cases z) (fun _ _ z => by cases z.1), eqD_int, ll]
      simp
    have t2 : gNot (gTst (gFnS 4 f__law_rows_right (gConsA (gVar 2) (gConsA (gVar 5) (gConsA (gVar 6) (gConsA (gVar 8) (gNilA))))))) ρ5 G7 = .ok false G8 := no_ok (b := true) (ts_ok (fs_ok (a_ok (v_ok (a5.at (a4.at (a3.at (a2.at (a1.at h2)))))) (a_ok (v_ok (a5.at (a4.at (a3.at r5)))) (a_ok (v_ok (a5.at (a4.at r6))) (a_ok (v_ok r8) n_ok)))) rfl e8))
    exact (if_f ((or_f t1).trans t2)).trans nl_ok
  refine ⟨ρ5, G8, ?_, ?_, s8⟩
  · unfold fb0_law
    exact (sq_nx p1).trans ((sq_nx p2).trans ((sq_nx p3).trans ((sq_nx p4).trans ((sq_nx p5).trans ((sq_nx p6).trans p7)))))
  · exact (a1.mono (by simp)).trans ((a2.mono (by simp)).trans ((a3.mono (by simp)).trans ((a4.mono (by simp)).trans (a5.mono (by simp)))))
theorem cell_ok {ρ : GEnv} {G : Hg} {n : Int} (hl : ρ.length = 10) (nl : NoL G) (h1 : ρ[1]? = some (some (.d (.int n)))) : ∃ ρ' G', fb1_law ρ G = .nx ρ' G' ∧ ρ'.length = 10 ∧ NoL G' := by
  obtain ⟨src, hs, es⟩ := source_ok (G := G) n
  have p1 : gAsg (gFnS 1 f__law_source_of (gConsA (gVar 1) (gNilA))) (gNm 2) ρ G = .nx (ρ.set 2 (some (.ref G.length))) (G ++ [.lst src]) := as_ok (fs_ok (a_ok (v_ok h1) n_ok) rfl es)
  have s0 : SrcAt G.length (G ++ [.lst src]) := ⟨src, by rw [List.getElem?_append_right (Nat.le_refl _), Nat.sub_self]; rfl, hs, nl.app rfl⟩
  have rg : gRng1 (gConsA (gC (.int 5)) (gNilA)) (ρ.set 2 (some (.ref G.length))) (G ++ [.lst src]) = .ok (rangeW 0 5, fun _ => true) (G ++ [.lst src]) := rfl
  obtain ⟨ρ2, G2, e, l2, _, s2⟩ := forL_inv (t := gNm 3) (b := fb0_law) (ck := fun _ => true) (I := fun ρ' G' => ρ'.length = 10 ∧ ρ'[2]? = some (some (.ref G.length)) ∧ SrcAt G.length G') (P := fun _ => True) (fun _ _ _ => rfl) (fun w ρ1 G1 _ ⟨l1, r1, s1⟩ => by
    obtain ⟨ρ', G', e, ag, s'⟩ := turn_ok (ρ := ρ1.set 3 (some w)) s1 (by rw [List.length_set]; exact l1) (by rw [List.getElem?_set_ne (by decide)]; exact r1)
    exact ⟨ρ1.set 3 (some w), G1, ρ', G', rfl, e, by rw [ag.le, List.length_set]; exact l1, ag.at (by rw [List.getElem?_set_ne (by decide)]; exact r1), s'⟩) (rangeW 0 5) (ρ.set 2 (some (.ref G.length))) (G ++ [.lst src]) (fun _ _ => trivial) ⟨by rw [List.length_set]; exact hl, set_at (by rw [hl]; decide), s0⟩
  obtain ⟨_, _, _, n2⟩ := s2
  refine ⟨ρ2, G2, ?_, l2, n2⟩
  unfold fb1_law
  rw [sq_nx p1, e_for, rg, toS_ok]
  exact e
theorem cellat_ok {ns : List Int} (hn : ns.length ≤ 63) : ∃ n : Int, f__law_cell_at [.lst (ns.map .int), .int 0] = .ok (.int n) := by
  cases ns with
  | nil => exact ⟨0, rfl⟩
  | cons a r =>
    refine ⟨a, ?_⟩
    have c : gTst (gBin (fI (iCmp fun i j => decide (i < j))) (gVar 1) (gCall fLenD (gConsA (gVar 0) (gNilA)))) [some (.d (.lst ((a :: r).map .int))), some (.d (.int 0))] [] = .ok true [] := by
      refine ts_ok (b_ok (v_ok rfl) (cl_ok (a_ok (v_ok (w := .d (.lst ((a :: r).map .int))) rfl) n_ok) lenL_ok) ?_)
      rw [e_fI]
      have : decide ((0 : Int) < (((a :: r).map D.int).length : Nat)) = true := decide_eq_true (by simp <;> omega)
      show some (W.d (.bl (decide ((0 : Int) < (((a :: r).map D.int).length : Nat)))), []) = _
      rw [this]
    have key : g__law_cell_at [some (.d (.lst ((a :: r).map .int))), some (.d (.int 0))] [] = .ret (.d (.int a)) [] := by
      unfold g__law_cell_at
      have x : gIf (gTst (gBin (fI (iCmp fun i j => decide (i < j))) (gVar 1) (gCall fLenD (gConsA (gVar 0) (gNilA))))) (gRet (gBin fIxD (gVar 0) (gVar 1))) (gNil) [some (.d (.lst ((a :: r).map .int))), some (.d (.int 0))] [] = .ret (.d (.int a)) [] := by
        refine (if_t c).trans (re_ok (b_ok (v_ok (w := .d (.lst ((a :: r).map .int))) rfl) (v_ok rfl) ?_))
        rw [e_ixL, List.map_cons, List.map_cons, atI_0]
        rfl
      rw [e_seq, x]
      rfl
    show runP 2 g__law_cell_at _ = _
    unfold runP
    have ee : envP 2 [.lst ((a :: r).map .int), .int 0] = [some (.d (.lst ((a :: r).map .int))), some (.d (.int 0))] := rfl
    rw [ee, key]
    rfl
theorem law_true : ∀ ns : List Int, ns.length ≤ 63 → (∀ z ∈ ns, PySem.Builtin.Int.intBits z ≤ 1048576) → f_law [.lst (ns.map .int)] = .ok (.bl true) := fun ns hn _ => by
  obtain ⟨ρ0, hρ⟩ : ∃ ρ0, ρ0 = envP 10 [D.lst (ns.map .int)] := ⟨_, rfl⟩
  have l0 : ρ0.length = 10 := by rw [hρ]; rfl
  have h0 : ρ0[0]? = some (some (.d (.lst (ns.map .int)))) := by rw [hρ]; rfl
  obtain ⟨c, hc⟩ := cellat_ok hn
  let cells : List Int := c :: (ns.take 4).drop 1
  have x : gBin fAdd (gLst (gConsA (gFnP 2 f__law_cell_at (gConsA (gVar 0) (gConsA (gC (.int 0)) (gNilA)))) (gNilA))) (gSlice (gVar 0) (gPt (gC (.int 1))) (gPt (gC (.int 4)))) ρ0 [] = .ok (.d (.lst (cells.map .int))) [] := by
    have y1 : gLst (gConsA (gFnP 2 f__law_cell_at (gConsA (gVar 0) (gConsA (gC (.int 0)) (gNilA)))) (gNilA)) ρ0 [] = .ok (.d (.lst [.int c])) [] := ls_ok (a_ok (fp_ok (ds := [.lst (ns.map .int), .int 0]) (a_ok (v_ok h0) (a_ok c_ok n_ok)) rfl hc) n_ok) rfl rfl
    have y2 : gSlice (gVar 0) (gPt (gC (.int 1))) (gPt (gC (.int 4))) ρ0 [] = .ok (.d (.lst (((ns.take 4).drop 1).map .int))) [] := by
      rw [e_slice, v_ok h0, bind_ok, e_pt, c_ok, bind_ok, ptW_int, bind_ok, e_pt, c_ok, bind_ok, ptW_int, bind_ok]
      rw [List.map_drop, List.map_take]
      exact slice_midL (a := 1) (b := 4) (by decide)
    refine b_ok y1 y2 ?_
    rw [addL_ok (by simp; omega)]
    rfl
  have hq := e_seqI x (b := true) (ws := (cells.map D.int).map .d) rfl
  obtain ⟨ρ2, G2, e, l2, n2⟩ := forL_inv (t := gNm 1) (b := fb1_law) (ck := ckW (.d (.lst (cells.map .int))) ((cells.map D.int).map .d)) (I := fun ρ' G' => ρ'.length = 10 ∧ NoL G') (P := fun w => ∃ n, w = .d (.int n)) (fun _ _ _ => rfl) (fun w ρ1 G1 hw ⟨l1, n1⟩ => by
    obtain ⟨n, rfl⟩ := hw
    obtain ⟨ρ', G', e, l'⟩ := cell_ok (ρ := ρ1.set 1 (some (.d (.int n)))) (G := G1) (n := n) (by rw [List.length_set]; exact l1) n1 (set_at (by rw [l1]; decide))
    exact ⟨ρ1.set 1 (some (.d (.int n))), G1, ρ', G', rfl, e, l'⟩) ((cells.map D.int).map .d) ρ0 [] (fun w hw => by
    obtain ⟨d, hd, rfl⟩ := List.mem_map.mp hw
    obtain ⟨n, _, rfl⟩ := List.mem_map.mp hd
    exact ⟨n, rfl⟩) ⟨l0, rfl⟩
  have key : g_law ρ0 [] = .ret (.d (.bl true)) G2 := by
    have z : gFor (gSeqI (gBin fAdd (gLst (gConsA (gFnP 2 f__law_cell_at (gConsA (gVar 0) (gConsA (gC (.int 0)) (gNilA)))) (gNilA))) (gSlice (gVar 0) (gPt (gC (.int 1))) (gPt (gC (.int 4)))))) (gNm 1) (fb1_law) ρ0 [] = .nx ρ2 G2 := by
      rw [e_for, hq, toS_ok]
      exact e
    exact (sq_nx z).trans (re_ok c_ok)
  show runP 10 g_law _ = _
  unfold runP
  rw [← hρ, key]
  simp only
  have n3 : G2.any GO.isL = false := n2
  rw [n3]
  rfl
end K94

set_option Elab.async false
set_option linter.all false
set_option maxRecDepth 100000
set_option maxHeartbeats 0
namespace K94
open PySem PySem.Spec PyProof.Rows L2 Gh

def dd__law_source_of : He.DefD := ⟨("_law_source_of", none), "_law_source_of", "_law_source_of", defArgs s__law_source_of, defBody s__law_source_of, defScope s__law_source_of, [], []⟩
def dd__law_cell_at : He.DefD := ⟨("_law_cell_at", none), "_law_cell_at", "_law_cell_at", defArgs s__law_cell_at, defBody s__law_cell_at, defScope s__law_cell_at, [], []⟩
def dd__law_next : He.DefD := ⟨("_law_next", none), "_law_next", "_law_next", defArgs s__law_next, defBody s__law_next, defScope s__law_next, [], []⟩
def dd__law_mixed : He.DefD := ⟨("_law_mixed", none), "_law_mixed", "_law_mixed", defArgs s__law_mixed, defBody s__law_mixed, defScope s__law_mixed, [], []⟩
def dd__law_one : He.DefD := ⟨("_law_one", none), "_law_one", "_law_one", defArgs s__law_one, defBody s__law_one, defScope s__law_one, [], []⟩
def dd__law_writes : He.DefD := ⟨("_law_writes", none), "_law_writes", "_law_writes", defArgs s__law_writes, defBody s__law_writes, defScope s__law_writes, [], []⟩
def dd_is_integer : He.DefD := ⟨("is_integer", none), "is_integer", "is_integer", defArgs s_is_integer, defBody s_is_integer, defScope s_is_integer, [], []⟩
def dd_is_mark : He.DefD := ⟨("is_mark", none), "is_mark", "is_mark", defArgs s_is_mark, defBody s_is_mark, defScope s_is_mark, [], []⟩
def dd_is_write : He.DefD := ⟨("is_write", none), "is_write", "is_write", defArgs s_is_write, defBody s_is_write, defScope s_is_write, [], []⟩
def dd_look_writes : He.DefD := ⟨("look_writes", none), "look_writes", "look_writes", defArgs s_look_writes, defBody s_look_writes, defScope s_look_writes, [], []⟩
def dd_look_spare : He.DefD := ⟨("look_spare", none), "look_spare", "look_spare", defArgs s_look_spare, defBody s_look_spare, defScope s_look_spare, [], []⟩
def dd_next_free : He.DefD := ⟨("next_free", none), "next_free", "next_free", defArgs s_next_free, defBody s_next_free, defScope s_next_free, [], []⟩
def dd_redirected : He.DefD := ⟨("redirected", none), "redirected", "redirected", defArgs s_redirected, defBody s_redirected, defScope s_redirected, [], []⟩
def dd_row_of : He.DefD := ⟨("row_of", none), "row_of", "row_of", defArgs s_row_of, defBody s_row_of, defScope s_row_of, [], []⟩
def dd_sequence : He.DefD := ⟨("sequence", none), "sequence", "sequence", defArgs s_sequence, defBody s_sequence, defScope s_sequence, [], []⟩
def dd__law_rows_right : He.DefD := ⟨("_law_rows_right", none), "_law_rows_right", "_law_rows_right", defArgs s__law_rows_right, defBody s__law_rows_right, defScope s__law_rows_right, [], []⟩
def dd__law_due : He.DefD := ⟨("_law_due", none), "_law_due", "_law_due", defArgs s__law_due, defBody s__law_due, defScope s__law_due, [], []⟩
def dd_law : He.DefD := ⟨("law", none), "law", "law", defArgs s_law, defBody s_law, defScope s_law, [], []⟩
abbrev si_NoSpare : Stmt := inCls 3 0
def di_NoSpare : He.DefD := ⟨("NoSpare", some "__init__"), "__init__", "NoSpare.__init__", defArgs si_NoSpare, defBody si_NoSpare, defScope si_NoSpare, [], []⟩
theorem sci_NoSpare : FnScope ["self", "spare"] ["self", "spare"] (defScope si_NoSpare) := ⟨rfl, rfl, rfl, by decide +kernel, rfl, by decide +kernel, by decide +kernel⟩
theorem xi_NoSpare {P : Program} {w : World} {K : PySem.W.Frag} {h : Heap} {mg : Str → Option Value} {base : Heap} (X : K.In h) (G : h.Ns mainGlobals mg) {fd : FuncData} (F : FunD K "__init__" "NoSpare.__init__" (defArgs si_NoSpare) (defBody si_NoSpare) (defScope si_NoSpare) [] [] (He.fAd K ("NoSpare", some "__init__")) fd) (b : clsXb K "NoSpare" ["spare"] = true) : ClsX P w K mg base "NoSpare" ["spare"] :=
  clsXb_ok X G b (fn_init (f := "spare") (i := 1) (l := []) F sci_NoSpare rfl (by decide) rfl (by decide) (fun cdv A outer s H E => by exact .cons (by rfl) (.inl rfl) (by decide) (by decide) (by rfl) (.inl rfl) (by decide) (by decide) (by rfl) (.nil))) (F.bindsN fun _ _ _ _ _ _ us hl => match us, hl with | [_, _], _ => rfl)
abbrev si_NoWrites : Stmt := inCls 2 0
def di_NoWrites : He.DefD := ⟨("NoWrites", some "__init__"), "__init__", "NoWrites.__init__", defArgs si_NoWrites, defBody si_NoWrites, defScope si_NoWrites, [], []⟩
theorem sci_NoWrites : FnScope ["self", "at"] ["self", "at"] (defScope si_NoWrites) := ⟨rfl, rfl, rfl, by decide +kernel, rfl, by decide +kernel, by decide +kernel⟩
theorem xi_NoWrites {P : Program} {w : World} {K : PySem.W.Frag} {h : Heap} {mg : Str → Option Value} {base : Heap} (X : K.In h) (G : h.Ns mainGlobals mg) {fd : FuncData} (F : FunD K "__init__" "NoWrites.__init__" (defArgs si_NoWrites) (defBody si_NoWrites) (defScope si_NoWrites) [] [] (He.fAd K ("NoWrites", some "__init__")) fd) (b : clsXb K "NoWrites" ["at"] = true) : ClsX P w K mg base "NoWrites" ["at"] :=
  clsXb_ok X G b (fn_init (f := "at") (i := 1) (l := []) F sci_NoWrites rfl (by decide) rfl (by decide) (fun cdv A outer s H E => by exact .cons (by rfl) (.inl rfl) (by decide) (by decide) (by rfl) (.inl rfl) (by decide) (by decide) (by rfl) (.nil))) (F.bindsN fun _ _ _ _ _ _ us hl => match us, hl with | [_, _], _ => rfl)
def exL (K : PySem.W.Frag) : List Bool := [He.eqO (PySem.W.nsIn K mainGlobals "any") (some none),
  He.eqO (PySem.W.nsIn K mainGlobals "bool") (some none),
  He.eqO (PySem.W.nsIn K mainGlobals "dict") (some none),
  He.eqO (PySem.W.nsIn K mainGlobals "enumerate") (some none),
  He.eqO (PySem.W.nsIn K mainGlobals "int") (some none),
  He.eqO (PySem.W.nsIn K mainGlobals "isinstance") (some none),
  He.eqO (PySem.W.nsIn K mainGlobals "len") (some none),
  He.eqO (PySem.W.nsIn K mainGlobals "list") (some none),
  He.eqO (PySem.W.nsIn K mainGlobals "min") (some none),
  He.eqO (PySem.W.nsIn K mainGlobals "range") (some none),
  He.eqO (PySem.W.nsIn K mainGlobals "sorted") (some none),
  He.eqO (PySem.W.nsIn K mainGlobals "str") (some none),
  He.eqO (PySem.W.nsIn K mainGlobals "tuple") (some none),
  He.eqO (PySem.W.nsIn K mainGlobals "zip") (some none),
  kitTb K ku_int kb_int ko_int,
  kitTb K ku_bool kb_bool ko_bool,
  kitTb K ku_tuple kb_tuple ko_tuple,
  kitTb K ku_str kb_str ko_str,
  kitTb K ku_list_tuple kb_list_tuple ko_list_tuple,
  globb K "CONSTANTS" c_CONSTANTS,
  He.eqO (PySem.W.nsIn K mainGlobals "_law_source_of") (some (some (.ref (He.ga K "_law_source_of")))),
  He.eqO (PySem.W.nsIn K mainGlobals "_law_cell_at") (some (some (.ref (He.ga K "_law_cell_at")))),
  He.eqO (PySem.W.nsIn K mainGlobals "_law_next") (some (some (.ref (He.ga K "_law_next")))),
  He.eqO (PySem.W.nsIn K mainGlobals "_law_mixed") (some (some (.ref (He.ga K "_law_mixed")))),
  He.eqO (PySem.W.nsIn K mainGlobals "_law_one") (some (some (.ref (He.ga K "_law_one")))),
  He.eqO (PySem.W.nsIn K mainGlobals "_law_writes") (some (some (.ref (He.ga K "_law_writes")))),
  He.eqO (PySem.W.nsIn K mainGlobals "is_integer") (some (some (.ref (He.ga K "is_integer")))),
  He.eqO (PySem.W.nsIn K mainGlobals "is_mark") (some (some (.ref (He.ga K "is_mark")))),
  He.eqO (PySem.W.nsIn K mainGlobals "is_write") (some (some (.ref (He.ga K "is_write")))),
  He.eqO (PySem.W.nsIn K mainGlobals "look_writes") (some (some (.ref (He.ga K "look_writes")))),
  He.eqO (PySem.W.nsIn K mainGlobals "look_spare") (some (some (.ref (He.ga K "look_spare")))),
  He.eqO (PySem.W.nsIn K mainGlobals "next_free") (some (some (.ref (He.ga K "next_free")))),
  He.eqO (PySem.W.nsIn K mainGlobals "redirected") (some (some (.ref (He.ga K "redirected")))),
  He.eqO (PySem.W.nsIn K mainGlobals "row_of") (some (some (.ref (He.ga K "row_of")))),
  He.eqO (PySem.W.nsIn K mainGlobals "sequence") (some (some (.ref (He.ga K "sequence")))),
  He.eqO (PySem.W.nsIn K mainGlobals "_law_rows_right") (some (some (.ref (He.ga K "_law_rows_right")))),
  He.eqO (PySem.W.nsIn K mainGlobals "_law_due") (some (some (.ref (He.ga K "_law_due")))),
  He.eqO (PySem.W.nsIn K mainGlobals "law") (some (some (.ref (He.ga K "law")))),
  clsXb K "NoSpare" ["spare"],
  clsXb K "NoWrites" ["at"]]
def ex (K : PySem.W.Frag) : Bool := (exL K).all id
theorem exAt {K : PySem.W.Frag} (h : ex K = true) {b : Bool} (i : Nat) (e : (exL K)[i]? = some b := by rfl) : b = true := List.all_eq_true.mp h b (List.mem_of_getElem? e)
def fn : List He.DefD := [dd__law_source_of, dd__law_cell_at, dd__law_next, dd__law_mixed, dd__law_one, dd__law_writes, dd_is_integer, dd_is_mark, dd_is_write, dd_look_writes, dd_look_spare, dd_next_free, dd_redirected, dd_row_of, dd_sequence, dd__law_rows_right, dd__law_due, dd_law, di_NoSpare, di_NoWrites]
abbrev R : PySem.W.OpenRow := PySem.W.OpenLaw.row PySem.Challenge.rw_leastmarks_k94_whole_rows_of_writes
abbrev hk : PySem.W.Hook := He.hookX 7 [] fn [] [] ex
def ob (s : PySem.W.SharedT) : He.AlX := He.obsX 7 [] fn [] [] ex (HandSHeadRun.getT s)
theorem ob_eq (s : PySem.W.SharedT) : ob s = hk.obs s.abs := He.obsX_eq (HandSHeadRun.getT_eq s)
def loose0 : List Str := ["MarkError", "NoWrites", "NoSpare", "is_integer", "CONSTANTS", "is_mark", "is_write", "look_writes", "look_spare", "row_of", "redirected", "next_free", "sequence", "_law_cell_at", "_law_source_of", "_law_next", "_law_one", "_law_mixed", "_law_writes", "_law_due", "_law_rows_right"]
def loose : List Str := loose0
theorem run (w : World) : HandSHeadRun.RunEq R (PySem.W.view R.prog [25]) hk ob 6000 loose w := by
  intro os
  kernel_rfl
theorem facts {w : World} {mg : Str → Option Value} {fa : Addr} {h : Heap} (Y : hk.says w h) (G : h.Ns mainGlobals mg) (hmg : mg "law" = some (.ref fa)) :
    ∃ (K : PySem.W.Frag) (fd : FuncData), K.In h ∧ (∀ (s : Shared) (u : Value), BindsTo s fd ⟨[u], []⟩ [("_law_script", u)]) ∧ ∀ base : Heap, K.In base → base.Ns mainGlobals mg → FnG (PySem.Challenge.rw_leastmarks_k94_whole_rows_of_writes).prog w K mg base (L2.CX (PySem.Challenge.rw_leastmarks_k94_whole_rows_of_writes).prog w) 6 fa fd ["_law_script"] (spP ⟨K, mg, w⟩ 1 f_law) := by
  obtain ⟨K, KX, c⟩ := Y
  have m := c.more
  have T : Txt K mg := ⟨freeb_ok KX G (exAt m 0), freeb_ok KX G (exAt m 1), freeb_ok KX G (exAt m 2), freeb_ok KX G (exAt m 3), freeb_ok KX G (exAt m 4), freeb_ok KX G (exAt m 5), freeb_ok KX G (exAt m 6), freeb_ok KX G (exAt m 7), freeb_ok KX G (exAt m 8), freeb_ok KX G (exAt m 9), freeb_ok KX G (exAt m 10), freeb_ok KX G (exAt m 11), freeb_ok KX G (exAt m 12), freeb_ok KX G (exAt m 13), kitTb_ok KX G (exAt m 14), kitTb_ok KX G (exAt m 15), kitTb_ok KX G (exAt m 16), kitTb_ok KX G (exAt m 17), kitTb_ok KX G (exAt m 18), globb_ok KX G (exAt m 19)⟩
  obtain ⟨fd__law_source_of, F__law_source_of⟩ := c.t.d.def_ 0 (d := dd__law_source_of) rfl
  obtain ⟨fd__law_cell_at, F__law_cell_at⟩ := c.t.d.def_ 1 (d := dd__law_cell_at) rfl
  obtain ⟨fd__law_next, F__law_next⟩ := c.t.d.def_ 2 (d := dd__law_next) rfl
  obtain ⟨fd__law_mixed, F__law_mixed⟩ := c.t.d.def_ 3 (d := dd__law_mixed) rfl
  obtain ⟨fd__law_one, F__law_one⟩ := c.t.d.def_ 4 (d := dd__law_one) rfl
  obtain ⟨fd__law_writes, F__law_writes⟩ := c.t.d.def_ 5 (d := dd__law_writes) rfl
  obtain ⟨fd_is_integer, F_is_integer⟩ := c.t.d.def_ 6 (d := dd_is_integer) rfl
  obtain ⟨fd_is_mark, F_is_mark⟩ := c.t.d.def_ 7 (d := dd_is_mark) rfl
  obtain ⟨fd_is_write, F_is_write⟩ := c.t.d.def_ 8 (d := dd_is_write) rfl
  obtain ⟨fd_look_writes, F_look_writes⟩ := c.t.d.def_ 9 (d := dd_look_writes) rfl
  obtain ⟨fd_look_spare, F_look_spare⟩ := c.t.d.def_ 10 (d := dd_look_spare) rfl
  obtain ⟨fd_next_free, F_next_free⟩ := c.t.d.def_ 11 (d := dd_next_free) rfl
  obtain ⟨fd_redirected, F_redirected⟩ := c.t.d.def_ 12 (d := dd_redirected) rfl
  obtain ⟨fd_row_of, F_row_of⟩ := c.t.d.def_ 13 (d := dd_row_of) rfl
  obtain ⟨fd_sequence, F_sequence⟩ := c.t.d.def_ 14 (d := dd_sequence) rfl
  obtain ⟨fd__law_rows_right, F__law_rows_right⟩ := c.t.d.def_ 15 (d := dd__law_rows_right) rfl
  obtain ⟨fd__law_due, F__law_due⟩ := c.t.d.def_ 16 (d := dd__law_due) rfl
  obtain ⟨fd_law, F_law⟩ := c.t.d.def_ 17 (d := dd_law) rfl
  obtain ⟨fd_iNoSpare, F_iNoSpare⟩ := c.t.d.def_ 18 (d := di_NoSpare) rfl
  obtain ⟨fd_iNoWrites, F_iNoWrites⟩ := c.t.d.def_ 19 (d := di_NoWrites) rfl
  have g__law_source_of : mg "_law_source_of" = some (.ref (He.ga K "_law_source_of")) := glob_ok KX G (exAt m 20)
  have g__law_cell_at : mg "_law_cell_at" = some (.ref (He.ga K "_law_cell_at")) := glob_ok KX G (exAt m 21)
  have g__law_next : mg "_law_next" = some (.ref (He.ga K "_law_next")) := glob_ok KX G (exAt m 22)
  have g__law_mixed : mg "_law_mixed" = some (.ref (He.ga K "_law_mixed")) := glob_ok KX G (exAt m 23)
  have g__law_one : mg "_law_one" = some (.ref (He.ga K "_law_one")) := glob_ok KX G (exAt m 24)
  have g__law_writes : mg "_law_writes" = some (.ref (He.ga K "_law_writes")) := glob_ok KX G (exAt m 25)
  have g_is_integer : mg "is_integer" = some (.ref (He.ga K "is_integer")) := glob_ok KX G (exAt m 26)
  have g_is_mark : mg "is_mark" = some (.ref (He.ga K "is_mark")) := glob_ok KX G (exAt m 27)
  have g_is_write : mg "is_write" = some (.ref (He.ga K "is_write")) := glob_ok KX G (exAt m 28)
  have g_look_writes : mg "look_writes" = some (.ref (He.ga K "look_writes")) := glob_ok KX G (exAt m 29)
  have g_look_spare : mg "look_spare" = some (.ref (He.ga K "look_spare")) := glob_ok KX G (exAt m 30)
  have g_next_free : mg "next_free" = some (.ref (He.ga K "next_free")) := glob_ok KX G (exAt m 31)
  have g_redirected : mg "redirected" = some (.ref (He.ga K "redirected")) := glob_ok KX G (exAt m 32)
  have g_row_of : mg "row_of" = some (.ref (He.ga K "row_of")) := glob_ok KX G (exAt m 33)
  have g_sequence : mg "sequence" = some (.ref (He.ga K "sequence")) := glob_ok KX G (exAt m 34)
  have g__law_rows_right : mg "_law_rows_right" = some (.ref (He.ga K "_law_rows_right")) := glob_ok KX G (exAt m 35)
  have g__law_due : mg "_law_due" = some (.ref (He.ga K "_law_due")) := glob_ok KX G (exAt m 36)
  have g_law : mg "law" = some (.ref (He.ga K "law")) := glob_ok KX G (exAt m 37)
  have e := hmg.symm.trans g_law
  cases e
  have B__law_source_of : Binds K fd__law_source_of ["_law_cell"] [] := FunD.bindsN F__law_source_of fun _ _ _ _ _ _ us hl => match us, hl with | [_], _ => rfl
  have B__law_cell_at : Binds K fd__law_cell_at ["_law_script", "_law_k"] [] := FunD.bindsN F__law_cell_at fun _ _ _ _ _ _ us hl => match us, hl with | [_, _], _ => rfl
  have B__law_next : Binds K fd__law_next ["_law_source", "_law_many"] [] := FunD.bindsN F__law_next fun _ _ _ _ _ _ us hl => match us, hl with | [_, _], _ => rfl
  have B__law_mixed : Binds K fd__law_mixed ["_law_source", "_law_some"] [] := FunD.bindsN F__law_mixed fun _ _ _ _ _ _ us hl => match us, hl with | [_, _], _ => rfl
  have B__law_one : Binds K fd__law_one ["_law_source", "_law_some"] [] := FunD.bindsN F__law_one fun _ _ _ _ _ _ us hl => match us, hl with | [_, _], _ => rfl
  have B__law_writes : Binds K fd__law_writes ["_law_source", "_law_marks"] [] := FunD.bindsN F__law_writes fun _ _ _ _ _ _ us hl => match us, hl with | [_, _], _ => rfl
  have B_is_integer : Binds K fd_is_integer ["value"] [] := FunD.bindsN F_is_integer fun _ _ _ _ _ _ us hl => match us, hl with | [_], _ => rfl
  have B_is_mark : Binds K fd_is_mark ["value"] [] := FunD.bindsN F_is_mark fun _ _ _ _ _ _ us hl => match us, hl with | [_], _ => rfl
  have B_is_write : Binds K fd_is_write ["value"] [] := FunD.bindsN F_is_write fun _ _ _ _ _ _ us hl => match us, hl with | [_], _ => rfl
  have B_look_writes : Binds K fd_look_writes ["writes"] [] := FunD.bindsN F_look_writes fun _ _ _ _ _ _ us hl => match us, hl with | [_], _ => rfl
  have B_look_spare : Binds K fd_look_spare ["writes", "spare"] [] := FunD.bindsN F_look_spare fun _ _ _ _ _ _ us hl => match us, hl with | [_, _], _ => rfl
  have B_next_free : Binds K fd_next_free ["left"] [] := FunD.bindsN F_next_free fun _ _ _ _ _ _ us hl => match us, hl with | [_], _ => rfl
  have B_redirected : Binds K fd_redirected ["left", "mark", "other"] [] := FunD.bindsN F_redirected fun _ _ _ _ _ _ us hl => match us, hl with | [_, _, _], _ => rfl
  have B_row_of : Binds K fd_row_of ["mark", "source"] [] := FunD.bindsN F_row_of fun _ _ _ _ _ _ us hl => match us, hl with | [_, _], _ => rfl
  have B_sequence : Binds K fd_sequence ["writes", "spare"] [] := FunD.bindsN F_sequence fun _ _ _ _ _ _ us hl => match us, hl with | [_, _], _ => rfl
  have B__law_rows_right : Binds K fd__law_rows_right ["_law_source", "_law_writes_here", "_law_spare", "_law_rows"] [] := FunD.bindsN F__law_rows_right fun _ _ _ _ _ _ us hl => match us, hl with | [_, _, _, _], _ => rfl
  have B__law_due : Binds K fd__law_due ["_law_writes_here"] [] := FunD.bindsN F__law_due fun _ _ _ _ _ _ us hl => match us, hl with | [_], _ => rfl
  have B_law : Binds K fd_law ["_law_script"] [] := FunD.bindsN F_law fun _ _ _ _ _ _ us hl => match us, hl with | [_], _ => rfl
  refine ⟨K, fd_law, KX, fun s u => FunD.bindsA (ps := ["_law_script"]) F_law (fun _ _ _ _ _ _ us hl => match us, hl with | [_], _ => rfl) s [u] rfl, fun base _ _ => ?_⟩
  have X_NoSpare : ClsX (PySem.Challenge.rw_leastmarks_k94_whole_rows_of_writes).prog w K mg base "NoSpare" ["spare"] := xi_NoSpare KX G F_iNoSpare (exAt m 38)
  have X_NoWrites : ClsX (PySem.Challenge.rw_leastmarks_k94_whole_rows_of_writes).prog w K mg base "NoWrites" ["at"] := xi_NoWrites KX G F_iNoWrites (exAt m 39)
  have O__law_source_of : FnG (PySem.Challenge.rw_leastmarks_k94_whole_rows_of_writes).prog w K mg base (L2.CX (PySem.Challenge.rw_leastmarks_k94_whole_rows_of_writes).prog w) 1 (He.ga K "_law_source_of") fd__law_source_of ["_law_cell"] (spS ⟨K, mg, w⟩ 1 f__law_source_of) := fn_s F__law_source_of sc__law_source_of (b__law_source_of T  )
  have C__law_source_of : CalX (PySem.Challenge.rw_leastmarks_k94_whole_rows_of_writes).prog w K mg base 1 "_law_source_of" (spS ⟨K, mg, w⟩ 1 f__law_source_of) := ⟨_, fd__law_source_of, _, O__law_source_of, g__law_source_of, F__law_source_of.kp, B__law_source_of⟩
  have O__law_cell_at : FnG (PySem.Challenge.rw_leastmarks_k94_whole_rows_of_writes).prog w K mg base (L2.CX (PySem.Challenge.rw_leastmarks_k94_whole_rows_of_writes).prog w) 1 (He.ga K "_law_cell_at") fd__law_cell_at ["_law_script", "_law_k"] (spP ⟨K, mg, w⟩ 2 f__law_cell_at) := fn_p F__law_cell_at sc__law_cell_at (b__law_cell_at T  )
  have C__law_cell_at : CalX (PySem.Challenge.rw_leastmarks_k94_whole_rows_of_writes).prog w K mg base 1 "_law_cell_at" (spP ⟨K, mg, w⟩ 2 f__law_cell_at) := ⟨_, fd__law_cell_at, _, O__law_cell_at, g__law_cell_at, F__law_cell_at.kp, B__law_cell_at⟩
  have O__law_next : FnG (PySem.Challenge.rw_leastmarks_k94_whole_rows_of_writes).prog w K mg base (L2.CX (PySem.Challenge.rw_leastmarks_k94_whole_rows_of_writes).prog w) 1 (He.ga K "_law_next") fd__law_next ["_law_source", "_law_many"] (spS ⟨K, mg, w⟩ 2 f__law_next) := fn_s F__law_next sc__law_next (b__law_next T  )
  have C__law_next : CalX (PySem.Challenge.rw_leastmarks_k94_whole_rows_of_writes).prog w K mg base 1 "_law_next" (spS ⟨K, mg, w⟩ 2 f__law_next) := ⟨_, fd__law_next, _, O__law_next, g__law_next, F__law_next.kp, B__law_next⟩
  have O__law_mixed : FnG (PySem.Challenge.rw_leastmarks_k94_whole_rows_of_writes).prog w K mg base (L2.CX (PySem.Challenge.rw_leastmarks_k94_whole_rows_of_writes).prog w) 2 (He.ga K "_law_mixed") fd__law_mixed ["_law_source", "_law_some"] (spS ⟨K, mg, w⟩ 2 f__law_mixed) := fn_s F__law_mixed sc__law_mixed (b__law_mixed T C__law_next )
  have C__law_mixed : CalX (PySem.Challenge.rw_leastmarks_k94_whole_rows_of_writes).prog w K mg base 2 "_law_mixed" (spS ⟨K, mg, w⟩ 2 f__law_mixed) := ⟨_, fd__law_mixed, _, O__law_mixed, g__law_mixed, F__law_mixed.kp, B__law_mixed⟩
  have O__law_one : FnG (PySem.Challenge.rw_leastmarks_k94_whole_rows_of_writes).prog w K mg base (L2.CX (PySem.Challenge.rw_leastmarks_k94_whole_rows_of_writes).prog w) 2 (He.ga K "_law_one") fd__law_one ["_law_source", "_law_some"] (spS ⟨K, mg, w⟩ 2 f__law_one) := fn_s F__law_one sc__law_one (b__law_one T C__law_next )
  have C__law_one : CalX (PySem.Challenge.rw_leastmarks_k94_whole_rows_of_writes).prog w K mg base 2 "_law_one" (spS ⟨K, mg, w⟩ 2 f__law_one) := ⟨_, fd__law_one, _, O__law_one, g__law_one, F__law_one.kp, B__law_one⟩
  have O__law_writes : FnG (PySem.Challenge.rw_leastmarks_k94_whole_rows_of_writes).prog w K mg base (L2.CX (PySem.Challenge.rw_leastmarks_k94_whole_rows_of_writes).prog w) 3 (He.ga K "_law_writes") fd__law_writes ["_law_source", "_law_marks"] (spS ⟨K, mg, w⟩ 2 f__law_writes) := fn_s F__law_writes sc__law_writes (b__law_writes T C__law_mixed C__law_next C__law_one )
  have C__law_writes : CalX (PySem.Challenge.rw_leastmarks_k94_whole_rows_of_writes).prog w K mg base 3 "_law_writes" (spS ⟨K, mg, w⟩ 2 f__law_writes) := ⟨_, fd__law_writes, _, O__law_writes, g__law_writes, F__law_writes.kp, B__law_writes⟩
  have O_is_integer : FnG (PySem.Challenge.rw_leastmarks_k94_whole_rows_of_writes).prog w K mg base (L2.CX (PySem.Challenge.rw_leastmarks_k94_whole_rows_of_writes).prog w) 1 (He.ga K "is_integer") fd_is_integer ["value"] (spP ⟨K, mg, w⟩ 1 f_is_integer) := fn_p F_is_integer sc_is_integer (b_is_integer T  )
  have C_is_integer : CalX (PySem.Challenge.rw_leastmarks_k94_whole_rows_of_writes).prog w K mg base 1 "is_integer" (spP ⟨K, mg, w⟩ 1 f_is_integer) := ⟨_, fd_is_integer, _, O_is_integer, g_is_integer, F_is_integer.kp, B_is_integer⟩
  have O_is_mark : FnG (PySem.Challenge.rw_leastmarks_k94_whole_rows_of_writes).prog w K mg base (L2.CX (PySem.Challenge.rw_leastmarks_k94_whole_rows_of_writes).prog w) 2 (He.ga K "is_mark") fd_is_mark ["value"] (spP ⟨K, mg, w⟩ 1 f_is_mark) := fn_p F_is_mark sc_is_mark (b_is_mark T C_is_integer )
  have C_is_mark : CalX (PySem.Challenge.rw_leastmarks_k94_whole_rows_of_writes).prog w K mg base 2 "is_mark" (spP ⟨K, mg, w⟩ 1 f_is_mark) := ⟨_, fd_is_mark, _, O_is_mark, g_is_mark, F_is_mark.kp, B_is_mark⟩
  have O_is_write : FnG (PySem.Challenge.rw_leastmarks_k94_whole_rows_of_writes).prog w K mg base (L2.CX (PySem.Challenge.rw_leastmarks_k94_whole_rows_of_writes).prog w) 3 (He.ga K "is_write") fd_is_write ["value"] (spP ⟨K, mg, w⟩ 1 f_is_write) := fn_p F_is_write sc_is_write (b_is_write T C_is_mark )
  have C_is_write : CalX (PySem.Challenge.rw_leastmarks_k94_whole_rows_of_writes).prog w K mg base 3 "is_write" (spP ⟨K, mg, w⟩ 1 f_is_write) := ⟨_, fd_is_write, _, O_is_write, g_is_write, F_is_write.kp, B_is_write⟩
  have O_look_writes : FnG (PySem.Challenge.rw_leastmarks_k94_whole_rows_of_writes).prog w K mg base (L2.CX (PySem.Challenge.rw_leastmarks_k94_whole_rows_of_writes).prog w) 4 (He.ga K "look_writes") fd_look_writes ["writes"] (spP ⟨K, mg, w⟩ 1 f_look_writes) := fn_p F_look_writes sc_look_writes (b_look_writes T C_is_write X_NoWrites)
  have C_look_writes : CalX (PySem.Challenge.rw_leastmarks_k94_whole_rows_of_writes).prog w K mg base 4 "look_writes" (spP ⟨K, mg, w⟩ 1 f_look_writes) := ⟨_, fd_look_writes, _, O_look_writes, g_look_writes, F_look_writes.kp, B_look_writes⟩
  have O_look_spare : FnG (PySem.Challenge.rw_leastmarks_k94_whole_rows_of_writes).prog w K mg base (L2.CX (PySem.Challenge.rw_leastmarks_k94_whole_rows_of_writes).prog w) 3 (He.ga K "look_spare") fd_look_spare ["writes", "spare"] (spP ⟨K, mg, w⟩ 2 f_look_spare) := fn_p F_look_spare sc_look_spare (b_look_spare T C_is_mark X_NoSpare)
  have C_look_spare : CalX (PySem.Challenge.rw_leastmarks_k94_whole_rows_of_writes).prog w K mg base 3 "look_spare" (spP ⟨K, mg, w⟩ 2 f_look_spare) := ⟨_, fd_look_spare, _, O_look_spare, g_look_spare, F_look_spare.kp, B_look_spare⟩
  have O_next_free : FnG (PySem.Challenge.rw_leastmarks_k94_whole_rows_of_writes).prog w K mg base (L2.CX (PySem.Challenge.rw_leastmarks_k94_whole_rows_of_writes).prog w) 1 (He.ga K "next_free") fd_next_free ["left"] (spS ⟨K, mg, w⟩ 1 f_next_free) := fn_s F_next_free sc_next_free (b_next_free T  )
  have C_next_free : CalX (PySem.Challenge.rw_leastmarks_k94_whole_rows_of_writes).prog w K mg base 1 "next_free" (spS ⟨K, mg, w⟩ 1 f_next_free) := ⟨_, fd_next_free, _, O_next_free, g_next_free, F_next_free.kp, B_next_free⟩
  have O_redirected : FnG (PySem.Challenge.rw_leastmarks_k94_whole_rows_of_writes).prog w K mg base (L2.CX (PySem.Challenge.rw_leastmarks_k94_whole_rows_of_writes).prog w) 1 (He.ga K "redirected") fd_redirected ["left", "mark", "other"] (spS ⟨K, mg, w⟩ 3 f_redirected) := fn_s F_redirected sc_redirected (b_redirected T  )
  have C_redirected : CalX (PySem.Challenge.rw_leastmarks_k94_whole_rows_of_writes).prog w K mg base 1 "redirected" (spS ⟨K, mg, w⟩ 3 f_redirected) := ⟨_, fd_redirected, _, O_redirected, g_redirected, F_redirected.kp, B_redirected⟩
  have O_row_of : FnG (PySem.Challenge.rw_leastmarks_k94_whole_rows_of_writes).prog w K mg base (L2.CX (PySem.Challenge.rw_leastmarks_k94_whole_rows_of_writes).prog w) 1 (He.ga K "row_of") fd_row_of ["mark", "source"] (spP ⟨K, mg, w⟩ 2 f_row_of) := fn_p F_row_of sc_row_of (b_row_of T  )
  have C_row_of : CalX (PySem.Challenge.rw_leastmarks_k94_whole_rows_of_writes).prog w K mg base 1 "row_of" (spP ⟨K, mg, w⟩ 2 f_row_of) := ⟨_, fd_row_of, _, O_row_of, g_row_of, F_row_of.kp, B_row_of⟩
  have O_sequence : FnG (PySem.Challenge.rw_leastmarks_k94_whole_rows_of_writes).prog w K mg base (L2.CX (PySem.Challenge.rw_leastmarks_k94_whole_rows_of_writes).prog w) 5 (He.ga K "sequence") fd_sequence ["writes", "spare"] (spP ⟨K, mg, w⟩ 2 f_sequence) := fn_p F_sequence sc_sequence (b_sequence T C_look_spare C_look_writes C_next_free C_redirected C_row_of )
  have C_sequence : CalX (PySem.Challenge.rw_leastmarks_k94_whole_rows_of_writes).prog w K mg base 5 "sequence" (spP ⟨K, mg, w⟩ 2 f_sequence) := ⟨_, fd_sequence, _, O_sequence, g_sequence, F_sequence.kp, B_sequence⟩
  have O__law_rows_right : FnG (PySem.Challenge.rw_leastmarks_k94_whole_rows_of_writes).prog w K mg base (L2.CX (PySem.Challenge.rw_leastmarks_k94_whole_rows_of_writes).prog w) 2 (He.ga K "_law_rows_right") fd__law_rows_right ["_law_source", "_law_writes_here", "_law_spare", "_law_rows"] (spS ⟨K, mg, w⟩ 4 f__law_rows_right) := fn_s F__law_rows_right sc__law_rows_right (b__law_rows_right T C__law_next )
  have C__law_rows_right : CalX (PySem.Challenge.rw_leastmarks_k94_whole_rows_of_writes).prog w K mg base 2 "_law_rows_right" (spS ⟨K, mg, w⟩ 4 f__law_rows_right) := ⟨_, fd__law_rows_right, _, O__law_rows_right, g__law_rows_right, F__law_rows_right.kp, B__law_rows_right⟩
  have O__law_due : FnG (PySem.Challenge.rw_leastmarks_k94_whole_rows_of_writes).prog w K mg base (L2.CX (PySem.Challenge.rw_leastmarks_k94_whole_rows_of_writes).prog w) 1 (He.ga K "_law_due") fd__law_due ["_law_writes_here"] (spP ⟨K, mg, w⟩ 1 f__law_due) := fn_p F__law_due sc__law_due (b__law_due T  )
  have C__law_due : CalX (PySem.Challenge.rw_leastmarks_k94_whole_rows_of_writes).prog w K mg base 1 "_law_due" (spP ⟨K, mg, w⟩ 1 f__law_due) := ⟨_, fd__law_due, _, O__law_due, g__law_due, F__law_due.kp, B__law_due⟩
  have O_law : FnG (PySem.Challenge.rw_leastmarks_k94_whole_rows_of_writes).prog w K mg base (L2.CX (PySem.Challenge.rw_leastmarks_k94_whole_rows_of_writes).prog w) 6 (He.ga K "law") fd_law ["_law_script"] (spP ⟨K, mg, w⟩ 1 f_law) := fn_p F_law sc_law (b_law T C__law_cell_at C__law_due C__law_mixed C__law_next C__law_rows_right C__law_source_of C__law_writes C_sequence )
  exact O_law
end K94
open PySem PySem.W PySem.Calls PyProof.Rows
theorem PySem.Challenge.cw_leastmarks_k94_whole_rows_of_writes_holds : PySem.Challenge.rw_leastmarks_k94_whole_rows_of_writes.Holds := by
  w_on; o_law
  refine HandSHeadRun.head_any (r := OpenLaw.row PySem.Challenge.rw_leastmarks_k94_whole_rows_of_writes) (q := view (OpenLaw.row PySem.Challenge.rw_leastmarks_k94_whole_rows_of_writes).prog [25]) (H := K94.hk) (ob := K94.ob) (M := 6000) (loose := K94.loose) (d := HandSHeadRun.topDef (OpenLaw.row PySem.Challenge.rw_leastmarks_k94_whole_rows_of_writes).prog 25) (kwd := []) K94.ob_eq
    (by kernel_rfl) (fun s => by kernel_rfl) K94.run (by kernel_rfl) (by kernel_rfl) (by kernel_rfl) (by rfl) (by first | assumption | decide +kernel) (by decide +kernel) ⟨rfl, rfl, rfl, rfl, rfl, by decide +kernel⟩ ?hw ?hc
  case hw => w_witness2
  case hc =>
    refine Gh.walk_ofW (l := PySem.Challenge.rw_leastmarks_k94_whole_rows_of_writes) (n := 63) (k := 6) (x := "_law_script") (f := K94.f_law) rfl (by decide) (by kernel_rfl) ⟨rfl, by decide, by decide⟩ ?F K94.law_true
    intro w mg fa h Y G hmg0
    have hmg : mg ("law" : PySem.Str) = some (.ref fa) := by
      have e : (HandSHeadRun.topDef (OpenLaw.row PySem.Challenge.rw_leastmarks_k94_whole_rows_of_writes).prog 25).name = ("law" : PySem.Str) := by kernel_rfl
      rw [← e]
      exact hmg0
    exact K94.facts Y G hmg
#print axioms PySem.Challenge.cw_leastmarks_k94_whole_rows_of_writes_holds

