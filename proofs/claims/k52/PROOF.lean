import PyProof.Rows.All
import Wide.All
import OpenK.AllK
import Wide.FinOn
import HandS.ForMost
import HandS.TupAny
import HandS.TupMul
import HandS.Deep
import HandS.Style
import HandS.IsInst
import HandS.TupSets
import HandS.HeadHook2
import HandS.HeadEnd
import HandS.Head2
import KE.KTupSum
import PyProof.SeqIndex
import KE.KIndexOf
import HandS.SetFor
import HandS.SortInts
import KE.SortData
import HandS.Conv
import HandS.Codes
import HandS.Base
import HandS.Call
import HandS.Ends
import HandS.More
import HandS.Words
import HandS.WordsExc
import HandS.Defaults
import HandS.Head0
import HandS.Head1
import HandS.HeadHook1
import PySem.Challenge.RW_oneline_k52_odd_crossings_and_pairs
set_option Elab.async false
set_option linter.all false
set_option maxRecDepth 100000
namespace Ol
open PySem PySem.Spec PyProof.Rows L2

/-! ## values -/
inductive D where
  | non | bl (b : Bool) | int (i : Int) | str (x : Str) | tup (ds : List D) | frl (ds : List D) | ref (n : Nat)
inductive O where
  | lst (ds : List D)
abbrev Sto := List O

/-- a list that nobody writes -/
def RL (K : PySem.W.Frag) (H : Hp) (a : Addr) (vs : List V) : Prop :=
  (∃ o, H a = some (.frz o (.lst vs))) ∨ ∃ (o : Obj) (its : Array Value) (n : Nat), K.lookup a = some o ∧ o.cls = .type "list" ∧ o.dict = none ∧ o.data = .seq its n ∧ its.size ≤ sizeLine ∧ Vals vs its.toList
theorem RL.sq {K : PySem.W.Frag} {H : Hp} {a : Addr} {vs : List V} (h : RL K H a vs) : SqL K H a vs := by
  rcases h with ⟨o, h⟩ | h
  · exact .inl (.inr ⟨o, h⟩)
  · exact .inr h
/-- a tuple as it was made: its object is known, it has no dict -/
def tupO (its : List Value) : Obj := { cls := .type "tuple", data := .seq its.toArray }
def TupAt (H : Hp) (a : Addr) (vs : List V) : Prop := ∃ its : List Value, H a = some (.frz (tupO its) (.tup vs))
theorem TupAt.sq {K : PySem.W.Frag} {H : Hp} {a : Addr} {vs : List V} (h : TupAt H a vs) : SqT K H a vs := by
  obtain ⟨its, h⟩ := h
  exact .inl (.inr ⟨_, h⟩)
mutual
def RD (K : PySem.W.Frag) (ρ : List Addr) (H : Hp) : D → V → Prop
  | .non, v => v = .non
  | .bl b, v => v = .bl b
  | .int i, v => v = .int i
  | .str x, v => v = .str x
  | .tup ds, v => ds.length ≤ sizeLine ∧ ∃ a vs, v = .ref a ∧ TupAt H a vs ∧ RDs K ρ H ds vs
  | .frl ds, v => ds.length ≤ sizeLine ∧ ∃ a vs, v = .ref a ∧ RL K H a vs ∧ RDs K ρ H ds vs
  | .ref n, v => ∃ a, v = .ref a ∧ ρ[n]? = some a
def RDs (K : PySem.W.Frag) (ρ : List Addr) (H : Hp) : List D → List V → Prop
  | [], vs => vs = []
  | d :: ds, vs => ∃ v r, vs = v :: r ∧ RD K ρ H d v ∧ RDs K ρ H ds r
end
structure SOk (K : PySem.W.Frag) (ρ : List Addr) (H : Hp) (S : Sto) : Prop where
  len : ρ.length = S.length
  nd : ρ.Nodup
  fit : ∀ (n : Nat) (ds : List D), S[n]? = some (O.lst ds) → ds.length ≤ sizeLine
  lst : ∀ (n : Nat) (ds : List D), S[n]? = some (O.lst ds) → ∃ a vs, ρ[n]? = some a ∧ H a = some (.lst vs) ∧ RDs K ρ H ds vs
structure Step (ρ : List Addr) (H : Hp) (ρ' : List Addr) (H' : Hp) : Prop where
  pre : ρ <+: ρ'
  new : ∀ a, a ∈ ρ' → a ∉ ρ → H a = none
  keep : ∀ a o, H a = some o → a ∉ ρ → H' a = some o
theorem Step.refl (ρ : List Addr) (H : Hp) : Step ρ H ρ H := ⟨List.prefix_rfl, fun a h n => absurd h n, fun _ _ h _ => h⟩
theorem Step.trans {ρ ρ1 ρ2 : List Addr} {H H1 H2 : Hp} (a : Step ρ H ρ1 H1) (b : Step ρ1 H1 ρ2 H2) : Step ρ H ρ2 H2 where
  pre := a.pre.trans b.pre
  new := fun x h n => by
    by_cases h1 : x ∈ ρ1
    · exact a.new x h1 n
    · have e := b.new x h h1
      cases q : H x with
      | none => rfl
      | some o => rw [a.keep x o q n] at e; cases e
  keep := fun x o h n => by
    have h1 := a.keep x o h n
    refine b.keep x o h1 fun m => ?_
    rw [a.new x m n] at h; cases h
/-- an address of the store holds no tuple and nothing locked -/
def NT (ρ : List Addr) (H : Hp) : Prop := ∀ a, a ∈ ρ → ∃ vs, H a = some (.lst vs)
theorem SOk.nt {K : PySem.W.Frag} {ρ : List Addr} {H : Hp} {S : Sto} (s : SOk K ρ H S) : NT ρ H := fun a h => by
  obtain ⟨n, hn, e⟩ := List.mem_iff_getElem.mp h
  have hs : n < S.length := by rw [← s.len]; exact hn
  cases q : S[n] with
  | lst ds =>
    obtain ⟨b, vs, h1, h2, _⟩ := s.lst n ds (by rw [List.getElem?_eq_getElem hs, q])
    rw [List.getElem?_eq_getElem hn, e] at h1
    cases h1
    exact ⟨vs, h2⟩
section
variable {K : PySem.W.Frag} {ρ ρ' : List Addr} {H H' : Hp} {S S' : Sto}
theorem Step.tupAt {a : Addr} {vs : List V} (s : Step ρ H ρ' H') (n : NT ρ H) (h : TupAt H a vs) : TupAt H' a vs := by
  obtain ⟨its, h⟩ := h
  refine ⟨its, s.keep _ _ h fun m => ?_⟩
  obtain ⟨xs, e⟩ := n a m
  rw [e] at h; cases h
theorem Step.rl {a : Addr} {vs : List V} (s : Step ρ H ρ' H') (n : NT ρ H) (h : RL K H a vs) : RL K H' a vs := by
  rcases h with ⟨o, h⟩ | h
  · refine .inl ⟨o, s.keep _ _ h fun m => ?_⟩
    obtain ⟨xs, e⟩ := n a m
    rw [e] at h; cases h
  · exact .inr h
theorem pre_get {α : Type} {l l' : List α} (h : l <+: l') {n : Nat} {a : α} (e : l[n]? = some a) : l'[n]? = some a := by
  obtain ⟨t, rfl⟩ := h
  have hn := (List.getElem?_eq_some_iff.mp e).1
  rw [List.getElem?_append_left hn]; exact e
mutual
theorem RD.gen (p : ρ <+: ρ') (t : ∀ a vs, TupAt H a vs → TupAt H' a vs) (l : ∀ a vs, RL K H a vs → RL K H' a vs) : ∀ (d : D) (v : V), RD K ρ H d v → RD K ρ' H' d v
  | .non, _, h => by simpa [RD] using h
  | .bl _, _, h => by simpa [RD] using h
  | .int _, _, h => by simpa [RD] using h
  | .str _, _, h => by simpa [RD] using h
  | .tup ds, v, h => by
    simp only [RD] at h ⊢
    obtain ⟨z, a, vs, e, h1, h2⟩ := h
    exact ⟨z, a, vs, e, t _ _ h1, RDs.gen p t l ds vs h2⟩
  | .frl ds, v, h => by
    simp only [RD] at h ⊢
    obtain ⟨z, a, vs, e, h1, h2⟩ := h
    exact ⟨z, a, vs, e, l _ _ h1, RDs.gen p t l ds vs h2⟩
  | .ref k, v, h => by
    simp only [RD] at h ⊢
    obtain ⟨a, e, h1⟩ := h
    exact ⟨a, e, pre_get p h1⟩
theorem RDs.gen (p : ρ <+: ρ') (t : ∀ a vs, TupAt H a vs → TupAt H' a vs) (l : ∀ a vs, RL K H a vs → RL K H' a vs) : ∀ (ds : List D) (vs : List V), RDs K ρ H ds vs → RDs K ρ' H' ds vs
  | [], _, h => by simpa [RDs] using h
  | d :: ds, vs, h => by
    simp only [RDs] at h ⊢
    obtain ⟨v, r, e, h1, h2⟩ := h
    exact ⟨v, r, e, RD.gen p t l d v h1, RDs.gen p t l ds r h2⟩
end
theorem RD.mono (s : Step ρ H ρ' H') (n : NT ρ H) (d : D) (v : V) (h : RD K ρ H d v) : RD K ρ' H' d v := RD.gen s.pre (fun _ _ => s.tupAt n) (fun _ _ => s.rl n) d v h
theorem RDs.mono (s : Step ρ H ρ' H') (n : NT ρ H) (ds : List D) (vs : List V) (h : RDs K ρ H ds vs) : RDs K ρ' H' ds vs := RDs.gen s.pre (fun _ _ => s.tupAt n) (fun _ _ => s.rl n) ds vs h
theorem RD.pre (p : ρ <+: ρ') (d : D) (v : V) (h : RD K ρ H d v) : RD K ρ' H d v := RD.gen p (fun _ _ h => h) (fun _ _ h => h) d v h
theorem RDs.pre (p : ρ <+: ρ') (ds : List D) (vs : List V) (h : RDs K ρ H ds vs) : RDs K ρ' H ds vs := RDs.gen p (fun _ _ h => h) (fun _ _ h => h) ds vs h
end
/-! ## no new reference within -/
mutual
def D.low (n : Nat) : D → Bool
  | .tup ds => lows n ds
  | .frl ds => lows n ds
  | .ref k => decide (k < n)
  | .non => true
  | .bl _ => true
  | .int _ => true
  | .str _ => true
def lows (n : Nat) : List D → Bool
  | [] => true
  | d :: ds => D.low n d && lows n ds
end
def O.low (n : Nat) : O → Bool
  | .lst ds => lows n ds
section
variable {K : PySem.W.Frag} {ρ : List Addr} {H : Hp}
mutual
theorem RD.cut (n : Nat) : ∀ (d : D) (v : V), d.low n = true → RD K ρ H d v → RD K (ρ.take n) H d v
  | .non, _, _, h => by simpa [RD] using h
  | .bl _, _, _, h => by simpa [RD] using h
  | .int _, _, _, h => by simpa [RD] using h
  | .str _, _, _, h => by simpa [RD] using h
  | .tup ds, v, b, h => by
    simp only [RD] at h ⊢
    obtain ⟨z, a, vs, e, h1, h2⟩ := h
    exact ⟨z, a, vs, e, h1, RDs.cut n ds vs (by simpa [D.low] using b) h2⟩
  | .frl ds, v, b, h => by
    simp only [RD] at h ⊢
    obtain ⟨z, a, vs, e, h1, h2⟩ := h
    exact ⟨z, a, vs, e, h1, RDs.cut n ds vs (by simpa [D.low] using b) h2⟩
  | .ref k, v, b, h => by
    simp only [RD] at h ⊢
    obtain ⟨a, e, h1⟩ := h
    have hk : k < n := by simpa [D.low] using b
    exact ⟨a, e, by rw [List.getElem?_take_of_lt hk]; exact h1⟩
theorem RDs.cut (n : Nat) : ∀ (ds : List D) (vs : List V), lows n ds = true → RDs K ρ H ds vs → RDs K (ρ.take n) H ds vs
  | [], _, _, h => by simpa [RDs] using h
  | d :: ds, vs, b, h => by
    simp only [RDs] at h ⊢
    obtain ⟨v, r, e, h1, h2⟩ := h
    have b' : d.low n = true ∧ lows n ds = true := by simpa [lows] using b
    exact ⟨v, r, e, RD.cut n d v b'.1 h1, RDs.cut n ds r b'.2 h2⟩
end
theorem SOk.cut {S : Sto} (s : SOk K ρ H S) (n : Nat) (b : (S.take n).all (O.low n) = true) : SOk K (ρ.take n) H (S.take n) where
  len := by rw [List.length_take, List.length_take, s.len]
  nd := s.nd.sublist (List.take_sublist n ρ)
  fit := fun k ds e => by
    have hk : k < n := by
      have := (List.getElem?_eq_some_iff.mp e).1
      rw [List.length_take] at this; omega
    rw [List.getElem?_take_of_lt hk] at e
    exact s.fit k ds e
  lst := fun k ds e => by
    have hk : k < n := by
      have := (List.getElem?_eq_some_iff.mp e).1
      rw [List.length_take] at this; omega
    rw [List.getElem?_take_of_lt hk] at e
    obtain ⟨a, vs, h1, h2, h3⟩ := s.lst k ds e
    refine ⟨a, vs, by rw [List.getElem?_take_of_lt hk]; exact h1, h2, RDs.cut n ds vs ?_ h3⟩
    have hm : O.lst ds ∈ S.take n := List.mem_of_getElem? (i := k) (by rw [List.getElem?_take_of_lt hk]; exact e)
    exact List.all_eq_true.mp b _ hm
end
/-- what a call leaves of the store -/
def gc (n : Nat) (d : D) (S : Sto) : D × Sto := if (d.low n && (S.take n).all (O.low n)) = true then (d, S.take n) else (d, S)

/-! ## environments -/
abbrev En := List (Option D)
structure RE (K : PySem.W.Frag) (ρ : List Addr) (H : Hp) (σ : L2.St) (η : En) : Prop where
  len : σ.length = η.length
  get : ∀ (i : Nat) (d : D), η[i]? = some (some d) → ∃ v, σ[i]? = some (some v) ∧ RD K ρ H d v
section
variable {K : PySem.W.Frag} {ρ ρ' : List Addr} {H H' : Hp} {σ : L2.St} {η : En}
theorem RE.mono (s : Step ρ H ρ' H') (n : NT ρ H) (e : RE K ρ H σ η) : RE K ρ' H' σ η := ⟨e.len, fun i d h => by
  obtain ⟨v, h1, h2⟩ := e.get i d h
  exact ⟨v, h1, RD.mono s n d v h2⟩⟩
theorem RE.set (e : RE K ρ H σ η) (i : Nat) {d : D} {v : V} (r : RD K ρ H d v) : RE K ρ H (σ.set i (some v)) (η.set i (some d)) := ⟨by simpa using e.len, fun j c h => by
  by_cases hj : i = j
  · subst hj
    have hi : i < η.length := by
      have := (List.getElem?_eq_some_iff.mp h).1
      simpa using this
    rw [List.getElem?_set_self hi] at h
    cases h
    exact ⟨v, by rw [List.getElem?_set_self (by rw [e.len]; exact hi)], r⟩
  · rw [List.getElem?_set_ne hj] at h
    obtain ⟨u, h1, h2⟩ := e.get j c h
    exact ⟨u, by rw [List.getElem?_set_ne hj]; exact h1, h2⟩⟩
end
/-! ## readings are monotone -/
theorem _root_.L2.PE.le {X : Cx} {e : Expr} {t t' : TE} (h : PE X e t) (m : ∀ σ H Q, t' σ H Q → t σ H Q) : PE X e t' := ⟨fun pins s σ H Q I w => h.run pins s σ H Q I (m σ H Q w)⟩
theorem _root_.L2.PT.le {X : Cx} {e : Expr} {t t' : TT} (h : PT X e t) (m : ∀ σ H Q, t' σ H Q → t σ H Q) : PT X e t' := ⟨fun pins s σ H Q I w => h.run pins s σ H Q I (m σ H Q w)⟩
theorem _root_.L2.PW.le {X : Cx} {e : Expr} {t t' : TT} (h : PW X e t) (m : ∀ σ H Q, t' σ H Q → t σ H Q) : PW X e t' := ⟨fun wh pins s σ H Q I w => h.run wh pins s σ H Q I (m σ H Q w)⟩
theorem _root_.L2.PA.le {X : Cx} {e : List Expr} {t t' : TA} (h : PA X e t) (m : ∀ σ H Q, t' σ H Q → t σ H Q) : PA X e t' := ⟨fun pos pins s σ H Q I w => h.run pos pins s σ H Q I (m σ H Q w)⟩
theorem _root_.L2.PS.le {X : Cx} {e : Stmt} {t t' : TS} (h : PS X e t) (m : ∀ D σ H, t' D σ H → t D σ H) : PS X e t' := ⟨fun pins s σ H D I w => h.run pins s σ H D I (m D σ H w)⟩
theorem _root_.L2.PSs.le {X : Cx} {e : List Stmt} {t t' : TS} (h : PSs X e t) (m : ∀ D σ H, t' D σ H → t D σ H) : PSs X e t' := ⟨fun pins s σ H D I w => h.run pins s σ H D I (m D σ H w)⟩
theorem _root_.L2.PG.le {X : Cx} {e : Expr} {t t' : TG} (h : PG X e t) (m : ∀ v σ H Q, t' v σ H Q → t v σ H Q) : PG X e t' := ⟨fun pins s σ H v u Q I r w => h.run pins s σ H v u Q I r (m v σ H Q w)⟩
theorem _root_.L2.PGs.le {X : Cx} {e : List Expr} {t t' : TGs} (h : PGs X e t) (m : ∀ v σ H Q, t' v σ H Q → t v σ H Q) : PGs X e t' := ⟨fun pins s σ H v u Q I r w => h.run pins s σ H v u Q I r (m v σ H Q w)⟩
theorem _root_.L2.PI.le {X : Cx} {tg e : Expr} {t t' : TI} (h : PI X tg e t) (m : ∀ σ H R, t' σ H R → t σ H R) : PI X tg e t' := ⟨fun pins s σ H R I w => h.run pins s σ H R I (m σ H R w)⟩
theorem _root_.L2.PI.or {X : Cx} {tg e : Expr} {t t' : TI} (h : PI X tg e t) (h' : PI X tg e t') : PI X tg e (fun σ H R => t σ H R ∨ t' σ H R) := ⟨fun pins s σ H R I w => w.elim (h.run pins s σ H R I) (h'.run pins s σ H R I)⟩
end Ol
set_option Elab.async false
set_option linter.all false
set_option maxRecDepth 100000
namespace Ol
open PySem PySem.Spec PyProof.Rows L2
/-! ## the small language -/
inductive Op where | add | sub | mul | fdiv | mod | pow | band | bxor | shl | shr
  deriving DecidableEq
inductive Cp where | eq | ne | lt | le | gt | ge | is_ | isnot | in_ | notin
  deriving DecidableEq
inductive Tgt where | one (i : Nat) | many (is : List Nat)
inductive Ty where | bool | int | str | tup | lst
  deriving DecidableEq
mutual
inductive E where
  | var (i : Nat) | non | bl (b : Bool) | int (i : Int) | str (x : Str)
  | bin (op : Op) (a b : E) | neg (a : E)
  | cmp (op : Cp) (a b : E) | chain (op op' : Cp) (a b c : E) | chain3 (op op' op'' : Cp) (a b c d : E)
  | and (a b : E) | or (a b : E) | not (a : E) | ite (c a b : E)
  | tup (es : Es) | call (f : Nat) (es : Es)
  | idx (a b : E) | cut (a : E) (lo hi : Oe) | rev (a : E) | revTo (a : E) (k : E)
  | qtup (q : Q) | qlen (q : Q) | qsum (q : Q) | qall (q : Q) | qany (q : Q) | qmax (q : Q) | qmin (q : Q)
  | alloc (q : Q)
  | isin (a : E) (t : Ty) | int1 (a : E) | abs (a : E) | max2 (a b : E) | min2 (a b : E)
  | pop (a : E) | popAt (a i : E) | append (a x : E) | reverse (a : E)
  | index (a x : E) | index2 (a x i : E) | count (a x : E)
inductive Oe where
  | no | yes (e : E)
inductive Es where
  | nil | cons (e : E) (es : Es)
inductive Q where
  | ofE (e : E) | disp (es : Es) | comp (elt : E) (l : Tgt) (it : It) (c : E)
  | listOf (q : Q) | listRng (it : It) | sorted (q : Q) | cat (a b : Q) | rep (a : Q) (n : E)
inductive It where
  | rng1 (a : E) | rng2 (a b : E) | seq (q : Q)
inductive Lh where
  | nm (i : Nat) | sub (a i : E) | tup (ls : Lhs)
inductive Lhs where
  | nil | cons (l : Lh) (ls : Lhs)
end
mutual
inductive St where
  | set (l : Lh) (e : E) | aug (i : Nat) (op : Op) (e : E) | augQ (i : Nat) (q : Q) | augI (a i : E) (op : Op) (e : E)
  | expr (e : E) | ret (e : E) | retN
  | ite (c : E) (a b : Sts) | for_ (l : Tgt) (it : It) (b : Sts) | while_ (c : E) (b : Sts)
  | pass | brk | cont
inductive Sts where
  | nil | cons (s : St) (ss : Sts)
end
structure Fn where
  np : Nat
  nl : Nat
  body : Sts

/-! ## what its operations give -/
def small64 (i : Int) : Bool := decide (-(2 ^ 64) < i ∧ i < 2 ^ 64)
def binop : Op → D → D → Option D
  | .add, .int i, .int j => some (.int (i + j))
  | .add, .tup a, .tup b => if a.length + b.length ≤ sizeLine then some (.tup (a ++ b)) else none
  | .sub, .int i, .int j => some (.int (i - j))
  | .mul, .int i, .int j => if (small64 i || small64 j) = true then some (.int (i * j)) else none
  | .fdiv, .int i, .int j => if 0 < j ∧ j < 1073741824 then some (.int (i / j)) else none
  | .mod, .int i, .int j => if 0 < j then some (.int (i % j)) else none
  | .pow, .int i, .int j => if 0 ≤ j ∧ j ≤ 1000000 ∧ i.natAbs < 2 ^ 64 then some (.int (i ^ j.toNat)) else none
  | .band, .int i, .int j => some (.int (Builtin.bitAnd i j))
  | .bxor, .int i, .int j => some (.int (Builtin.bitXor i j))
  | .shl, .int i, .int j => if 0 ≤ j ∧ j ≤ 1000000 ∧ i.natAbs < 2 ^ 64 then some (.int (i * 2 ^ j.toNat)) else none
  | .shr, .int i, .int j => if 0 ≤ j then some (.int (i / 2 ^ j.toNat)) else none
  | _, _, _ => none
/-! data without references -/
mutual
def D.py : D → PyData
  | .non => .none | .bl b => .bool b | .int i => .int i | .str x => .str x
  | .tup ds => .tuple (pys ds) | .frl ds => .list (pys ds) | .ref _ => .none
def pys : List D → List PyData
  | [] => [] | d :: ds => d.py :: pys ds
end
mutual
def D.pure : D → Bool
  | .tup ds => pures ds | .frl ds => pures ds | .ref _ => false
  | .non => true | .bl _ => true | .int _ => true | .str _ => true
def pures : List D → Bool
  | [] => true | d :: ds => d.pure && pures ds
end
def D.okPy (d : D) : Bool := d.pure && SeqAt.shaped d.py
def eqd (d e : D) : Option Bool := if (d.okPy && e.okPy) = true then some (PyData.eqv d.py e.py) else none
def D.isFlat : D → Bool
  | .non => true | .bl _ => true | .int _ => true | .str _ => true | _ => false
def eqF : D → D → Bool
  | .non, .non => true
  | .bl a, .bl b => a == b
  | .bl a, .int b => (if a then 1 else 0) == b
  | .int a, .bl b => a == (if b then 1 else 0)
  | .int a, .int b => a == b
  | .str a, .str b => a == b
  | _, _ => false
def cmpop (S : Sto) : Cp → D → D → Option Bool
  | .eq, d, e => eqd d e
  | .ne, d, e => (eqd d e).map not
  | .lt, .int i, .int j => some (decide (i < j))
  | .le, .int i, .int j => some (decide (i ≤ j))
  | .gt, .int i, .int j => some (decide (j < i))
  | .ge, .int i, .int j => some (decide (j ≤ i))
  | .is_, d, .non => some (match d with | .non => true | _ => false)
  | .isnot, d, .non => some (match d with | .non => false | _ => true)
  | .in_, x, .tup ds => if (x.isFlat && ds.all D.isFlat) = true then some (ds.any fun y => eqF y x) else none
  | .in_, x, .frl ds => if (x.isFlat && ds.all D.isFlat) = true then some (ds.any fun y => eqF y x) else none
  | .in_, x, .ref n => match S[n]? with
    | some (.lst ds) => if (x.isFlat && ds.all D.isFlat) = true then some (ds.any fun y => eqF y x) else none
    | _ => none
  | .notin, x, .tup ds => if (x.isFlat && ds.all D.isFlat) = true then some (!ds.any fun y => eqF y x) else none
  | .notin, x, .frl ds => if (x.isFlat && ds.all D.isFlat) = true then some (!ds.any fun y => eqF y x) else none
  | .notin, x, .ref n => match S[n]? with
    | some (.lst ds) => if (x.isFlat && ds.all D.isFlat) = true then some (!ds.any fun y => eqF y x) else none
    | _ => none
  | _, _, _ => none
def isTy : D → Ty → Bool
  | .bl _, .bool => true | .bl _, .int => true | .int _, .int => true | .str _, .str => true
  | .tup _, .tup => true | .frl _, .lst => true | .ref _, .lst => true | _, _ => false
/-- what a sequence is: a value, or a list just made -/
inductive Qv where
  | val (d : D) | new (ds : List D)
def items (S : Sto) : Qv → Option (List D)
  | .new ds => some ds
  | .val (.tup ds) => some ds
  | .val (.frl ds) => some ds
  | .val (.ref n) => match S[n]? with | some (.lst ds) => some ds | none => none
  | _ => none
/-- a list that one may join -/
def asL (S : Sto) : Qv → Option (List D)
  | .new ds => some ds
  | .val (.ref n) => match S[n]? with | some (.lst ds) => some ds | none => none
  | _ => none
/-- of a list alone -/
def lists (f : List D → Sto → Option (D × Sto)) : Qv → Sto → Option (D × Sto)
  | .val (.tup _), _ => none
  | x, S => (items S x).bind fun ds => f ds S
def toInts : List D → Option (List Int)
  | [] => some []
  | .int i :: ds => (toInts ds).map (i :: ·)
  | _ :: _ => none
def toBls : List D → Option (List Bool)
  | [] => some []
  | .bl i :: ds => (toBls ds).map (i :: ·)
  | _ :: _ => none
def insI (x : Int) : List Int → List Int
  | [] => [x] | y :: ys => if x ≤ y then x :: y :: ys else y :: insI x ys
def isortI : List Int → List Int
  | [] => [] | x :: xs => insI x (isortI xs)
def maxI : List Int → Int
  | [] => 0 | [x] => x | x :: xs => if maxI xs < x then x else maxI xs
def minI : List Int → Int
  | [] => 0 | [x] => x | x :: xs => if x < minI xs then x else minI xs
/-- tuples of ints, none empty -/
def toRows : List D → Option (List (List Int))
  | [] => some []
  | .tup es :: ds => match toInts es with
    | some (n :: ns) => (toRows ds).map ((n :: ns) :: ·)
    | _ => none
  | _ :: _ => none
def lexLe : List Int → List Int → Bool
  | [], _ => true | _ :: _, [] => false
  | x :: xs, y :: ys => if x = y then lexLe xs ys else decide (x < y)
def insT (x : List Int) : List (List Int) → List (List Int)
  | [] => [x] | y :: ys => if lexLe x y then x :: y :: ys else y :: insT x ys
def isortT : List (List Int) → List (List Int)
  | [] => [] | x :: xs => insT x (isortT xs)
def tupI (ns : List Int) : D := .tup (ns.map .int)
def sortedD (ds : List D) : Option (List D) := match toInts ds with
  | some ns => some ((isortI ns).map .int)
  | none => (toRows ds).map fun rs => (isortT rs).map tupI
def rangeD (lo : Int) (n : Nat) : List D := (List.range n).map fun (k : Nat) => D.int (lo + (k : Int))
def Tgt.slots : Tgt → List Nat
  | .one i => [i] | .many is => is
def wipeD (η : En) : List Nat → En
  | [] => η | v :: vs => (wipeD η vs).set v none
def setAll : En → List Nat → List D → Option En
  | η, [], [] => some η
  | η, i :: is, d :: ds => setAll (η.set i (some d)) is ds
  | _, _, _ => none
def bindT : Tgt → D → En → Option En
  | .one i, d, η => some (η.set i (some d))
  | .many is, .tup ds, η => setAll η is ds
  | .many _, _, _ => none
inductive Ir where
  | sta (ds : List D) | dyn (n : Nat)
inductive Fl where
  | nx | bk | ct | rt (d : D)
def compL (f : D → Sto → Option (Option D × Sto)) : List D → Sto → Option (List D × Sto)
  | [], S => some ([], S)
  | x :: xs, S => (f x S).bind fun r => (compL f xs r.2).bind fun rs => some (match r.1 with | some d => d :: rs.1 | none => rs.1, rs.2)
def compDn (f : D → Sto → Option (Option D × Sto)) (n : Nat) : Nat → Nat → Sto → Option (List D × Sto)
  | 0, _, _ => none
  | fuel + 1, i, S => match S[n]? with
    | some (.lst ds) => match ds[i]? with
      | none => some ([], S)
      | some x => (f x S).bind fun r => (compDn f n fuel (i + 1) r.2).bind fun rs => some (match r.1 with | some d => d :: rs.1 | none => rs.1, rs.2)
    | none => none
def loopL (f : D → En → Sto → Option (Fl × En × Sto)) : List D → En → Sto → Option (Fl × En × Sto)
  | [], η, S => some (.nx, η, S)
  | x :: xs, η, S => (f x η S).bind fun r => match r.1 with
    | .nx => loopL f xs r.2.1 r.2.2
    | .ct => loopL f xs r.2.1 r.2.2
    | .bk => some (.nx, r.2.1, r.2.2)
    | .rt d => some (.rt d, r.2.1, r.2.2)
def loopDn (f : D → En → Sto → Option (Fl × En × Sto)) (n : Nat) : Nat → Nat → En → Sto → Option (Fl × En × Sto)
  | 0, _, _, _ => none
  | fuel + 1, i, η, S => match S[n]? with
    | some (.lst ds) => match ds[i]? with
      | none => some (.nx, η, S)
      | some x => (f x η S).bind fun r => match r.1 with
        | .nx => loopDn f n fuel (i + 1) r.2.1 r.2.2
        | .ct => loopDn f n fuel (i + 1) r.2.1 r.2.2
        | .bk => some (.nx, r.2.1, r.2.2)
        | .rt d => some (.rt d, r.2.1, r.2.2)
    | none => none
def loopW (c : En → Sto → Option (Bool × Sto)) (f : En → Sto → Option (Fl × En × Sto)) : Nat → En → Sto → Option (Fl × En × Sto)
  | 0, _, _ => none
  | fuel + 1, η, S => (c η S).bind fun b => if b.1 = true then (f η b.2).bind fun r => match r.1 with
      | .nx => loopW c f fuel r.2.1 r.2.2
      | .ct => loopW c f fuel r.2.1 r.2.2
      | .bk => some (.nx, r.2.1, r.2.2)
      | .rt d => some (.rt d, r.2.1, r.2.2)
    else some (.nx, η, b.2)
def fuelN : Nat := 100000000
def idxD (S : Sto) : D → D → Option D
  | .tup ds, .int i => atI ds i
  | .frl ds, .int i => atI ds i
  | .ref n, .int i => match S[n]? with | some (.lst ds) => atI ds i | none => none
  | _, _ => none
def cutD (ds : List D) (lo hi : Option Int) : List D := (ds.drop (HT.sIx ds.length 0 lo)).take (HT.sIx ds.length ds.length hi - HT.sIx ds.length 0 lo)
def optI : Option D → Option (Option Int)
  | none => some none
  | some (.int i) => some (some i)
  | some _ => none
def setN (S : Sto) (n : Nat) (ds : List D) : Sto := S.set n (.lst ds)

/-! calls: a callee sees the lists that it is given, no others -/
def refs1 : List D → List Nat
  | [] => []
  | .ref n :: ds => n :: refs1 ds
  | _ :: ds => refs1 ds
def flatA : List D → Bool
  | [] => true
  | .ref _ :: ds => flatA ds
  | d :: ds => d.pure && flatA ds
def ren (rs : List Nat) : D → D
  | .ref n => .ref (rs.idxOf n)
  | d => d
def footS (S : Sto) : List Nat → Option Sto
  | [] => some []
  | n :: ns => match S[n]? with
    | some (.lst xs) => if pures xs = true then (footS S ns).map (O.lst xs :: ·) else none
    | none => none
def putS (S : Sto) : List Nat → Sto → Option Sto
  | [], _ => some S
  | n :: ns, .lst ys :: T => if pures ys = true then putS (setN S n ys) ns T else none
  | _ :: _, [] => none
def backR (m : Nat) (S : Sto) (r : D × Sto) : Option (D × Sto) :=
  if r.1.pure = true then some (r.1, S) else match r.1 with
    | .ref k => if m ≤ k then match r.2[k]? with
        | some (.lst xs) => if pures xs = true then some (.ref S.length, S ++ [.lst xs]) else none
        | none => none
      else none
    | _ => none
section
variable (C : Nat → List D → Sto → Option (D × Sto))
def callF (f : Nat) (ds : List D) (S : Sto) : Option (D × Sto) :=
  if (flatA ds && decide (refs1 ds).Nodup) = true then (footS S (refs1 ds)).bind fun F => (C f (ds.map (ren (refs1 ds))) F).bind fun r => (putS S (refs1 ds) r.2).bind fun S2 => backR (refs1 ds).length S2 r
  else none
def callM (f : Nat) (ds : List D) (n : Nat) (S : Sto) : Option (D × Sto) := (callF C f ds S).or ((C f ds S).bind fun r => some (gc n r.1 r.2))
mutual
def runE : E → En → Sto → Option (D × Sto)
  | .var i, η, S => match η[i]? with | some (some d) => some (d, S) | _ => none
  | .non, _, S => some (.non, S)
  | .bl b, _, S => some (.bl b, S)
  | .int i, _, S => some (.int i, S)
  | .str x, _, S => some (.str x, S)
  | .bin op a b, η, S => (runE a η S).bind fun x => (runE b η x.2).bind fun y => (binop op x.1 y.1).map fun d => (d, y.2)
  | .neg a, η, S => (runE a η S).bind fun x => match x.1 with | .int i => some (.int (-i), x.2) | _ => none
  | .cmp op a b, η, S => (runE a η S).bind fun x => (runE b η x.2).bind fun y => (cmpop y.2 op x.1 y.1).map fun k => (.bl k, y.2)
  | .chain op op' a b c, η, S => (runE a η S).bind fun x => (runE b η x.2).bind fun y => (cmpop y.2 op x.1 y.1).bind fun k =>
      if k = true then (runE c η y.2).bind fun z => (cmpop z.2 op' y.1 z.1).map fun k => (.bl k, z.2) else some (.bl false, y.2)
  | .chain3 op op' op'' a b c d, η, S => (runE a η S).bind fun x => (runE b η x.2).bind fun y => (cmpop y.2 op x.1 y.1).bind fun k =>
      if k = true then (runE c η y.2).bind fun z => (cmpop z.2 op' y.1 z.1).bind fun k =>
        if k = true then (runE d η z.2).bind fun u => (cmpop u.2 op'' z.1 u.1).map fun k => (.bl k, u.2) else some (.bl false, z.2)
      else some (.bl false, y.2)
  | .and a b, η, S => (runE a η S).bind fun x => match x.1 with | .bl true => runE b η x.2 | .bl false => some (.bl false, x.2) | _ => none
  | .or a b, η, S => (runE a η S).bind fun x => match x.1 with | .bl false => runE b η x.2 | .bl true => some (.bl true, x.2) | _ => none
  | .not a, η, S => (runE a η S).bind fun x => match x.1 with | .bl b => some (.bl (!b), x.2) | _ => none
  | .ite c a b, η, S => (runE c η S).bind fun x => match x.1 with | .bl true => runE a η x.2 | .bl false => runE b η x.2 | _ => none
  | .tup es, η, S => (runEs es η S).bind fun x => if x.1.length ≤ sizeLine then some (.tup x.1, x.2) else none
  | .call f es, η, S => (runEs es η S).bind fun x => callM C f x.1 S.length x.2
  | .idx a b, η, S => (runE a η S).bind fun x => (runE b η x.2).bind fun y => (idxD y.2 x.1 y.1).map fun d => (d, y.2)
  | .cut a lo hi, η, S => (runE a η S).bind fun x => (runOe lo η x.2).bind fun l => (runOe hi η l.2).bind fun h => match x.1 with
      | .tup ds => some (.tup (cutD ds l.1 h.1), h.2)
      | _ => none
  | .rev a, η, S => (runE a η S).bind fun x => match x.1 with | .tup ds => some (.tup ds.reverse, x.2) | _ => none
  | .revTo a k, η, S => (runE a η S).bind fun x => (runE k η x.2).bind fun y => match x.1, y.1 with
      | .tup ds, .int i => if i = 0 then some (.tup (ds.drop 1).reverse, y.2) else none
      | _, _ => none
  | .qtup q, η, S => (runQ q η S).bind fun x => (items x.2 x.1).bind fun ds => some (.tup ds, x.2)
  | .qlen q, η, S => (runQ q η S).bind fun x => (items x.2 x.1).bind fun ds => some (.int ds.length, x.2)
  | .qsum q, η, S => (runQ q η S).bind fun x => (items x.2 x.1).bind fun ds => (toInts ds).map fun ns => (.int ns.sum, x.2)
  | .qall q, η, S => (runQ q η S).bind fun x => lists (fun ds S => (toBls ds).map fun bs => (.bl (bs.all id), S)) x.1 x.2
  | .qany q, η, S => (runQ q η S).bind fun x => lists (fun ds S => (toBls ds).map fun bs => (.bl (bs.any id), S)) x.1 x.2
  | .qmax q, η, S => (runQ q η S).bind fun x => lists (fun ds S => (toInts ds).bind fun ns => if ns = [] then none else some (.int (maxI ns), S)) x.1 x.2
  | .qmin q, η, S => (runQ q η S).bind fun x => lists (fun ds S => (toInts ds).bind fun ns => if ns = [] then none else some (.int (minI ns), S)) x.1 x.2
  | .alloc q, η, S => (runQ q η S).bind fun x => match x.1 with | .new ds => some (.ref x.2.length, x.2 ++ [.lst ds]) | .val _ => none
  | .isin a t, η, S => (runE a η S).bind fun x => some (.bl (isTy x.1 t), x.2)
  | .int1 a, η, S => (runE a η S).bind fun x => match x.1 with | .int i => some (.int i, x.2) | .bl b => some (.int (if b then 1 else 0), x.2) | _ => none
  | .abs a, η, S => (runE a η S).bind fun x => match x.1 with | .int i => some (.int (if i < 0 then -i else i), x.2) | _ => none
  | .max2 a b, η, S => (runE a η S).bind fun x => (runE b η x.2).bind fun y => match x.1, y.1 with | .int i, .int j => some (.int (if j > i then j else i), y.2) | _, _ => none
  | .min2 a b, η, S => (runE a η S).bind fun x => (runE b η x.2).bind fun y => match x.1, y.1 with | .int i, .int j => some (.int (if j < i then j else i), y.2) | _, _ => none
  | .pop a, η, S => (runE a η S).bind fun x => match x.1 with
      | .ref n => match x.2[n]? with
        | some (.lst ds) => (ds[ds.length - 1]?).map fun d => (d, setN x.2 n ds.dropLast)
        | none => none
      | _ => none
  | .popAt a i, η, S => (runE a η S).bind fun x => (runE i η x.2).bind fun y => match x.1, y.1 with
      | .ref n, .int i => match y.2[n]? with
        | some (.lst ds) => if 0 ≤ i ∧ i < 2 ^ 62 then (ds[i.toNat]?).map fun d => (d, setN y.2 n (ds.eraseIdx i.toNat)) else none
        | none => none
      | _, _ => none
  | .append a e, η, S => (runE a η S).bind fun x => (runE e η x.2).bind fun y => match x.1 with
      | .ref n => match y.2[n]? with
        | some (.lst ds) => if ds.length < sizeLine then some (.non, setN y.2 n (ds ++ [y.1])) else none
        | none => none
      | _ => none
  | .reverse a, η, S => (runE a η S).bind fun x => match x.1 with
      | .ref n => match x.2[n]? with
        | some (.lst ds) => some (.non, setN x.2 n ds.reverse)
        | none => none
      | _ => none
  | .index a e, η, S => (runE a η S).bind fun x => (runE e η x.2).bind fun y => match x.1, y.1 with
      | .tup ds, .int k => (toInts ds).bind fun ns => if k ∈ ns then some (.int (ns.idxOf k : Nat), y.2) else none
      | .ref n, .int k => match y.2[n]? with
        | some (.lst ds) => (toInts ds).bind fun ns => if k ∈ ns then some (.int (ns.idxOf k : Nat), y.2) else none
        | none => none
      | _, _ => none
  | .index2 a e i, η, S => (runE a η S).bind fun x => (runE e η x.2).bind fun y => (runE i η y.2).bind fun z => match x.1, y.1, z.1 with
      | .tup ds, .int k, .int m => (toInts ds).bind fun ns => if 0 ≤ m ∧ m < 2 ^ 62 ∧ k ∈ ns.drop m.toNat then some (.int ((m.toNat + (ns.drop m.toNat).idxOf k : Nat)), z.2) else none
      | _, _, _ => none
  | .count a e, η, S => (runE a η S).bind fun x => (runE e η x.2).bind fun y => match x.1, y.1 with
      | .tup ds, .int k => (toInts ds).map fun ns => (.int (ns.count k : Nat), y.2)
      | .ref n, .int k => match y.2[n]? with
        | some (.lst ds) => (toInts ds).map fun ns => (.int (ns.count k : Nat), y.2)
        | none => none
      | _, _ => none
def runOe : Oe → En → Sto → Option (Option Int × Sto)
  | .no, _, S => some (none, S)
  | .yes e, η, S => (runE e η S).bind fun x => match x.1 with | .int i => some (some i, x.2) | _ => none
def runEs : Es → En → Sto → Option (List D × Sto)
  | .nil, _, S => some ([], S)
  | .cons e es, η, S => (runE e η S).bind fun x => (runEs es η x.2).bind fun r => some (x.1 :: r.1, r.2)
def runQ : Q → En → Sto → Option (Qv × Sto)
  | .ofE e, η, S => (runE e η S).bind fun x => some (.val x.1, x.2)
  | .disp es, η, S => (runEs es η S).bind fun x => if x.1.length ≤ sizeLine then some (.new x.1, x.2) else none
  | .comp elt l it c, η, S => (runI it η S).bind fun i =>
      let f := fun (x : D) (S : Sto) => (bindT l x (wipeD η l.slots)).bind fun b => (runE c b S).bind fun t => match t.1 with
        | .bl true => (runE elt b t.2).bind fun y => some (some y.1, y.2)
        | .bl false => some (none, t.2)
        | _ => none
      match i.1 with
      | .sta ds => (compL f ds i.2).bind fun r => some (.new r.1, r.2)
      | .dyn n => (compDn f n fuelN 0 i.2).bind fun r => some (.new r.1, r.2)
  | .listOf q, η, S => (runQ q η S).bind fun x => (items x.2 x.1).map fun ds => (.new ds, x.2)
  | .listRng it, η, S => (runI it η S).bind fun i => match i.1 with | .sta ds => some (.new ds, i.2) | .dyn _ => none
  | .sorted q, η, S => (runQ q η S).bind fun x => (items x.2 x.1).bind fun ds => (sortedD ds).map fun es => (.new es, x.2)
  | .cat a b, η, S => (runQ a η S).bind fun x => (runQ b η x.2).bind fun y => (asL y.2 x.1).bind fun ds => (asL y.2 y.1).bind fun es =>
      if ds.length + es.length ≤ sizeLine then some (.new (ds ++ es), y.2) else none
  | .rep a e, η, S => (runQ a η S).bind fun x => (runE e η x.2).bind fun y => (asL y.2 x.1).bind fun ds => match y.1 with
      | .int k => if -(2 ^ 63) ≤ k ∧ k < 2 ^ 63 ∧ ds.length * k.toNat ≤ sizeLine then some (.new (List.replicate k.toNat ds).flatten, y.2) else none
      | _ => none
def runI : It → En → Sto → Option (Ir × Sto)
  | .rng1 a, η, S => (runE a η S).bind fun x => match x.1 with | .int j => if -(2 ^ 62) ≤ j ∧ j ≤ sizeLine then some (.sta (rangeD 0 j.toNat), x.2) else none | _ => none
  | .rng2 a b, η, S => (runE a η S).bind fun x => (runE b η x.2).bind fun y => match x.1, y.1 with
      | .int i, .int j => if -(2 ^ 61) ≤ i ∧ i < 2 ^ 61 ∧ -(2 ^ 61) ≤ j ∧ j < 2 ^ 61 ∧ j - i ≤ sizeLine then some (.sta (rangeD i (j - i).toNat), y.2) else none
      | _, _ => none
  | .seq q, η, S => (runQ q η S).bind fun x => match x.1 with
      | .new ds => some (.sta ds, x.2)
      | .val (.tup ds) => some (.sta ds, x.2)
      | .val (.frl ds) => some (.sta ds, x.2)
      | .val (.ref n) => some (.dyn n, x.2)
      | _ => none
def runL : Lh → D → En → Sto → Option (En × Sto)
  | .nm i, d, η, S => some (η.set i (some d), S)
  | .sub a i, d, η, S => (runE a η S).bind fun x => (runE i η x.2).bind fun y => match x.1, y.1 with
      | .ref n, .int k => match y.2[n]? with
        | some (.lst ds) => (ixN ds.length k).map fun j => (η, setN y.2 n (ds.set j d))
        | none => none
      | _, _ => none
  | .tup ls, d, η, S => match d with | .tup ds => runLs ls ds η S | _ => none
def runLs : Lhs → List D → En → Sto → Option (En × Sto)
  | .nil, ds, η, S => match ds with | [] => some (η, S) | _ :: _ => none
  | .cons l ls, ds, η, S => match ds with | [] => none | d :: ds => (runL l d η S).bind fun x => runLs ls ds x.1 x.2
end
mutual
def runS : St → En → Sto → Option (Fl × En × Sto)
  | .set l e, η, S => (runE C e η S).bind fun x => (runL C l x.1 η x.2).bind fun y => some (.nx, y.1, y.2)
  | .aug i op e, η, S => match η[i]? with
      | some (some (.int d)) => (runE C e η S).bind fun x => match x.1 with
          | .int k => (binop op (.int d) (.int k)).bind fun r => some (.nx, η.set i (some r), x.2)
          | _ => none
      | _ => none
  | .augQ i q, η, S => match η[i]? with
      | some (some (.ref n)) => (runQ C q η S).bind fun x => (asL x.2 x.1).bind fun es => match x.2[n]? with
          | some (.lst ds) => if ds.length + es.length ≤ sizeLine then some (.nx, η, setN x.2 n (ds ++ es)) else none
          | none => none
      | _ => none
  | .augI a i op e, η, S => (runE C a η S).bind fun x => (runE C i η x.2).bind fun y => (idxD y.2 x.1 y.1).bind fun old => (runE C e η y.2).bind fun z => (binop op old z.1).bind fun r =>
      match x.1, y.1 with
      | .ref n, .int k => match z.2[n]? with
        | some (.lst ds) => (ixN ds.length k).map fun j => (.nx, η, setN z.2 n (ds.set j r))
        | none => none
      | _, _ => none
  | .expr e, η, S => (runE C e η S).bind fun x => some (.nx, η, x.2)
  | .ret e, η, S => (runE C e η S).bind fun x => some (.rt x.1, η, x.2)
  | .retN, η, S => some (.rt .non, η, S)
  | .ite c a b, η, S => (runE C c η S).bind fun x => match x.1 with | .bl true => runSs a η x.2 | .bl false => runSs b η x.2 | _ => none
  | .for_ l it b, η, S => (runI C it η S).bind fun i =>
      let f := fun (x : D) (η : En) (S : Sto) => (bindT l x η).bind fun y => runSs b y S
      match i.1 with
      | .sta ds => loopL f ds η i.2
      | .dyn n => loopDn f n fuelN 0 η i.2
  | .while_ c b, η, S => loopW (fun η S => (runE C c η S).bind fun x => match x.1 with | .bl k => some (k, x.2) | _ => none) (fun η S => runSs b η S) fuelN η S
  | .pass, η, S => some (.nx, η, S)
  | .brk, η, S => some (.bk, η, S)
  | .cont, η, S => some (.ct, η, S)
def runSs : Sts → En → Sto → Option (Fl × En × Sto)
  | .nil, η, S => some (.nx, η, S)
  | .cons s ss, η, S => (runS s η S).bind fun r => match r.1 with
      | .nx => runSs ss r.2.1 r.2.2
      | .bk => some (.bk, r.2.1, r.2.2)
      | .ct => some (.ct, r.2.1, r.2.2)
      | .rt d => some (.rt d, r.2.1, r.2.2)
end
end
/-- the text's defs, called at most k deep -/
def callAt (P : Nat → Option Fn) : Nat → Nat → List D → Sto → Option (D × Sto)
  | 0, _, _, _ => none
  | k + 1, f, ds, S => match P f with
    | none => none
    | some fn => if ds.length = fn.np then (runSs (callAt P k) fn.body (ds.map some ++ List.replicate (fn.nl - fn.np) none) S).bind fun r => match r.1 with
        | .rt d => some (d, r.2.2)
        | .nx => some (.non, r.2.2)
        | _ => none
      else none
end Ol
set_option Elab.async false
set_option linter.all false
set_option maxRecDepth 100000
set_option maxHeartbeats 1000000
namespace Ol
open PySem PySem.Spec PyProof.Rows L2
section
variable {K : PySem.W.Frag} {ρ ρ' : List Addr} {H H' : Hp} {S S' : Sto}
/-! ## stores -/
theorem Step.all (h : ∀ a o, H a = some o → H' a = some o) : Step ρ H ρ H' := ⟨List.prefix_rfl, fun a m n => absurd m n, fun a o e _ => h a o e⟩
theorem keep_laid {p : Addr} (hp : H p = none) (o : HO) : ∀ a u, H a = some u → (upd H p o) a = some u := fun a u e => by rw [upd_ne (ne_of_none e hp)]; exact e
theorem SOk.all (s : SOk K ρ H S) (h : ∀ a o, H a = some o → H' a = some o) : SOk K ρ H' S := ⟨s.len, s.nd, s.fit, fun n ds e => by
  obtain ⟨a, vs, h1, h2, h3⟩ := s.lst n ds e
  exact ⟨a, vs, h1, h a _ h2, RDs.mono (Step.all h) s.nt ds vs h3⟩⟩
theorem SOk.laid (s : SOk K ρ H S) {p : Addr} (hp : H p = none) (o : HO) : SOk K ρ (upd H p o) S := s.all (keep_laid hp o)
theorem Step.laid {p : Addr} (hp : H p = none) (o : HO) : Step ρ H ρ (upd H p o) := Step.all (keep_laid hp o)
theorem RDs.length : ∀ {ds : List D} {vs : List V}, RDs K ρ H ds vs → ds.length = vs.length
  | [], vs, h => by simp only [RDs] at h; subst h; rfl
  | d :: ds, vs, h => by
    simp only [RDs] at h
    obtain ⟨v, r, rfl, _, h2⟩ := h
    simp [RDs.length h2]
theorem RDs.append : ∀ {ds es : List D} {vs us : List V}, RDs K ρ H ds vs → RDs K ρ H es us → RDs K ρ H (ds ++ es) (vs ++ us)
  | [], es, vs, us, h, h' => by simp only [RDs] at h; subst h; exact h'
  | d :: ds, es, vs, us, h, h' => by
    simp only [RDs] at h
    obtain ⟨v, r, rfl, h1, h2⟩ := h
    show RDs K ρ H (d :: (ds ++ es)) (v :: (r ++ us))
    simp only [RDs]
    exact ⟨v, _, rfl, h1, RDs.append h2 h'⟩
theorem RDs.nil : RDs K ρ H [] [] := by simp [RDs]
theorem RDs.cons {d : D} {v : V} {ds : List D} {vs : List V} (h : RD K ρ H d v) (h' : RDs K ρ H ds vs) : RDs K ρ H (d :: ds) (v :: vs) := by
  simp only [RDs]; exact ⟨v, vs, rfl, h, h'⟩
theorem RDs.one {d : D} {v : V} (h : RD K ρ H d v) : RDs K ρ H [d] [v] := .cons h .nil
theorem RDs.get : ∀ {ds : List D} {vs : List V} {i : Nat} {d : D}, RDs K ρ H ds vs → ds[i]? = some d → ∃ v, vs[i]? = some v ∧ RD K ρ H d v
  | [], _, _, _, _, e => by simp at e
  | c :: ds, vs, i, d, h, e => by
    simp only [RDs] at h
    obtain ⟨v, r, rfl, h1, h2⟩ := h
    cases i with
    | zero => simp at e; subst e; exact ⟨v, rfl, h1⟩
    | succ i => simpa using RDs.get (i := i) (d := d) h2 (by simpa using e)
theorem RDs.none_of {ds : List D} {vs : List V} {i : Nat} (h : RDs K ρ H ds vs) (e : ds[i]? = none) : vs[i]? = none := by
  rw [List.getElem?_eq_none_iff] at e ⊢
  rw [← h.length]; exact e
theorem RDs.getV {ds : List D} {vs : List V} {i : Nat} {v : V} (h : RDs K ρ H ds vs) (e : vs[i]? = some v) : ∃ d, ds[i]? = some d ∧ RD K ρ H d v := by
  have hi := (List.getElem?_eq_some_iff.mp e).1
  have hi' : i < ds.length := by rw [h.length]; exact hi
  obtain ⟨u, h1, h2⟩ := h.get (List.getElem?_eq_getElem hi')
  rw [e] at h1; cases h1
  exact ⟨_, List.getElem?_eq_getElem hi', h2⟩
theorem RDs.of_get : ∀ {ds : List D} {vs : List V}, ds.length = vs.length → (∀ (i : Nat) (d : D) (v : V), ds[i]? = some d → vs[i]? = some v → RD K ρ H d v) → RDs K ρ H ds vs
  | [], vs, e, _ => by
    cases vs with
    | nil => exact .nil
    | cons v vs => simp at e
  | d :: ds, vs, e, h => by
    cases vs with
    | nil => simp at e
    | cons v vs => exact .cons (h 0 d v rfl rfl) (RDs.of_get (by simpa using e) fun i d' v' e1 e2 => h (i + 1) d' v' (by simpa using e1) (by simpa using e2))
theorem RDs.take {ds : List D} {vs : List V} (h : RDs K ρ H ds vs) (n : Nat) : RDs K ρ H (ds.take n) (vs.take n) := .of_get (by rw [List.length_take, List.length_take, h.length]) fun i d v e1 e2 => by
  have hi : i < n := by
    have := (List.getElem?_eq_some_iff.mp e1).1
    rw [List.length_take] at this; omega
  rw [List.getElem?_take_of_lt hi] at e1 e2
  obtain ⟨u, h1, h2⟩ := h.get e1
  rw [e2] at h1; cases h1; exact h2
theorem RDs.drop {ds : List D} {vs : List V} (h : RDs K ρ H ds vs) (n : Nat) : RDs K ρ H (ds.drop n) (vs.drop n) := .of_get (by rw [List.length_drop, List.length_drop, h.length]) fun i d v e1 e2 => by
  rw [List.getElem?_drop] at e1 e2
  obtain ⟨u, h1, h2⟩ := h.get e1
  rw [e2] at h1; cases h1; exact h2
theorem RDs.set {ds : List D} {vs : List V} {d : D} {v : V} (h : RDs K ρ H ds vs) (n : Nat) (r : RD K ρ H d v) : RDs K ρ H (ds.set n d) (vs.set n v) := .of_get (by simp [h.length]) fun i d' v' e1 e2 => by
  by_cases hi : n = i
  · subst hi
    have hn : n < ds.length := by
      have := (List.getElem?_eq_some_iff.mp e1).1
      simpa using this
    rw [List.getElem?_set_self hn] at e1
    rw [List.getElem?_set_self (by rw [← h.length]; exact hn)] at e2
    cases e1; cases e2; exact r
  · rw [List.getElem?_set_ne hi] at e1 e2
    obtain ⟨u, h1, h2⟩ := h.get e1
    rw [e2] at h1; cases h1; exact h2
theorem RDs.reverse : ∀ {ds : List D} {vs : List V}, RDs K ρ H ds vs → RDs K ρ H ds.reverse vs.reverse
  | [], vs, h => by simp only [RDs] at h; subst h; exact .nil
  | d :: ds, vs, h => by
    simp only [RDs] at h
    obtain ⟨v, r, rfl, h1, h2⟩ := h
    rw [List.reverse_cons, List.reverse_cons]
    exact (RDs.reverse h2).append (.one h1)
theorem RDs.eraseIdx {ds : List D} {vs : List V} (h : RDs K ρ H ds vs) (n : Nat) : RDs K ρ H (ds.eraseIdx n) (vs.eraseIdx n) := by
  rw [List.eraseIdx_eq_take_drop_succ, List.eraseIdx_eq_take_drop_succ]
  exact (h.take n).append (h.drop (n + 1))
theorem RDs.dropLast {ds : List D} {vs : List V} (h : RDs K ρ H ds vs) : RDs K ρ H ds.dropLast vs.dropLast := by
  rw [List.dropLast_eq_take, List.dropLast_eq_take, h.length]
  exact h.take _
theorem RDs.rep {ds : List D} {vs : List V} (h : RDs K ρ H ds vs) : ∀ k : Nat, RDs K ρ H (List.replicate k ds).flatten (List.replicate k vs).flatten
  | 0 => .nil
  | k + 1 => by
    rw [List.replicate_succ, List.replicate_succ, List.flatten_cons, List.flatten_cons]
    exact h.append (RDs.rep h k)
theorem RDs.ints : ∀ {ds : List D} {vs : List V} {ns : List Int}, RDs K ρ H ds vs → toInts ds = some ns → vs = ns.map V.int
  | [], vs, ns, h, e => by
    simp only [RDs] at h
    simp only [toInts] at e
    cases e; subst h; rfl
  | d :: ds, vs, ns, h, e => by
    simp only [RDs] at h
    obtain ⟨v, r, rfl, h1, h2⟩ := h
    cases d with
    | int i =>
      simp only [toInts] at e
      cases q : toInts ds with
      | none => rw [q] at e; cases e
      | some ms =>
        rw [q] at e
        simp only [Option.map_some, Option.some.injEq] at e
        subst e
        simp only [RD] at h1
        rw [h1, RDs.ints h2 q]; rfl
    | _ => simp [toInts] at e
theorem toInts_map : ∀ {ds : List D} {ns : List Int}, toInts ds = some ns → ds = ns.map D.int
  | [], ns, e => by simp only [toInts] at e; cases e; rfl
  | d :: ds, ns, e => by
    cases d with
    | int i =>
      simp only [toInts] at e
      cases q : toInts ds with
      | none => rw [q] at e; cases e
      | some ms =>
        rw [q] at e
        simp only [Option.map_some, Option.some.injEq] at e
        subst e
        rw [toInts_map q]; rfl
    | _ => simp [toInts] at e
theorem rds_ints : ∀ (ns : List Int), RDs K ρ H (ns.map D.int) (ns.map V.int)
  | [] => .nil
  | n :: ns => .cons (by simp [RD]) (rds_ints ns)
theorem RDs.bls : ∀ {ds : List D} {vs : List V} {ns : List Bool}, RDs K ρ H ds vs → toBls ds = some ns → vs = ns.map V.bl
  | [], vs, ns, h, e => by
    simp only [RDs] at h
    simp only [toBls] at e
    cases e; subst h; rfl
  | d :: ds, vs, ns, h, e => by
    simp only [RDs] at h
    obtain ⟨v, r, rfl, h1, h2⟩ := h
    cases d with
    | bl i =>
      simp only [toBls] at e
      cases q : toBls ds with
      | none => rw [q] at e; cases e
      | some ms =>
        rw [q] at e
        simp only [Option.map_some, Option.some.injEq] at e
        subst e
        simp only [RD] at h1
        rw [h1, RDs.bls h2 q]; rfl
    | _ => simp [toBls] at e
/-- a list just made goes into the store -/
theorem SOk.push (s : SOk K ρ H S) {a : Addr} {vs : List V} {ds : List D} (ha : H a = some (.lst vs)) (r : RDs K ρ H ds vs) (n : a ∉ ρ) (z : ds.length ≤ sizeLine) : SOk K (ρ ++ [a]) H (S ++ [.lst ds]) := by
  have mono : ∀ ds vs, RDs K ρ H ds vs → RDs K (ρ ++ [a]) H ds vs := RDs.pre (List.prefix_append _ _)
  refine ⟨by simp [s.len], ?_, fun k es e => ?_, fun k es e => ?_⟩
  · rw [List.nodup_append]
    exact ⟨s.nd, by simp, fun x hx y hy => by simp at hy; subst hy; exact fun e => n (e ▸ hx)⟩
  · by_cases hk : k < S.length
    · rw [List.getElem?_append_left hk] at e
      exact s.fit k es e
    · rw [List.getElem?_append_right (by omega)] at e
      have hm := List.mem_of_getElem? e
      rw [List.mem_singleton] at hm
      cases hm
      exact z
  · by_cases hk : k < S.length
    · rw [List.getElem?_append_left hk] at e
      obtain ⟨b, us, h1, h2, h3⟩ := s.lst k es e
      exact ⟨b, us, by rw [List.getElem?_append_left (by rw [s.len]; exact hk)]; exact h1, h2, mono _ _ h3⟩
    · have hk2 : k = S.length := by
        have := (List.getElem?_eq_some_iff.mp e).1
        rw [List.length_append] at this
        simp at this; omega
      subst hk2
      rw [List.getElem?_append_right (Nat.le_refl _)] at e
      simp at e
      subst e
      exact ⟨a, vs, by rw [List.getElem?_append_right (by rw [s.len]; exact Nat.le_refl _)]; simp [s.len], ha, mono _ _ r⟩
/-- a list of the store is written -/
theorem SOk.set (s : SOk K ρ H S) {n : Nat} {a : Addr} {vs vs' : List V} {ds ds' : List D} (hn : S[n]? = some (O.lst ds)) (hr : ρ[n]? = some a) (ha : H a = some (.lst vs)) (r : RDs K ρ H ds' vs') (z : ds'.length ≤ sizeLine) :
    SOk K ρ (upd H a (.lst vs')) (setN S n ds') ∧ Step ρ H ρ (upd H a (.lst vs')) := by
  have am : a ∈ ρ := List.mem_of_getElem? hr
  have st : Step ρ H ρ (upd H a (.lst vs')) := ⟨List.prefix_rfl, fun x m n => absurd m n, fun b o e nb => by rw [upd_ne (show b ≠ a from fun z => nb (z ▸ am))]; exact e⟩
  refine ⟨⟨by simp [setN, s.len], s.nd, fun k es e => ?_, fun k es e => ?_⟩, st⟩
  · unfold setN at e
    by_cases hk : n = k
    · subst hk
      rw [List.getElem?_set_self (List.getElem?_eq_some_iff.mp hn).1] at e
      cases e
      exact z
    · rw [List.getElem?_set_ne hk] at e
      exact s.fit k es e
  unfold setN at e
  by_cases hk : n = k
  · subst hk
    rw [List.getElem?_set_self (List.getElem?_eq_some_iff.mp hn).1] at e
    cases e
    exact ⟨a, vs', hr, upd_same, RDs.mono st s.nt _ _ r⟩
  · rw [List.getElem?_set_ne hk] at e
    obtain ⟨b, us, h1, h2, h3⟩ := s.lst k es e
    refine ⟨b, us, h1, ?_, RDs.mono st s.nt _ _ h3⟩
    rw [upd_ne ?_]; exact h2
    intro z; subst z
    obtain ⟨i1, e1⟩ := List.getElem?_eq_some_iff.mp hr
    obtain ⟨i2, e2⟩ := List.getElem?_eq_some_iff.mp h1
    exact hk ((List.getElem_inj s.nd).mp (e1.trans e2.symm))
/-- what stands at a reference -/
theorem SOk.at (s : SOk K ρ H S) {n : Nat} {ds : List D} {v : V} (hv : RD K ρ H (.ref n) v) (hn : S[n]? = some (O.lst ds)) : ∃ a vs, v = .ref a ∧ ρ[n]? = some a ∧ H a = some (.lst vs) ∧ RDs K ρ H ds vs := by
  simp only [RD] at hv
  obtain ⟨a, e, h1⟩ := hv
  obtain ⟨b, vs, h2, h3, h4⟩ := s.lst n ds hn
  rw [h1] at h2; cases h2
  exact ⟨a, vs, e, h1, h3, h4⟩
/-- what a sequence's value is -/
def QP (K : PySem.W.Frag) (ρ' : List Addr) (H0 H' : Hp) : Qv → V → Prop
  | .val d, v => RD K ρ' H' d v
  | .new ds, v => ds.length ≤ sizeLine ∧ ∃ a vs, v = .ref a ∧ H' a = some (.lst vs) ∧ RDs K ρ' H' ds vs ∧ a ∉ ρ' ∧ H0 a = none
/-- its items, read -/
theorem QP.read (s : SOk K ρ' H' S') {H0 : Hp} {q : Qv} {v : V} {ds : List D} (h : QP K ρ' H0 H' q v) (e : items S' q = some ds) : ∃ a vs, v = .ref a ∧ (SqL K H' a vs ∨ SqT K H' a vs) ∧ RDs K ρ' H' ds vs := by
  cases q with
  | new es =>
    simp only [items] at e
    cases e
    obtain ⟨_, a, vs, e, h1, h2, _⟩ := h
    exact ⟨a, vs, e, .inl (SqL.of h1), h2⟩
  | val d =>
    cases d with
    | tup es =>
      simp only [items] at e; cases e
      simp only [QP, RD] at h
      obtain ⟨_, a, vs, e, h1, h2⟩ := h
      exact ⟨a, vs, e, .inr h1.sq, h2⟩
    | frl es =>
      simp only [items] at e; cases e
      simp only [QP, RD] at h
      obtain ⟨_, a, vs, e, h1, h2⟩ := h
      exact ⟨a, vs, e, .inl h1.sq, h2⟩
    | ref n =>
      simp only [items] at e
      cases q : S'[n]? with
      | none => rw [q] at e; cases e
      | some o =>
        cases o with
        | lst es =>
          rw [q] at e
          cases e
          obtain ⟨a, vs, e, _, h1, h2⟩ := s.at h q
          exact ⟨a, vs, e, .inl (SqL.of h1), h2⟩
    | _ => simp [items] at e
/-- .. few enough -/
theorem QP.few (s : SOk K ρ' H' S') {H0 : Hp} {q : Qv} {v : V} {ds : List D} (h : QP K ρ' H0 H' q v) (e : items S' q = some ds) : ds.length ≤ sizeLine := by
  cases q with
  | new es => simp only [items] at e; cases e; exact h.1
  | val d =>
    cases d with
    | tup es => simp only [items] at e; cases e; simp only [QP, RD] at h; exact h.1
    | frl es => simp only [items] at e; cases e; simp only [QP, RD] at h; exact h.1
    | ref n =>
      simp only [items] at e
      cases q : S'[n]? with
      | none => rw [q] at e; cases e
      | some o =>
        cases o with
        | lst es => rw [q] at e; cases e; exact s.fit n _ q
    | _ => simp [items] at e
end
/-! ## readings -/
section
variable (K : PySem.W.Frag) (C : Nat → List D → Sto → Option (D × Sto))
def AfE (ρ : List Addr) (H : Hp) (d : D) (S' : Sto) (Q : VK) : Prop := ∀ v H' ρ', Step ρ H ρ' H' → RD K ρ' H' d v → SOk K ρ' H' S' → Q v H'
def tE (e : E) : TE := fun σ H Q => ∃ ρ S η d S', RE K ρ H σ η ∧ SOk K ρ H S ∧ runE C e η S = some (d, S') ∧ AfE K ρ H d S' Q
def tT (e : E) : TT := fun σ H Q => ∃ ρ S η b S', RE K ρ H σ η ∧ SOk K ρ H S ∧ runE C e η S = some (.bl b, S') ∧ ∀ H' ρ', Step ρ H ρ' H' → SOk K ρ' H' S' → Q b H'
def tEs (es : Es) : TA := fun σ H Q => ∃ ρ S η ds S', RE K ρ H σ η ∧ SOk K ρ H S ∧ runEs C es η S = some (ds, S') ∧ ∀ vs H' ρ', Step ρ H ρ' H' → RDs K ρ' H' ds vs → SOk K ρ' H' S' → Q vs H'
def tOe (e : Oe) : TO := fun σ H Q => ∃ ρ S η o S', RE K ρ H σ η ∧ SOk K ρ H S ∧ runOe C e η S = some (o, S') ∧ ∀ H' ρ', Step ρ H ρ' H' → SOk K ρ' H' S' → Q o H'
def tQ (q : Q) : TE := fun σ H Qf => ∃ ρ S η x S', RE K ρ H σ η ∧ SOk K ρ H S ∧ runQ C q η S = some (x, S') ∧ ∀ v H' ρ', Step ρ H ρ' H' → QP K ρ' H H' x v → SOk K ρ' H' S' → Qf v H'
def tL (l : Lh) : TG := fun v σ H Qf => ∃ ρ S η d η' S', RE K ρ H σ η ∧ SOk K ρ H S ∧ RD K ρ H d v ∧ runL C l d η S = some (η', S') ∧ ∀ σ' H' ρ', Step ρ H ρ' H' → RE K ρ' H' σ' η' → SOk K ρ' H' S' → Qf σ' H'
def tLs (l : Lhs) : TGs := fun vs σ H Qf => ∃ ρ S η ds η' S', RE K ρ H σ η ∧ SOk K ρ H S ∧ RDs K ρ H ds vs ∧ runLs C l ds η S = some (η', S') ∧ ∀ σ' H' ρ', Step ρ H ρ' H' → RE K ρ' H' σ' η' → SOk K ρ' H' S' → Qf σ' H'
def FlP (D0 : Ends) (ρ' : List Addr) (σ' : L2.St) (H' : Hp) : Fl → Prop
  | .nx => D0.nx σ' H' | .bk => D0.bk σ' H' | .ct => D0.ct σ' H' | .rt d => ∀ v, RD K ρ' H' d v → D0.rt v H'
def tS (s : St) : TS := fun D0 σ H => ∃ ρ S η f η' S', RE K ρ H σ η ∧ SOk K ρ H S ∧ runS C s η S = some (f, η', S') ∧ ∀ σ' H' ρ', Step ρ H ρ' H' → RE K ρ' H' σ' η' → SOk K ρ' H' S' → FlP K D0 ρ' σ' H' f
def tSs (s : Sts) : TS := fun D0 σ H => ∃ ρ S η f η' S', RE K ρ H σ η ∧ SOk K ρ H S ∧ runSs C s η S = some (f, η', S') ∧ ∀ σ' H' ρ', Step ρ H ρ' H' → RE K ρ' H' σ' η' → SOk K ρ' H' S' → FlP K D0 ρ' σ' H' f
end
end Ol
set_option Elab.async false
set_option linter.all false
set_option maxRecDepth 100000
set_option maxHeartbeats 1000000
namespace Ol
open PySem PySem.Spec PyProof.Rows L2
/-! ## pieces of readings -/
section
variable {K : PySem.W.Frag} {C : Nat → List D → Sto → Option (D × Sto)}
abbrev G1 := D → Sto → Option (D × Sto)
abbrev G2 := D → D → Sto → Option (D × Sto)
abbrev G3 := D → D → D → Sto → Option (D × Sto)
def r1 (K : PySem.W.Frag) (g : G1) : V → Hp → VK → Prop := fun x H Q => ∃ ρ S a d S', SOk K ρ H S ∧ RD K ρ H a x ∧ g a S = some (d, S') ∧ AfE K ρ H d S' Q
def r2 (K : PySem.W.Frag) (g : G2) : R2 := fun x y H Q => ∃ ρ S a b d S', SOk K ρ H S ∧ RD K ρ H a x ∧ RD K ρ H b y ∧ g a b S = some (d, S') ∧ AfE K ρ H d S' Q
def r3 (K : PySem.W.Frag) (g : G3) : V → V → V → Hp → VK → Prop := fun x y z H Q => ∃ ρ S a b c d S', SOk K ρ H S ∧ RD K ρ H a x ∧ RD K ρ H b y ∧ RD K ρ H c z ∧ g a b c S = some (d, S') ∧ AfE K ρ H d S' Q
theorem AfE.trans {ρ ρ1 : List Addr} {H H1 : Hp} {d : D} {S' : Sto} {Q : VK} (h : AfE K ρ H d S' Q) (s : Step ρ H ρ1 H1) : AfE K ρ1 H1 d S' Q := fun v H' ρ' st r so => h v H' ρ' (s.trans st) r so
theorem AfE.now {ρ : List Addr} {H : Hp} {d : D} {S : Sto} {Q : VK} (h : AfE K ρ H d S Q) {v : V} (r : RD K ρ H d v) (so : SOk K ρ H S) : Q v H := h v H ρ (Step.refl _ _) r so
theorem AfE.new {ρ : List Addr} {H : Hp} {ds : List D} {vs : List V} {S : Sto} {Q : VK} (h : AfE K ρ H (.tup ds) S Q) (r : RDs K ρ H ds vs) (z : ds.length ≤ sizeLine) (so : SOk K ρ H S) {p : Addr} (hp : H p = none) (its : List Value) : Q (.ref p) (upd H p (.frz (tupO its) (.tup vs))) := by
  have st : Step ρ H ρ (upd H p (.frz (tupO its) (.tup vs))) := Step.laid hp _
  refine h _ _ ρ st ?_ (so.laid hp _)
  simp only [RD]
  exact ⟨z, p, vs, rfl, ⟨its, upd_same⟩, RDs.mono st so.nt _ _ r⟩
theorem tE1 {n a : E} {g : G1} (hr : ∀ η S, runE C n η S = (runE C a η S).bind fun x => g x.1 x.2) {σ : L2.St} {H : Hp} {Qf : VK} (h : tE K C n σ H Qf) : tE K C a σ H fun x H1 => r1 K g x H1 Qf := by
  obtain ⟨ρ, S, η, d, S', re, so, run, post⟩ := h
  rw [hr] at run
  obtain ⟨⟨da, S1⟩, e1, e2⟩ := Option.bind_eq_some_iff.mp run
  exact ⟨ρ, S, η, da, S1, re, so, e1, fun x H1 ρ1 st rx so1 => ⟨ρ1, S1, da, d, S', so1, rx, e2, post.trans st⟩⟩
theorem tE2 {n a b : E} {g : G2} (hr : ∀ η S, runE C n η S = (runE C a η S).bind fun x => (runE C b η x.2).bind fun y => g x.1 y.1 y.2) {σ : L2.St} {H : Hp} {Qf : VK} (h : tE K C n σ H Qf) : tOp (r2 K g) (tE K C a) (tE K C b) σ H Qf := by
  obtain ⟨ρ, S, η, d, S', re, so, run, post⟩ := h
  rw [hr] at run
  obtain ⟨⟨da, S1⟩, e1, e2⟩ := Option.bind_eq_some_iff.mp run
  obtain ⟨⟨db, S2⟩, e3, e4⟩ := Option.bind_eq_some_iff.mp e2
  refine ⟨ρ, S, η, da, S1, re, so, e1, fun x H1 ρ1 st rx so1 => ⟨ρ1, S1, η, db, S2, re.mono st so.nt, so1, e3, fun y H2 ρ2 st2 ry so2 => ?_⟩⟩
  exact ⟨ρ2, S2, da, db, d, S', so2, RD.mono st2 so1.nt _ _ rx, ry, e4, (post.trans st).trans st2⟩
variable {X : Cx}
theorem _root_.L2.OpR.le {f : Value → Value → Sem Value} {r r' : R2} (h : OpR X f r) (m : ∀ x y H Q, r' x y H Q → r x y H Q) : OpR X f r' := fun pins s σ H x y v u Q I rx ry q => h pins s σ H x y v u Q I rx ry (m _ _ _ _ q)
theorem _root_.L2.CallR.le {f : Value} {r r' : List V → Hp → VK → Prop} (h : CallR X f r) (m : ∀ x H Q, r' x H Q → r x H Q) : CallR X f r' := fun pins s σ H x v Q I rx q => h pins s σ H x v Q I rx (m _ _ _ q)
theorem _root_.L2.MtR.le {id : String} {r r' : V → List V → Hp → VK → Prop} (h : MtR X id r) (m : ∀ x y H Q, r' x y H Q → r x y H Q) : MtR X id r' := fun pins s σ H x v y u Q I rx ry q => h pins s σ H x v y u Q I rx ry (m _ _ _ _ q)
/-! ## names and constants -/
theorem i_var {i : Nat} {x : Str} {pos : Pos} (hN : X.N[i]? = some x) (hv : Vis X.env.scope x) (hd : (x == ("__debug__" : Str)) = false) (hcd : (x == ("__classdict__" : Str)) = false) : PE X (.Name x pos) (tE X.K C (.var i)) :=
  (pe_var hN hv hd hcd).le fun σ H Qf ⟨ρ, S, η, d, S', re, so, run, post⟩ => by
    simp only [runE] at run
    cases q : η[i]? with
    | none => rw [q] at run; cases run
    | some o =>
      cases o with
      | none => rw [q] at run; cases run
      | some d' =>
        rw [q] at run
        cases run
        obtain ⟨v, h1, h2⟩ := re.get i d q
        exact ⟨v, h1, post.now h2 so⟩
theorem tC_of {e : E} {d : D} {v : V} (hr : ∀ η S, runE C e η S = some (d, S)) (hv : ∀ ρ H, RD K ρ H d v) {σ : L2.St} {H : Hp} {Qf : VK} (h : tE K C e σ H Qf) : tC v σ H Qf := by
  obtain ⟨ρ, S, η, d', S', re, so, run, post⟩ := h
  rw [hr] at run; cases run
  exact post.now (hv _ _) so
theorem i_int {i j pos} : PE X (.Constant (.int i) j pos) (tE X.K C (.int i)) := pe_int.le fun _ _ _ h => tC_of (d := .int i) (fun _ _ => by simp [runE]) (fun _ _ => by simp [RD]) h
theorem i_bl {b j pos} : PE X (.Constant (.bool b) j pos) (tE X.K C (.bl b)) := pe_bl.le fun _ _ _ h => tC_of (d := .bl b) (fun _ _ => by simp [runE]) (fun _ _ => by simp [RD]) h
theorem i_non {j pos} : PE X (.Constant .none j pos) (tE X.K C .non) := pe_non.le fun _ _ _ h => tC_of (d := .non) (fun _ _ => by simp [runE]) (fun _ _ => by simp [RD]) h
theorem i_str {x j pos} : PE X (.Constant (.str x) j pos) (tE X.K C (.str x)) := pe_str.le fun _ _ _ h => tC_of (d := .str x) (fun _ _ => by simp [runE]) (fun _ _ => by simp [RD]) h
/-! ## tuples, as they are made -/
section
variable {pins : List (Addr × Obj)} {σ : L2.St} {H : Hp} {s : Shared}
theorem laidT {vs : List V} {its : List Value} (I : Inv X pins σ H s) (r : Vals vs its) (z : vs.length ≤ sizeLine) (t' : Nat) :
    Inv X pins σ (upd H s.heap.objs.size (.frz (tupO its) (.tup vs))) { s with heap := s.heap.push (tupO its), toks := t' } :=
  I.laid (fun b u e => Heap.get?_push_of_some _ e) (Nat.le_refl _) ⟨Heap.get?_push_size _ rfl, z, its, r, IsTup.new _ _⟩
/-- what is wanted of a new tuple -/
def NewT (H : Hp) (vs : List V) (Q : VK) : Prop := ∀ p (its : List Value), H p = none → Q (.ref p) (upd H p (.frz (tupO its) (.tup vs)))
theorem NewT.ep {vs : List V} {its : List Value} {Q : VK} (q : NewT H vs Q) (I : Inv X pins σ H s) (r : Vals vs its) (z : vs.length ≤ sizeLine) (t' : Nat) :
    EP X pins σ Q (.ref s.heap.objs.size) { s with heap := s.heap.push (tupO its), toks := t' } := ⟨.ref s.heap.objs.size, _, laidT I r z t', rfl, q _ _ (I.hok.fresh (Nat.le_refl _))⟩
end
theorem AfE.newT {ρ : List Addr} {H : Hp} {ds : List D} {vs : List V} {S : Sto} {Q : VK} (h : AfE K ρ H (.tup ds) S Q) (r : RDs K ρ H ds vs) (z : ds.length ≤ sizeLine) (so : SOk K ρ H S) : NewT H vs Q := fun _ its hp => h.new r z so hp its
def rCatN (K : PySem.W.Frag) : R2 := fun x y H Q => ∃ a b xs ys, x = .ref a ∧ y = .ref b ∧ SqT K H a xs ∧ SqT K H b ys ∧ xs.length + ys.length ≤ sizeLine ∧
  (xs = [] → Q (.ref b) H) ∧ (xs ≠ [] → ys = [] → Q (.ref a) H) ∧ (xs ≠ [] → ys ≠ [] → NewT H (xs ++ ys) Q)
theorem op_catN : OpR X (binaryOp .Add) (rCatN X.K) := by
  intro pins s σ H x y v u Q I rx ry h
  obtain ⟨a, b, xs, ys, rfl, rfl, ha, hb, hz, q0, q1, q2⟩ := h
  cases rx
  cases ry
  obtain ⟨its, r1, p1, _⟩ := I.tuple ha
  obtain ⟨its2, r2, p2, _⟩ := I.tuple hb
  by_cases hx : xs = []
  · subst hx
    cases r1
    exact cat_tup0 p1 p2 ⟨.ref b, H, I, rfl, q0 rfl⟩
  · refine HT.cat_tup p1 p2 (fun e => hx ((Vals.nil_iff r1).mp e)) (fun e => ⟨.ref a, H, I, rfl, q1 hx ((Vals.nil_iff r2).mp e)⟩) (fun e => ?_) (by rw [← r1.length, ← r2.length]; exact hz)
    exact (q2 hx fun e2 => e ((Vals.nil_iff r2).mpr e2)).ep I (r1.append r2) (by rw [List.length_append]; exact hz) s.toks
/-! ## arithmetic -/
def gB (op : Op) : G2 := fun a b S => (binop op a b).map fun d => (d, S)
theorem gB_some {op : Op} {a b : D} {S : Sto} {r : D × Sto} (h : gB op a b S = some r) : binop op a b = some r.1 ∧ r.2 = S := by
  unfold gB at h
  cases q : binop op a b with
  | none => rw [q] at h; cases h
  | some d => rw [q] at h; cases h; exact ⟨rfl, rfl⟩
theorem rd_int {ρ : List Addr} {H : Hp} {i : Int} {v : V} (h : RD K ρ H (.int i) v) : v = .int i := by simpa [RD] using h
theorem rd_bl {ρ : List Addr} {H : Hp} {i : Bool} {v : V} (h : RD K ρ H (.bl i) v) : v = .bl i := by simpa [RD] using h
theorem rd_tup {ρ : List Addr} {H : Hp} {ds : List D} {v : V} (h : RD K ρ H (.tup ds) v) : ∃ a vs, v = .ref a ∧ TupAt H a vs ∧ RDs K ρ H ds vs := by
  simp only [RD] at h; exact h.2
theorem rd_few {ρ : List Addr} {H : Hp} {ds : List D} {v : V} (h : RD K ρ H (.tup ds) v) : ds.length ≤ sizeLine := by
  simp only [RD] at h; exact h.1
theorem mk_int {ρ : List Addr} {H : Hp} {i : Int} : RD K ρ H (.int i) (.int i) := by simp [RD]
theorem mk_bl {ρ : List Addr} {H : Hp} {i : Bool} : RD K ρ H (.bl i) (.bl i) := by simp [RD]
theorem mk_non {ρ : List Addr} {H : Hp} : RD K ρ H .non .non := by simp [RD]
theorem mk_tup {ρ : List Addr} {H : Hp} {ds : List D} {a : Addr} {vs : List V} (h : TupAt H a vs) (r : RDs K ρ H ds vs) (z : ds.length ≤ sizeLine) : RD K ρ H (.tup ds) (.ref a) := by
  simp only [RD]; exact ⟨z, a, vs, rfl, h, r⟩
theorem o_add : OpR X (binaryOp .Add) (r2 X.K (gB .add)) := by
  intro pins s σ H x y v u Q I rx ry ⟨ρ, S, a, b, d, S', so, ra, rb, run, post⟩
  obtain ⟨e, e2⟩ := gB_some run
  simp only at e e2
  subst e2
  cases a <;> cases b <;> first
    | (simp only [binop] at e; cases e; done)
    | (simp only [binop] at e; cases e
       rw [rd_int ra] at rx; rw [rd_int rb] at ry
       exact op_add pins s σ H _ _ v u Q I rx ry ⟨_, _, rfl, rfl, post.now mk_int so⟩)
    | skip
  simp only [binop] at e
  split at e
  · rename_i hz
    cases e
    obtain ⟨p, vs, rfl, h1, h2⟩ := rd_tup ra
    obtain ⟨q, us, rfl, h3, h4⟩ := rd_tup rb
    refine op_catN pins s σ H _ _ v u Q I rx ry ⟨p, q, vs, us, rfl, rfl, h1.sq, h3.sq, by rw [← h2.length, ← h4.length]; exact hz, fun e => ?_, fun _ e => ?_, fun _ _ => post.newT (h2.append h4) (by rw [List.length_append]; exact hz) so⟩
    · subst e
      exact post.now (mk_tup h3 (by simpa using h2.append h4) (by rw [List.length_append]; exact hz)) so
    · subst e
      exact post.now (mk_tup h1 (by simpa using h2.append h4) (by rw [List.length_append]; exact hz)) so
  · cases e
theorem o_ints {op : Op} {o : Operator} {c : Int → Int → Prop} {g : Int → Int → Int} (h : OpR X (binaryOp o) (rI c fun i j => .int (g i j)))
    (hb : ∀ a b d, binop op a b = some d → ∃ i j, a = .int i ∧ b = .int j ∧ c i j ∧ d = .int (g i j)) : OpR X (binaryOp o) (r2 X.K (gB op)) := by
  intro pins s σ H x y v u Q I rx ry ⟨ρ, S, a, b, d, S', so, ra, rb, run, post⟩
  obtain ⟨e, e2⟩ := gB_some run
  simp only at e e2
  subst e2
  obtain ⟨i, j, rfl, rfl, hc, rfl⟩ := hb _ _ _ e
  rw [rd_int ra] at rx; rw [rd_int rb] at ry
  exact h pins s σ H _ _ v u Q I rx ry ⟨_, _, rfl, rfl, hc, post.now mk_int so⟩
theorem o_ints0 {op : Op} {o : Operator} {g : Int → Int → Int} (h : OpR X (binaryOp o) (rI0 fun i j => .int (g i j)))
    (hb : ∀ a b d, binop op a b = some d → ∃ i j, a = .int i ∧ b = .int j ∧ d = .int (g i j)) : OpR X (binaryOp o) (r2 X.K (gB op)) := by
  intro pins s σ H x y v u Q I rx ry ⟨ρ, S, a, b, d, S', so, ra, rb, run, post⟩
  obtain ⟨e, e2⟩ := gB_some run
  simp only at e e2
  subst e2
  obtain ⟨i, j, rfl, rfl, rfl⟩ := hb _ _ _ e
  rw [rd_int ra] at rx; rw [rd_int rb] at ry
  exact h pins s σ H _ _ v u Q I rx ry ⟨_, _, rfl, rfl, post.now mk_int so⟩
theorem o_sub : OpR X (binaryOp .Sub) (r2 X.K (gB .sub)) := o_ints0 op_sub fun a b d e => by
  cases a <;> cases b <;> simp [binop] at e <;> exact ⟨_, _, rfl, rfl, e.symm⟩
theorem o_fdiv : OpR X (binaryOp .FloorDiv) (r2 X.K (gB .fdiv)) := o_ints op_fdiv fun a b d e => by
  cases a <;> cases b <;> simp [binop] at e
  exact ⟨_, _, rfl, rfl, e.1, e.2.symm⟩
theorem o_mod : OpR X (binaryOp .Mod) (r2 X.K (gB .mod)) := o_ints op_mod fun a b d e => by
  cases a <;> cases b <;> simp [binop] at e
  exact ⟨_, _, rfl, rfl, e.1, e.2.symm⟩
theorem o_pow : OpR X (binaryOp .Pow) (r2 X.K (gB .pow)) := o_ints op_pow fun a b d e => by
  cases a <;> cases b <;> simp only [binop] at e <;> first | (cases e; done) | skip
  split at e
  · rename_i h; cases e; exact ⟨_, _, rfl, rfl, h, rfl⟩
  · cases e
theorem o_shl : OpR X (binaryOp .LShift) (r2 X.K (gB .shl)) := o_ints op_shl fun a b d e => by
  cases a <;> cases b <;> simp only [binop] at e <;> first | (cases e; done) | skip
  split at e
  · rename_i h; cases e; exact ⟨_, _, rfl, rfl, h, rfl⟩
  · cases e
theorem o_shr : OpR X (binaryOp .RShift) (r2 X.K (gB .shr)) := o_ints op_shr fun a b d e => by
  cases a <;> cases b <;> simp only [binop] at e <;> first | (cases e; done) | skip
  split at e
  · rename_i h; cases e; exact ⟨_, _, rfl, rfl, h, rfl⟩
  · cases e
theorem o_and : OpR X (binaryOp .BitAnd) (r2 X.K (gB .band)) := o_ints0 op_and fun a b d e => by
  cases a <;> cases b <;> simp [binop] at e <;> exact ⟨_, _, rfl, rfl, e.symm⟩
theorem o_xor : OpR X (binaryOp .BitXor) (r2 X.K (gB .bxor)) := o_ints0 op_xor fun a b d e => by
  cases a <;> cases b <;> simp [binop] at e <;> exact ⟨_, _, rfl, rfl, e.symm⟩
theorem small_mul {i j : Int} (h : (small64 i || small64 j) = true) : CMul i j := by
  rw [Bool.or_eq_true] at h
  rcases h with h | h
  · exact .inl (of_decide_eq_true h)
  · exact .inr (of_decide_eq_true h)
theorem o_mul : OpR X (binaryOp .Mult) (r2 X.K (gB .mul)) := o_ints op_mul fun a b d e => by
  cases a <;> cases b <;> simp only [binop] at e <;> first | (cases e; done) | skip
  split at e
  · rename_i h; cases e; exact ⟨_, _, rfl, rfl, small_mul h, rfl⟩
  · cases e
/-- the operator's sign -/
def opOf : Operator → Option Op
  | .Add => some .add | .Sub => some .sub | .Mult => some .mul | .FloorDiv => some .fdiv | .Mod => some .mod | .Pow => some .pow
  | .BitAnd => some .band | .BitXor => some .bxor | .LShift => some .shl | .RShift => some .shr | _ => none
theorem o_any {o : Operator} {op : Op} (h : opOf o = some op) : OpR X (binaryOp o) (r2 X.K (gB op)) := by
  cases o <;> simp [opOf] at h <;> subst h
  · exact o_add
  · exact o_sub
  · exact o_mul
  · exact o_mod
  · exact o_pow
  · exact o_shl
  · exact o_shr
  · exact o_xor
  · exact o_and
  · exact o_fdiv
variable {a b c : Expr} {ea eb ec : E} {pos : Pos}
theorem i_bin {o : Operator} {op : Op} (h : opOf o = some op) (ha : PE X a (tE X.K C ea)) (hb : PE X b (tE X.K C eb)) : PE X (.BinOp a o b pos) (tE X.K C (.bin op ea eb)) :=
  (pe_op (o_any h) ha hb).le fun _ _ _ q => tE2 (g := gB op) (fun η S => by simp only [runE] <;> rfl) q
theorem i_neg (ha : PE X a (tE X.K C ea)) : PE X (.UnaryOp .USub a pos) (tE X.K C (.neg ea)) :=
  (pe_un un_neg ha).le fun σ H Qf q => by
    obtain ⟨ρ, S, η, d, S', re, so, run, post⟩ := tE1 (a := ea) (g := fun a S => match a with | .int i => some (.int (-i), S) | _ => none) (fun η S => by simp only [runE] <;> rfl) q
    refine ⟨ρ, S, η, d, S', re, so, run, fun x H1 ρ1 st rx so1 => ?_⟩
    obtain ⟨ρ2, S2, a, d2, S3, so2, ra, e, post2⟩ := post x H1 ρ1 st rx so1
    cases a <;> simp at e
    obtain ⟨rfl, rfl⟩ := e
    exact ⟨_, rd_int ra, post2.now mk_int so2⟩
end
end Ol
set_option Elab.async false
set_option linter.all false
set_option maxRecDepth 100000
set_option maxHeartbeats 1000000
namespace Ol
open PySem PySem.Spec PyProof.Rows L2
/-! ## comparisons -/
section
variable {K : PySem.W.Frag} {ρ : List Addr} {H : Hp} {S : Sto}
mutual
theorem dp_of : ∀ (d : D) (v : V), d.pure = true → RD K ρ H d v → Dp K H v d.py
  | .non, v, _, h => by simp only [RD] at h; subst h; simp only [D.py]; exact .non
  | .bl b, v, _, h => by simp only [RD] at h; subst h; simp only [D.py]; exact .bl b
  | .int b, v, _, h => by simp only [RD] at h; subst h; simp only [D.py]; exact .int b
  | .str b, v, _, h => by simp only [RD] at h; subst h; simp only [D.py]; exact .str b
  | .tup ds, v, p, h => by
    simp only [RD] at h
    obtain ⟨_, a, vs, rfl, h1, h2⟩ := h
    simp only [D.py]
    exact .tup h1.sq (dps_of ds vs (by simpa [D.pure] using p) h2)
  | .frl ds, v, p, h => by
    simp only [RD] at h
    obtain ⟨_, a, vs, rfl, h1, h2⟩ := h
    simp only [D.py]
    exact .lst h1.sq (dps_of ds vs (by simpa [D.pure] using p) h2)
  | .ref n, v, p, _ => by simp [D.pure] at p
theorem dps_of : ∀ (ds : List D) (vs : List V), pures ds = true → RDs K ρ H ds vs → DpAll K H vs (pys ds)
  | [], vs, _, h => by simp only [RDs] at h; subst h; simp only [pys]; exact .nil
  | d :: ds, vs, p, h => by
    simp only [RDs] at h
    obtain ⟨v, r, rfl, h1, h2⟩ := h
    have p' : d.pure = true ∧ pures ds = true := by simpa [pures] using p
    simp only [pys]
    exact .cons (dp_of d v p'.1 h1) (dps_of ds r p'.2 h2)
end
theorem flat_of {d : D} {v : V} (f : d.isFlat = true) (h : RD K ρ H d v) : flatV v = true := by
  cases d <;> simp [D.isFlat] at f <;> simp only [RD] at h <;> subst h <;> rfl
theorem flats_of : ∀ {ds : List D} {vs : List V}, ds.all D.isFlat = true → RDs K ρ H ds vs → vs.all flatV = true
  | [], vs, _, h => by simp only [RDs] at h; subst h; rfl
  | d :: ds, vs, f, h => by
    simp only [RDs] at h
    obtain ⟨v, r, rfl, h1, h2⟩ := h
    rw [List.all_cons, Bool.and_eq_true] at f ⊢
    exact ⟨flat_of f.1 h1, flats_of f.2 h2⟩
theorem eqF_of {d e : D} {v u : V} (f : d.isFlat = true) (g : e.isFlat = true) (h : RD K ρ H d v) (h' : RD K ρ H e u) : eqV v u = eqF d e := by
  cases d <;> simp [D.isFlat] at f <;> cases e <;> simp [D.isFlat] at g <;> simp only [RD] at h h' <;> subst h <;> subst h' <;> rfl
theorem anyF_of {e : D} {u : V} (g : e.isFlat = true) (h' : RD K ρ H e u) : ∀ {ds : List D} {vs : List V}, ds.all D.isFlat = true → RDs K ρ H ds vs → inV u vs = ds.any fun y => eqF y e
  | [], vs, _, h => by simp only [RDs] at h; subst h; rfl
  | d :: ds, vs, f, h => by
    simp only [RDs] at h
    obtain ⟨v, r, rfl, h1, h2⟩ := h
    rw [List.all_cons, Bool.and_eq_true] at f
    have ih := anyF_of g h' f.2 h2
    unfold inV at ih ⊢
    rw [List.any_cons, List.any_cons, eqF_of f.1 g h1 h', ih]
theorem cmp_eqd {a b : D} {k : Bool} (h : eqd a b = some k) : a.pure = true ∧ SeqAt.shaped a.py = true ∧ b.pure = true ∧ SeqAt.shaped b.py = true ∧ k = PyData.eqv a.py b.py := by
  unfold eqd at h
  split at h
  · rename_i q
    cases h
    unfold D.okPy at q
    simp only [Bool.and_eq_true] at q
    exact ⟨q.1.1, q.1.2, q.2.1, q.2.2, rfl⟩
  · cases h
end
section
variable {X : Cx} {C : Nat → List D → Sto → Option (D × Sto)}
/-- a comparison's reading, by values -/
def rC (K : PySem.W.Frag) (op : Cp) : R2 := fun x y H Q => ∃ ρ S a b k, SOk K ρ H S ∧ RD K ρ H a x ∧ RD K ρ H b y ∧ cmpop S op a b = some k ∧ Q (.bl k) H
def cpOf : CmpOp → Option Cp
  | .Eq => some .eq | .NotEq => some .ne | .Lt => some .lt | .LtE => some .le | .Gt => some .gt | .GtE => some .ge | .In => some .in_ | .NotIn => some .notin | _ => none
theorem c_seq {K : PySem.W.Frag} {ρ : List Addr} {H : Hp} {S : Sto} {a b : D} {x y : V} {k : Bool} {neg : Bool} (so : SOk K ρ H S) (ra : RD K ρ H a x) (rb : RD K ρ H b y)
    (h : (match b with
      | .tup ds => if (a.isFlat && ds.all D.isFlat) = true then some (if neg then !ds.any fun y => eqF y a else ds.any fun y => eqF y a) else none
      | .frl ds => if (a.isFlat && ds.all D.isFlat) = true then some (if neg then !ds.any fun y => eqF y a else ds.any fun y => eqF y a) else none
      | .ref n => match S[n]? with
        | some (.lst ds) => if (a.isFlat && ds.all D.isFlat) = true then some (if neg then !ds.any fun y => eqF y a else ds.any fun y => eqF y a) else none
        | _ => none
      | _ => none) = some k) {Q : VK} (q : Q (.bl k) H) : rIn K neg x y H Q := by
  have fin : ∀ {p : Addr} {vs : List V} {ds : List D}, y = .ref p → (SqL K H p vs ∨ SqT K H p vs) → RDs K ρ H ds vs → (if (a.isFlat && ds.all D.isFlat) = true then some (if neg then !ds.any fun y => eqF y a else ds.any fun y => eqF y a) else none) = some k → rIn K neg x y H Q := by
    intro p vs ds e hs hr hk
    split at hk
    · rename_i f
      rw [Bool.and_eq_true] at f
      refine ⟨p, vs, e, hs, flat_of f.1 ra, flats_of f.2 hr, ?_⟩
      rw [anyF_of f.1 ra f.2 hr]
      cases hk
      exact q
    · cases hk
  cases b with
  | tup ds =>
    obtain ⟨p, vs, e, h1, h2⟩ := rd_tup rb
    exact fin e (.inr h1.sq) h2 h
  | frl ds =>
    simp only [RD] at rb
    obtain ⟨_, p, vs, e, h1, h2⟩ := rb
    exact fin e (.inl h1.sq) h2 h
  | ref n =>
    simp only at h
    cases q : S[n]? with
    | none => rw [q] at h; cases h
    | some o =>
      cases o with
      | lst ds =>
        rw [q] at h
        obtain ⟨p, vs, e, _, h1, h2⟩ := so.at rb q
        exact fin e (.inl (SqL.of h1)) h2 h
  | _ => cases h
theorem c_any {o : CmpOp} {op : Cp} (hu : X.A.units + 64 < cLine) (h : cpOf o = some op) : OpR X (compareOp o) (rC X.K op) := by
  intro pins s σ H x y v u Q I rx ry ⟨ρ, S, a, b, k, so, ra, rb, e, q⟩
  cases o <;> simp [cpOf] at h <;> subst h
  · obtain ⟨p1, s1, p2, s2, rfl⟩ := cmp_eqd e
    exact op_eqD hu pins s σ H x y v u Q I rx ry ⟨_, _, dp_of a x p1 ra, dp_of b y p2 rb, s1, s2, q⟩
  · simp only [cmpop] at e
    cases z : eqd a b with
    | none => rw [z] at e; cases e
    | some j =>
      rw [z] at e
      cases e
      obtain ⟨p1, s1, p2, s2, rfl⟩ := cmp_eqd z
      exact op_neD hu pins s σ H x y v u Q I rx ry ⟨_, _, dp_of a x p1 ra, dp_of b y p2 rb, s1, s2, q⟩
  · cases a <;> cases b <;> simp [cmpop] at e
    subst e
    rw [rd_int ra] at rx; rw [rd_int rb] at ry
    exact op_lt pins s σ H _ _ v u Q I rx ry ⟨_, _, rfl, rfl, q⟩
  · cases a <;> cases b <;> simp [cmpop] at e
    subst e
    rw [rd_int ra] at rx; rw [rd_int rb] at ry
    exact op_le pins s σ H _ _ v u Q I rx ry ⟨_, _, rfl, rfl, q⟩
  · cases a <;> cases b <;> simp [cmpop] at e
    subst e
    rw [rd_int ra] at rx; rw [rd_int rb] at ry
    exact op_gt pins s σ H _ _ v u Q I rx ry ⟨_, _, rfl, rfl, q⟩
  · cases a <;> cases b <;> simp [cmpop] at e
    subst e
    rw [rd_int ra] at rx; rw [rd_int rb] at ry
    exact op_ge pins s σ H _ _ v u Q I rx ry ⟨_, _, rfl, rfl, q⟩
  · exact op_in_seq pins s σ H x y v u Q I rx ry (c_seq (neg := false) so ra rb (by cases b <;> simp [cmpop] at e ⊢ <;> exact e) q)
  · exact op_notIn_seq pins s σ H x y v u Q I rx ry (c_seq (neg := true) so ra rb (by cases b <;> simp [cmpop] at e ⊢ <;> exact e) q)
variable {a b c d : Expr} {ea eb ec ed : E} {pos : Pos}
theorem tE_cmp {op : Cp} {σ : L2.St} {H : Hp} {Qf : VK} (h : tE X.K C (.cmp op ea eb) σ H Qf) : tOp (rC X.K op) (tE X.K C ea) (tE X.K C eb) σ H Qf := by
  obtain ⟨ρ, S, η, d, S', re, so, run, post⟩ := h
  simp only [runE] at run
  obtain ⟨⟨da, S1⟩, e1, e2⟩ := Option.bind_eq_some_iff.mp run
  obtain ⟨⟨db, S2⟩, e3, e4⟩ := Option.bind_eq_some_iff.mp e2
  obtain ⟨k, e5, e6⟩ := Option.map_eq_some_iff.mp e4
  cases e6
  refine ⟨ρ, S, η, da, S1, re, so, e1, fun x H1 ρ1 st rx so1 => ⟨ρ1, S1, η, db, S2, re.mono st so.nt, so1, e3, fun y H2 ρ2 st2 ry so2 => ?_⟩⟩
  exact ⟨ρ2, S2, da, db, k, so2, RD.mono st2 so1.nt _ _ rx, ry, e5, ((AfE.trans (AfE.trans post st) st2)).now mk_bl so2⟩
theorem i_cmp {o : CmpOp} {op : Cp} (hu : X.A.units + 64 < cLine) (h : cpOf o = some op) (hm : behindInMarks o b = false) (ha : PE X a (tE X.K C ea)) (hb : PE X b (tE X.K C eb)) : PE X (.Compare a [o] [b] pos) (tE X.K C (.cmp op ea eb)) :=
  (pe_cmpR (c_any hu h) ha hb hm).le fun _ _ _ q => tE_cmp q
/-- a value's reading, as a test -/
theorem tT_E {e : E} {σ : L2.St} {H : Hp} {Qf : Bool → Hp → Prop} (h : tT X.K C e σ H Qf) : tTest (tE X.K C e) σ H Qf := by
  obtain ⟨ρ, S, η, k, S', re, so, run, post⟩ := h
  exact ⟨ρ, S, η, _, S', re, so, run, fun v H' ρ' st r so' => ⟨k, rd_bl r, post H' ρ' st so'⟩⟩
theorem t_cmp {o : CmpOp} {op : Cp} (hu : X.A.units + 64 < cLine) (h : cpOf o = some op) (hm : behindInMarks o b = false) (ha : PE X a (tE X.K C ea)) (hb : PE X b (tE X.K C eb)) : PT X (.Compare a [o] [b] pos) (tT X.K C (.cmp op ea eb)) :=
  (pt_cmpR (c_any hu h) ha hb hm).le fun _ _ _ q => tE_cmp (tT_E q)
/-- any expression that gives True or False -/
theorem t_val {e : Expr} {ee : E} (he : PE X e (tE X.K C ee)) (hp : ∀ whole, isTrue e X.env whole = (do let v ← whole; standAt e.pos; holding [v] (truthy v))) : PT X e (tT X.K C ee) :=
  (pt_val he hp).le fun _ _ _ q => tT_E q
/-- is None -/
theorem tE_is {neg : Bool} {σ : L2.St} {H : Hp} {Qf : VK} (h : tE X.K C (.cmp (if neg then .isnot else .is_) ea .non) σ H Qf) : tE X.K C ea σ H fun x H1 => Qf (.bl (if neg then !decide (x = .non) else decide (x = .non))) H1 := by
  obtain ⟨ρ, S, η, d, S', re, so, run, post⟩ := h
  simp only [runE] at run
  obtain ⟨⟨da, S1⟩, e1, e2⟩ := Option.bind_eq_some_iff.mp run
  simp only [Option.bind_some] at e2
  obtain ⟨k, e5, e6⟩ := Option.map_eq_some_iff.mp e2
  cases e6
  refine ⟨ρ, S, η, da, _, re, so, e1, fun x H1 ρ1 st rx so1 => ?_⟩
  have hk : (if neg then !decide (x = .non) else decide (x = .non)) = k := by
    cases neg <;> cases da <;> simp [cmpop] at e5 <;> subst e5 <;> simp only [RD] at rx
    all_goals first
      | (subst rx; simp)
      | (obtain ⟨_, p, vs, rfl, _⟩ := rx; simp)
      | (obtain ⟨p, rfl, _⟩ := rx; simp)
  show Qf (.bl (if neg then !decide (x = .non) else decide (x = .non))) H1
  rw [hk]
  exact (AfE.trans post st).now mk_bl so1
theorem i_isN {j pos'} (ha : PE X a (tE X.K C ea)) : PE X (.Compare a [.Is] [.Constant .none j pos'] pos) (tE X.K C (.cmp .is_ ea .non)) :=
  (pe_cmp (pc_isN ha) rfl).le fun _ _ _ q => tE_is (neg := false) q
theorem i_notN {j pos'} (ha : PE X a (tE X.K C ea)) : PE X (.Compare a [.IsNot] [.Constant .none j pos'] pos) (tE X.K C (.cmp .isnot ea .non)) :=
  (pe_cmp (pc_notN ha) rfl).le fun _ _ _ q => tE_is (neg := true) q
theorem t_isN {j pos'} (ha : PE X a (tE X.K C ea)) : PT X (.Compare a [.Is] [.Constant .none j pos'] pos) (tT X.K C (.cmp .is_ ea .non)) :=
  (pt_cmp (pc_isN ha) rfl).le fun _ _ _ q => tE_is (neg := false) (tT_E q)
theorem t_notN {j pos'} (ha : PE X a (tE X.K C ea)) : PT X (.Compare a [.IsNot] [.Constant .none j pos'] pos) (tT X.K C (.cmp .isnot ea .non)) :=
  (pt_cmp (pc_notN ha) rfl).le fun _ _ _ q => tE_is (neg := true) (tT_E q)
/-! ## chains -/
theorem tE_chain {op op' : Cp} {σ : L2.St} {H : Hp} {Qf : VK} (h : tE X.K C (.chain op op' ea eb ec) σ H Qf) : tChain (rC X.K op) (rC X.K op') (tE X.K C ea) (tE X.K C eb) (tE X.K C ec) σ H Qf := by
  obtain ⟨ρ, S, η, d, S', re, so, run, post⟩ := h
  simp only [runE] at run
  obtain ⟨⟨da, S1⟩, e1, e2⟩ := Option.bind_eq_some_iff.mp run
  obtain ⟨⟨db, S2⟩, e3, e4⟩ := Option.bind_eq_some_iff.mp e2
  obtain ⟨k, e5, e6⟩ := Option.bind_eq_some_iff.mp e4
  refine ⟨ρ, S, η, da, S1, re, so, e1, fun x H1 ρ1 st rx so1 => ⟨ρ1, S1, η, db, S2, re.mono st so.nt, so1, e3, fun y H2 ρ2 st2 ry so2 => ?_⟩⟩
  refine ⟨ρ2, S2, da, db, k, so2, RD.mono st2 so1.nt _ _ rx, ry, e5, k, rfl, ?_⟩
  cases k with
  | false =>
    rw [if_neg (by simp)] at e6 ⊢
    cases e6
    exact ((AfE.trans (AfE.trans post st) st2)).now mk_bl so2
  | true =>
    rw [if_pos rfl] at e6 ⊢
    obtain ⟨⟨dc, S3⟩, e7, e8⟩ := Option.bind_eq_some_iff.mp e6
    obtain ⟨k2, e9, e10⟩ := Option.map_eq_some_iff.mp e8
    cases e10
    refine ⟨ρ2, S2, η, dc, S3, (re.mono st so.nt).mono st2 so1.nt, so2, e7, fun z H3 ρ3 st3 rz so3 => ?_⟩
    exact ⟨ρ3, S3, db, dc, k2, so3, RD.mono st3 so2.nt _ _ ry, rz, e9, (AfE.trans (AfE.trans (AfE.trans post st) st2) st3).now mk_bl so3⟩
theorem i_chain {o o' : CmpOp} {op op' : Cp} (hu : X.A.units + 64 < cLine) (h : cpOf o = some op) (h' : cpOf o' = some op') (hm : lastMarks [o, o'] [b, c] = false) (ha : PE X a (tE X.K C ea)) (hb : PE X b (tE X.K C eb)) (hc : PE X c (tE X.K C ec)) :
    PE X (.Compare a [o, o'] [b, c] pos) (tE X.K C (.chain op op' ea eb ec)) := (pe_chain (c_any hu h) (c_any hu h') ha hb hc hm).le fun _ _ _ q => tE_chain q
theorem t_chain {o o' : CmpOp} {op op' : Cp} (hu : X.A.units + 64 < cLine) (h : cpOf o = some op) (h' : cpOf o' = some op') (hm : lastMarks [o, o'] [b, c] = false) (ha : PE X a (tE X.K C ea)) (hb : PE X b (tE X.K C eb)) (hc : PE X c (tE X.K C ec)) :
    PT X (.Compare a [o, o'] [b, c] pos) (tT X.K C (.chain op op' ea eb ec)) := (pt_chain (c_any hu h) (c_any hu h') ha hb hc hm).le fun _ _ _ q => tE_chain (tT_E q)
end
end Ol
set_option Elab.async false
set_option linter.all false
set_option maxRecDepth 100000
set_option maxHeartbeats 1000000
namespace Ol
open PySem PySem.Spec PyProof.Rows L2
section
variable {X : Cx} {C : Nat → List D → Sto → Option (D × Sto)} {a b c d : Expr} {ea eb ec ed : E} {pos : Pos}
/-! ## chains of three signs -/
theorem ite_ff' {A B : Prop} (h : B) : if false = true then A else B := by rw [if_neg (by simp)]; exact h
theorem i_chain3 {o o' o'' : CmpOp} {op op' op'' : Cp} (hu : X.A.units + 64 < cLine) (h : cpOf o = some op) (h' : cpOf o' = some op') (h'' : cpOf o'' = some op'') (hm : lastMarks [o, o', o''] [b, c, d] = false)
    (ha : PE X a (tE X.K C ea)) (hb : PE X b (tE X.K C eb)) (hc : PE X c (tE X.K C ec)) (hd : PE X d (tE X.K C ed)) : PE X (.Compare a [o, o', o''] [b, c, d] pos) (tE X.K C (.chain3 op op' op'' ea eb ec ed)) := by
  refine ⟨fun pins s σ H Qf I hh => ?_⟩
  obtain ⟨ρ, S, η, dd, S', re, so, run, post⟩ := hh
  simp only [runE] at run
  obtain ⟨⟨da, S1⟩, e1, e2⟩ := Option.bind_eq_some_iff.mp run
  obtain ⟨⟨db, S2⟩, e3, e4⟩ := Option.bind_eq_some_iff.mp e2
  obtain ⟨k, e5, e6⟩ := Option.bind_eq_some_iff.mp e4
  refine Compare_chain (thn (ha.run pins s σ H _ I ⟨ρ, S, η, da, S1, re, so, e1, fun x H1 ρ1 st rx so1 => show ∃ ρ1, Step ρ H ρ1 H1 ∧ RD X.K ρ1 H1 da x ∧ SOk X.K ρ1 H1 S1 from ⟨ρ1, st, rx, so1⟩⟩) fun v s1 ⟨x, H1, I1, rr1, ρ1, st, rx, so1⟩ => chain_link (thn (hb.run pins s1 σ H1 _ I1 ⟨ρ1, S1, η, db, S2, re.mono st so.nt, so1, e3, fun y H2 ρ2 st2 ry so2 => show ∃ ρ2, Step ρ1 H1 ρ2 H2 ∧ RD X.K ρ2 H2 db y ∧ SOk X.K ρ2 H2 S2 from ⟨ρ2, st2, ry, so2⟩⟩) fun u s2 ⟨y, H2, I2, rr2, ρ2, st2, ry, so2⟩ =>
    thn (c_any hu h pins s2 σ H2 x y v u (fun z H3 => z = .bl k ∧ H3 = H2) I2 rr1 rr2 ⟨ρ2, S2, da, db, k, so2, RD.mono st2 so1.nt _ _ rx, ry, e5, rfl, rfl⟩) fun z s3 ⟨zv, H3, I3, rr3, hz, hH⟩ => ?_)) hm
  subst hz hH
  cases rr3
  refine wpAny_truthy_bool ?_
  cases k with
  | false =>
    rw [if_neg (by simp)] at e6
    cases e6
    exact ite_ff ⟨.bl false, H3, I3, rfl, (AfE.trans (AfE.trans post st) st2).now mk_bl so2⟩
  | true =>
    rw [if_pos rfl] at e6
    obtain ⟨⟨dc, S3⟩, e7, e8⟩ := Option.bind_eq_some_iff.mp e6
    obtain ⟨k2, e9, e10⟩ := Option.bind_eq_some_iff.mp e8
    refine ite_tt (chain_link (thn (hc.run pins s3 σ H3 _ I3 ⟨ρ2, S2, η, dc, S3, (re.mono st so.nt).mono st2 so1.nt, so2, e7, fun y3 H4 ρ3 st3 ry3 so3 => show ∃ ρ3, Step ρ2 H3 ρ3 H4 ∧ RD X.K ρ3 H4 dc y3 ∧ SOk X.K ρ3 H4 S3 from ⟨ρ3, st3, ry3, so3⟩⟩) fun u3 s4 ⟨y3, H4, I4, rr4, ρ3, st3, ry3, so3⟩ =>
      thn (c_any hu h' pins s4 σ H4 y y3 u u3 (fun z H5 => z = .bl k2 ∧ H5 = H4) I4 rr2 rr4 ⟨ρ3, S3, db, dc, k2, so3, RD.mono st3 so2.nt _ _ ry, ry3, e9, rfl, rfl⟩) fun z s5 ⟨zv, H5, I5, rr5, hz, hH⟩ => ?_))
    subst hz hH
    cases rr5
    refine wpAny_truthy_bool ?_
    cases k2 with
    | false =>
      rw [if_neg (by simp)] at e10
      cases e10
      exact ite_ff ⟨.bl false, H5, I5, rfl, (AfE.trans (AfE.trans (AfE.trans post st) st2) st3).now mk_bl so3⟩
    | true =>
      rw [if_pos rfl] at e10
      obtain ⟨⟨d4, S4⟩, e11, e12⟩ := Option.bind_eq_some_iff.mp e10
      obtain ⟨k3, e13, e14⟩ := Option.map_eq_some_iff.mp e12
      cases e14
      exact ite_tt (chain_last (thn (hd.run pins s5 σ H5 _ I5 ⟨ρ3, S3, η, d4, S4, ((re.mono st so.nt).mono st2 so1.nt).mono st3 so2.nt, so3, e11, fun y4 H6 ρ4 st4 ry4 so4 => show ∃ ρ4, Step ρ3 H5 ρ4 H6 ∧ RD X.K ρ4 H6 d4 y4 ∧ SOk X.K ρ4 H6 S4 from ⟨ρ4, st4, ry4, so4⟩⟩) fun u4 s6 ⟨y4, H6, I6, rr6, ρ4, st4, ry4, so4⟩ =>
        c_any hu h'' pins s6 σ H6 y3 y4 u3 u4 Qf I6 rr4 rr6 ⟨ρ4, S4, dc, d4, k3, so4, RD.mono st4 so3.nt _ _ ry3, ry4, e13, (AfE.trans (AfE.trans (AfE.trans (AfE.trans post st) st2) st3) st4).now mk_bl so4⟩))
theorem t_chain3 {o o' o'' : CmpOp} {op op' op'' : Cp} (hu : X.A.units + 64 < cLine) (h : cpOf o = some op) (h' : cpOf o' = some op') (h'' : cpOf o'' = some op'') (hm : lastMarks [o, o', o''] [b, c, d] = false)
    (ha : PE X a (tE X.K C ea)) (hb : PE X b (tE X.K C eb)) (hc : PE X c (tE X.K C ec)) (hd : PE X d (tE X.K C ed)) : PT X (.Compare a [o, o', o''] [b, c, d] pos) (tT X.K C (.chain3 op op' op'' ea eb ec ed)) := by
  refine ⟨fun pins s σ H Qf I hh => ?_⟩
  obtain ⟨ρ, S, η, dd, S', re, so, run, post⟩ := hh
  simp only [runE] at run
  obtain ⟨⟨da, S1⟩, e1, e2⟩ := Option.bind_eq_some_iff.mp run
  obtain ⟨⟨db, S2⟩, e3, e4⟩ := Option.bind_eq_some_iff.mp e2
  obtain ⟨k, e5, e6⟩ := Option.bind_eq_some_iff.mp e4
  refine isTrue_chain (thn (ha.run pins s σ H _ I ⟨ρ, S, η, da, S1, re, so, e1, fun x H1 ρ1 st rx so1 => show ∃ ρ1, Step ρ H ρ1 H1 ∧ RD X.K ρ1 H1 da x ∧ SOk X.K ρ1 H1 S1 from ⟨ρ1, st, rx, so1⟩⟩) fun v s1 ⟨x, H1, I1, rr1, ρ1, st, rx, so1⟩ => test_link (thn (hb.run pins s1 σ H1 _ I1 ⟨ρ1, S1, η, db, S2, re.mono st so.nt, so1, e3, fun y H2 ρ2 st2 ry so2 => show ∃ ρ2, Step ρ1 H1 ρ2 H2 ∧ RD X.K ρ2 H2 db y ∧ SOk X.K ρ2 H2 S2 from ⟨ρ2, st2, ry, so2⟩⟩) fun u s2 ⟨y, H2, I2, rr2, ρ2, st2, ry, so2⟩ =>
    thn (c_any hu h pins s2 σ H2 x y v u (fun z H3 => z = .bl k ∧ H3 = H2) I2 rr1 rr2 ⟨ρ2, S2, da, db, k, so2, RD.mono st2 so1.nt _ _ rx, ry, e5, rfl, rfl⟩) fun z s3 ⟨zv, H3, I3, rr3, hz, hH⟩ => ?_)) hm
  subst hz hH
  cases rr3
  refine wpAny_truthy_bool ?_
  cases k with
  | false =>
    rw [if_neg (by simp)] at e6
    cases e6
    exact ite_ff ⟨H3, I3, post H3 ρ2 (st.trans st2) so2⟩
  | true =>
    rw [if_pos rfl] at e6
    obtain ⟨⟨dc, S3⟩, e7, e8⟩ := Option.bind_eq_some_iff.mp e6
    obtain ⟨k2, e9, e10⟩ := Option.bind_eq_some_iff.mp e8
    refine ite_tt (test_link (thn (hc.run pins s3 σ H3 _ I3 ⟨ρ2, S2, η, dc, S3, (re.mono st so.nt).mono st2 so1.nt, so2, e7, fun y3 H4 ρ3 st3 ry3 so3 => show ∃ ρ3, Step ρ2 H3 ρ3 H4 ∧ RD X.K ρ3 H4 dc y3 ∧ SOk X.K ρ3 H4 S3 from ⟨ρ3, st3, ry3, so3⟩⟩) fun u3 s4 ⟨y3, H4, I4, rr4, ρ3, st3, ry3, so3⟩ =>
      thn (c_any hu h' pins s4 σ H4 y y3 u u3 (fun z H5 => z = .bl k2 ∧ H5 = H4) I4 rr2 rr4 ⟨ρ3, S3, db, dc, k2, so3, RD.mono st3 so2.nt _ _ ry, ry3, e9, rfl, rfl⟩) fun z s5 ⟨zv, H5, I5, rr5, hz, hH⟩ => ?_))
    subst hz hH
    cases rr5
    refine wpAny_truthy_bool ?_
    cases k2 with
    | false =>
      rw [if_neg (by simp)] at e10
      cases e10
      exact ite_ff ⟨H5, I5, post H5 ρ3 ((st.trans st2).trans st3) so3⟩
    | true =>
      rw [if_pos rfl] at e10
      obtain ⟨⟨d4, S4⟩, e11, e12⟩ := Option.bind_eq_some_iff.mp e10
      obtain ⟨k3, e13, e14⟩ := Option.map_eq_some_iff.mp e12
      cases e14
      refine ite_tt (test_last (thn (hd.run pins s5 σ H5 _ I5 ⟨ρ3, S3, η, d4, S4, ((re.mono st so.nt).mono st2 so1.nt).mono st3 so2.nt, so3, e11, fun y4 H6 ρ4 st4 ry4 so4 => show ∃ ρ4, Step ρ3 H5 ρ4 H6 ∧ RD X.K ρ4 H6 d4 y4 ∧ SOk X.K ρ4 H6 S4 from ⟨ρ4, st4, ry4, so4⟩⟩) fun u4 s6 ⟨y4, H6, I6, rr6, ρ4, st4, ry4, so4⟩ =>
        thn (c_any hu h'' pins s6 σ H6 y3 y4 u3 u4 (fun z H7 => z = .bl dd ∧ H7 = H6) I6 rr4 rr6 ⟨ρ4, S4, dc, d4, dd, so4, RD.mono st4 so3.nt _ _ ry3, ry4, e13, rfl, rfl⟩) fun z s7 ⟨zv, H7, I7, rr7, hz, hH⟩ => ?_))
      subst hz hH
      cases rr7
      exact wpAny_truthy_bool ⟨H7, I7, post H7 ρ4 (((st.trans st2).trans st3).trans st4) so4⟩
/-! ## and, or, not, if -/
theorem tE_bl {e : E} {σ : L2.St} {H : Hp} {ρ : List Addr} {S : Sto} {η : En} {k : Bool} {S1 : Sto} {R : V → Hp → Prop} (re : RE X.K ρ H σ η) (so : SOk X.K ρ H S) (run : runE C e η S = some (.bl k, S1))
    (h : ∀ H1 ρ1, Step ρ H ρ1 H1 → SOk X.K ρ1 H1 S1 → R (.bl k) H1) : tE X.K C e σ H R :=
  ⟨ρ, S, η, _, S1, re, so, run, fun v H1 ρ1 st r so1 => by rw [rd_bl r]; exact h H1 ρ1 st so1⟩
variable {rest : List Expr}
theorem i_and (ha : PE X a (tE X.K C ea)) (hb : PE X (.BoolOp .And (b :: rest) pos) (tE X.K C eb)) : PE X (.BoolOp .And (a :: b :: rest) pos) (tE X.K C (.and ea eb)) :=
  (pe_and ha hb).le fun σ H Qf ⟨ρ, S, η, d, S', re, so, run, post⟩ => by
    simp only [runE] at run
    obtain ⟨⟨da, S1⟩, e1, e2⟩ := Option.bind_eq_some_iff.mp run
    cases da with
    | bl k =>
      refine tE_bl re so e1 fun H1 ρ1 st so1 => ⟨k, rfl, ?_⟩
      cases k with
      | true => rw [if_pos rfl]; exact ⟨ρ1, S1, η, d, S', re.mono st so.nt, so1, e2, AfE.trans post st⟩
      | false => rw [if_neg (by simp)]; cases e2; exact (AfE.trans post st).now mk_bl so1
    | _ => cases e2
theorem i_or (ha : PE X a (tE X.K C ea)) (hb : PE X (.BoolOp .Or (b :: rest) pos) (tE X.K C eb)) : PE X (.BoolOp .Or (a :: b :: rest) pos) (tE X.K C (.or ea eb)) :=
  (pe_or ha hb).le fun σ H Qf ⟨ρ, S, η, d, S', re, so, run, post⟩ => by
    simp only [runE] at run
    obtain ⟨⟨da, S1⟩, e1, e2⟩ := Option.bind_eq_some_iff.mp run
    cases da with
    | bl k =>
      refine tE_bl re so e1 fun H1 ρ1 st so1 => ⟨k, rfl, ?_⟩
      cases k with
      | false => rw [if_neg (by simp)]; exact ⟨ρ1, S1, η, d, S', re.mono st so.nt, so1, e2, AfE.trans post st⟩
      | true => rw [if_pos rfl]; cases e2; exact (AfE.trans post st).now mk_bl so1
    | _ => cases e2
theorem i_not (ha : PE X a (tE X.K C ea)) : PE X (.UnaryOp .Not a pos) (tE X.K C (.not ea)) :=
  (pe_not ha).le fun σ H Qf ⟨ρ, S, η, d, S', re, so, run, post⟩ => by
    simp only [runE] at run
    obtain ⟨⟨da, S1⟩, e1, e2⟩ := Option.bind_eq_some_iff.mp run
    cases da with
    | bl k =>
      cases e2
      exact tE_bl re so e1 fun H1 ρ1 st so1 => ⟨k, rfl, (AfE.trans post st).now mk_bl so1⟩
    | _ => cases e2
theorem w_and (ha : PT X a (tT X.K C ea)) (hb : PW X (.BoolOp .And (b :: rest) pos) (tT X.K C eb)) : PW X (.BoolOp .And (a :: b :: rest) pos) (tT X.K C (.and ea eb)) :=
  (pw_and ha hb).le fun σ H Qf ⟨ρ, S, η, d, S', re, so, run, post⟩ => by
    simp only [runE] at run
    obtain ⟨⟨da, S1⟩, e1, e2⟩ := Option.bind_eq_some_iff.mp run
    cases da with
    | bl k =>
      refine ⟨ρ, S, η, k, S1, re, so, e1, fun H1 ρ1 st so1 => ?_⟩
      cases k with
      | true => rw [if_pos rfl]; exact ⟨ρ1, S1, η, d, S', re.mono st so.nt, so1, e2, fun H2 ρ2 st2 so2 => post H2 ρ2 (st.trans st2) so2⟩
      | false => rw [if_neg (by simp)]; cases e2; exact post H1 ρ1 st so1
    | _ => cases e2
theorem w_or (ha : PT X a (tT X.K C ea)) (hb : PW X (.BoolOp .Or (b :: rest) pos) (tT X.K C eb)) : PW X (.BoolOp .Or (a :: b :: rest) pos) (tT X.K C (.or ea eb)) :=
  (pw_or ha hb).le fun σ H Qf ⟨ρ, S, η, d, S', re, so, run, post⟩ => by
    simp only [runE] at run
    obtain ⟨⟨da, S1⟩, e1, e2⟩ := Option.bind_eq_some_iff.mp run
    cases da with
    | bl k =>
      refine ⟨ρ, S, η, k, S1, re, so, e1, fun H1 ρ1 st so1 => ?_⟩
      cases k with
      | false => rw [if_neg (by simp)]; exact ⟨ρ1, S1, η, d, S', re.mono st so.nt, so1, e2, fun H2 ρ2 st2 so2 => post H2 ρ2 (st.trans st2) so2⟩
      | true => rw [if_pos rfl]; cases e2; exact post H1 ρ1 st so1
    | _ => cases e2
theorem t_not (ha : PT X a (tT X.K C ea)) : PT X (.UnaryOp .Not a pos) (tT X.K C (.not ea)) :=
  (pt_not ha).le fun σ H Qf ⟨ρ, S, η, d, S', re, so, run, post⟩ => by
    simp only [runE] at run
    obtain ⟨⟨da, S1⟩, e1, e2⟩ := Option.bind_eq_some_iff.mp run
    cases da with
    | bl k => cases e2; exact ⟨ρ, S, η, k, S1, re, so, e1, fun H1 ρ1 st so1 => post H1 ρ1 st so1⟩
    | _ => cases e2
theorem i_ite (hc : PT X c (tT X.K C ec)) (ha : PE X a (tE X.K C ea)) (hb : PE X b (tE X.K C eb)) : PE X (.IfExp c a b pos) (tE X.K C (.ite ec ea eb)) :=
  (pe_ifExp hc ha hb).le fun σ H Qf ⟨ρ, S, η, d, S', re, so, run, post⟩ => by
    simp only [runE] at run
    obtain ⟨⟨da, S1⟩, e1, e2⟩ := Option.bind_eq_some_iff.mp run
    cases da with
    | bl k =>
      refine ⟨ρ, S, η, k, S1, re, so, e1, fun H1 ρ1 st so1 => ?_⟩
      cases k with
      | true => rw [if_pos rfl]; exact ⟨ρ1, S1, η, d, S', re.mono st so.nt, so1, e2, AfE.trans post st⟩
      | false => rw [if_neg (by simp)]; exact ⟨ρ1, S1, η, d, S', re.mono st so.nt, so1, e2, AfE.trans post st⟩
    | _ => cases e2
/-! ## lists of expressions -/
def unstar : Expr → Bool
  | .Starred _ _ => false | _ => true
theorem star_cons {e : Expr} (h : unstar e = true) (es : List Expr) (env : Env) : starEach (e :: es) env = (false, eval e env) :: starEach es env := by
  cases e <;> first | rfl | (simp [unstar] at h)
theorem star_any : ∀ {es : List Expr} (h : es.all unstar = true) (env : Env) (pos : Pos), (backTo pos (starEach es env)).any (·.1) = false
  | [], _, _, _ => rfl
  | e :: es, h, env, pos => by
    rw [List.all_cons, Bool.and_eq_true] at h
    rw [star_cons h.1]
    have ih := star_any h.2 env pos
    unfold backTo at ih ⊢
    rw [List.map_cons, List.any_cons, ih]
    rfl
variable {es : List Expr} {ees : Es}
theorem a_nil : PA X [] (tEs X.K C .nil) := pa_nil.le fun σ H Qf ⟨ρ, S, η, ds, S', re, so, run, post⟩ => by
  simp only [runEs] at run
  cases run
  exact post [] H ρ (Step.refl _ _) .nil so
theorem a_cons (hs : unstar a = true) (ha : PE X a (tE X.K C ea)) (hr : PA X es (tEs X.K C ees)) : PA X (a :: es) (tEs X.K C (.cons ea ees)) :=
  (pa_cons ha hr (star_cons hs es X.env)).le fun σ H Qf ⟨ρ, S, η, ds, S', re, so, run, post⟩ => by
    simp only [runEs] at run
    obtain ⟨⟨da, S1⟩, e1, e2⟩ := Option.bind_eq_some_iff.mp run
    obtain ⟨⟨dr, S2⟩, e3, e4⟩ := Option.bind_eq_some_iff.mp e2
    cases e4
    refine ⟨ρ, S, η, da, S1, re, so, e1, fun x H1 ρ1 st rx so1 => ⟨ρ1, S1, η, dr, S2, re.mono st so.nt, so1, e3, fun xs H2 ρ2 st2 rxs so2 => ?_⟩⟩
    exact post (x :: xs) H2 ρ2 (st.trans st2) (.cons (RD.mono st2 so1.nt _ _ rx) rxs) so2
theorem i_tup {k : Nat} (h : PA X es (tEs X.K C ees)) : PE X (.Tuple es k pos) (tE X.K C (.tup ees)) := by
  refine ⟨fun pins s σ H Qf I ⟨ρ, S, η, d, S', re, so, run, post⟩ => ?_⟩
  simp only [runE] at run
  obtain ⟨⟨ds, S1⟩, e1, e2⟩ := Option.bind_eq_some_iff.mp run
  split at e2
  · rename_i hz
    cases e2
    refine wpAny_Tuple_spliced (thn (h.run pos pins s σ H (fun vs H1 => vs.length ≤ sizeLine ∧ NewT H1 vs Qf) I ⟨ρ, S, η, ds, S1, re, so, e1, fun xs H1 ρ1 st rxs so1 => ⟨by rw [← rxs.length]; exact hz, (AfE.trans post st).newT rxs hz so1⟩⟩) fun us s1 ⟨xs, H1, I1, r, z, q⟩ => ⟨by rw [← r.length]; exact z, ?_⟩)
    exact q.ep I1 r z s1.toks
  · cases e2
/-! ## calls of the text's defs -/
/-- what the def number f promises -/
def spC (K : PySem.W.Frag) (C : Nat → List D → Sto → Option (D × Sto)) (f : Nat) : Sp := fun vs H Q _ => ∃ ρ S ds d S', SOk K ρ H S ∧ RDs K ρ H ds vs ∧ C f ds S = some (d, S') ∧ AfE K ρ H d S' Q
theorem Step.cut {ρ ρ' : List Addr} {H H' : Hp} (s : Step ρ H ρ' H') : Step ρ H (ρ'.take ρ.length) H' where
  pre := by
    obtain ⟨t, rfl⟩ := s.pre
    simp
  new := fun a m n => s.new a (List.mem_of_mem_take m) n
  keep := s.keep
mutual
theorem RD.pure0 {K : PySem.W.Frag} {ρ ρ' : List Addr} {H : Hp} : ∀ (d : D) (v : V), d.pure = true → RD K ρ H d v → RD K ρ' H d v
  | .non, _, _, h => by simpa [RD] using h
  | .bl _, _, _, h => by simpa [RD] using h
  | .int _, _, _, h => by simpa [RD] using h
  | .str _, _, _, h => by simpa [RD] using h
  | .tup ds, v, b, h => by
    simp only [RD] at h ⊢
    obtain ⟨z, a, vs, e, h1, h2⟩ := h
    exact ⟨z, a, vs, e, h1, RDs.pure0 ds vs (by simpa [D.pure] using b) h2⟩
  | .frl ds, v, b, h => by
    simp only [RD] at h ⊢
    obtain ⟨z, a, vs, e, h1, h2⟩ := h
    exact ⟨z, a, vs, e, h1, RDs.pure0 ds vs (by simpa [D.pure] using b) h2⟩
  | .ref k, v, b, h => by simp [D.pure] at b
theorem RDs.pure0 {K : PySem.W.Frag} {ρ ρ' : List Addr} {H : Hp} : ∀ (ds : List D) (vs : List V), pures ds = true → RDs K ρ H ds vs → RDs K ρ' H ds vs
  | [], _, _, h => by simpa [RDs] using h
  | d :: ds, vs, b, h => by
    simp only [RDs] at h ⊢
    obtain ⟨v, r, e, h1, h2⟩ := h
    have b' : d.pure = true ∧ pures ds = true := by simpa [pures] using b
    exact ⟨v, r, e, RD.pure0 d v b'.1 h1, RDs.pure0 ds r b'.2 h2⟩
end
theorem footS_ok {S : Sto} : ∀ {rs : List Nat} {F : Sto}, footS S rs = some F → F.length = rs.length ∧ ∀ (j : Nat) (n : Nat), rs[j]? = some n → ∃ xs, S[n]? = some (.lst xs) ∧ pures xs = true ∧ F[j]? = some (.lst xs)
  | [], F, h => by
    simp only [footS, Option.some.injEq] at h
    subst h
    exact ⟨rfl, fun j n e => by simp at e⟩
  | n :: ns, F, h => by
    simp only [footS] at h
    cases q : S[n]? with
    | none => rw [q] at h; cases h
    | some o =>
      cases o with
      | lst xs =>
        rw [q] at h
        simp only at h
        split at h
        · rename_i hp
          obtain ⟨F', h1, h2⟩ := Option.map_eq_some_iff.mp h
          subst h2
          obtain ⟨l, g⟩ := footS_ok h1
          refine ⟨by simp [l], fun j m e => ?_⟩
          cases j with
          | zero => simp at e; subst e; exact ⟨xs, q, hp, by simp⟩
          | succ j =>
            obtain ⟨ys, e1, e2, e3⟩ := g j m (by simpa using e)
            exact ⟨ys, e1, e2, by simpa using e3⟩
        · cases h
theorem putS_ok : ∀ {rs : List Nat} {S T S2 : Sto}, rs.Nodup → putS S rs T = some S2 → S2.length = S.length ∧ (∀ k, k ∉ rs → S2[k]? = S[k]?) ∧ ∀ (j k : Nat), rs[j]? = some k → k < S.length → ∃ ys, T[j]? = some (.lst ys) ∧ pures ys = true ∧ S2[k]? = some (.lst ys)
  | [], S, T, S2, _, h => by
    simp only [putS, Option.some.injEq] at h
    subst h
    exact ⟨rfl, fun _ _ => rfl, fun j k e => by simp at e⟩
  | n :: ns, S, [], S2, _, h => by simp [putS] at h
  | n :: ns, S, .lst ys :: T, S2, nd, h => by
    rw [List.nodup_cons] at nd
    simp only [putS] at h
    split at h
    · rename_i hp
      obtain ⟨l, g1, g2⟩ := putS_ok nd.2 h
      have hl : (setN S n ys).length = S.length := by simp [setN]
      refine ⟨l.trans hl, fun k hk => ?_, fun j k e hk => ?_⟩
      · rw [List.mem_cons, not_or] at hk
        rw [g1 k hk.2]
        unfold setN
        rw [List.getElem?_set_ne (Ne.symm hk.1)]
      · cases j with
        | zero =>
          simp at e
          subst e
          refine ⟨ys, by simp, hp, ?_⟩
          rw [g1 n nd.1]
          unfold setN
          rw [List.getElem?_set_self hk]
        | succ j =>
          obtain ⟨zs, e1, e2, e3⟩ := g2 j k (by simpa using e) (by rw [hl]; exact hk)
          exact ⟨zs, by simpa using e1, e2, e3⟩
    · cases h
theorem ren_rds {K : PySem.W.Frag} {ρ as : List Addr} {H : Hp} (rs : List Nat) (ha : ∀ (n : Nat) (a : Addr), n ∈ rs → ρ[n]? = some a → as[rs.idxOf n]? = some a) : ∀ {ds : List D} {vs : List V}, flatA ds = true → (∀ n ∈ refs1 ds, n ∈ rs) → RDs K ρ H ds vs → RDs K as H (ds.map (ren rs)) vs
  | [], vs, _, _, h => by simpa [RDs] using h
  | d :: ds, vs, hf, hm, h => by
    simp only [List.map_cons, RDs] at h ⊢
    obtain ⟨v, r, e, h1, h2⟩ := h
    cases d with
    | ref n =>
      simp only [flatA] at hf
      simp only [refs1] at hm
      refine ⟨v, r, e, ?_, ren_rds rs ha hf (fun m hm2 => hm m (List.mem_cons_of_mem _ hm2)) h2⟩
      simp only [RD, ren] at h1 ⊢
      obtain ⟨a, e1, e2⟩ := h1
      exact ⟨a, e1, ha n a (hm n List.mem_cons_self) e2⟩
    | _ =>
      simp only [flatA, Bool.and_eq_true] at hf
      simp only [refs1] at hm
      exact ⟨v, r, e, RD.pure0 _ v hf.1 h1, ren_rds rs ha hf.2 hm h2⟩
theorem callF_ok {K : PySem.W.Frag} {C : Nat → List D → Sto → Option (D × Sto)} {f : Nat} {ds : List D} {vs : List V} {d : D} {ρ : List Addr} {H : Hp} {S S' : Sto} {Q : VK} (so : SOk K ρ H S) (rv : RDs K ρ H ds vs) (e : callF C f ds S = some (d, S')) (post : AfE K ρ H d S' Q) : spC K C f vs H Q E0 := by
  unfold callF at e
  split at e
  · rename_i hc
    rw [Bool.and_eq_true, decide_eq_true_eq] at hc
    obtain ⟨hf, nd⟩ := hc
    generalize hrs : refs1 ds = rs at e nd
    obtain ⟨F, e1, e2⟩ := Option.bind_eq_some_iff.mp e
    obtain ⟨⟨r, R1⟩, e3, e4⟩ := Option.bind_eq_some_iff.mp e2
    obtain ⟨S2, e5, e6⟩ := Option.bind_eq_some_iff.mp e4
    obtain ⟨fl, fx⟩ := footS_ok e1
    let as : List Addr := rs.map fun n => (ρ[n]?).getD 0
    have has : ∀ (j n : Nat), rs[j]? = some n → ∃ a, as[j]? = some a ∧ ρ[n]? = some a := fun j n hj => by
      obtain ⟨xs, q1, _, _⟩ := fx j n hj
      obtain ⟨a, us, q2, _⟩ := so.lst n xs q1
      refine ⟨a, ?_, q2⟩
      show (rs.map _)[j]? = _
      rw [List.getElem?_map, hj, Option.map_some, q2]; rfl
    have hmem : ∀ a ∈ as, ∃ (j n : Nat), rs[j]? = some n ∧ as[j]? = some a ∧ ρ[n]? = some a := fun a ha => by
      obtain ⟨j, hj⟩ := List.mem_iff_getElem?.mp ha
      have hj2 : (rs.map fun n => (ρ[n]?).getD 0)[j]? = some a := hj
      rw [List.getElem?_map] at hj2
      cases q : rs[j]? with
      | none => rw [q] at hj2; cases hj2
      | some n =>
        obtain ⟨b, b1, b2⟩ := has j n q
        rw [hj] at b1; cases b1
        exact ⟨j, n, q, hj, b2⟩
    have asρ : ∀ a ∈ as, a ∈ ρ := fun a ha => by
      obtain ⟨j, n, _, _, h3⟩ := hmem a ha
      exact List.mem_of_getElem? h3
    have uniq : ∀ {i k : Nat} {a : Addr}, ρ[i]? = some a → ρ[k]? = some a → i = k := fun {i k a} h1 h2 => by
      obtain ⟨i1, z1⟩ := List.getElem?_eq_some_iff.mp h1
      obtain ⟨i2, z2⟩ := List.getElem?_eq_some_iff.mp h2
      exact (List.getElem_inj so.nd).mp (z1.trans z2.symm)
    have ndas : as.Nodup := by
      refine List.pairwise_iff_getElem.mpr fun i j hi hj hij he => ?_
      have he : as[i]? = as[j]? := by rw [List.getElem?_eq_getElem hi, List.getElem?_eq_getElem hj, he]
      have hj' : j < rs.length := by simpa [as] using hj
      obtain ⟨a, a1, a2⟩ := has i (rs[i]'(by omega)) (List.getElem?_eq_getElem (by omega))
      obtain ⟨b, b1, b2⟩ := has j (rs[j]'hj') (List.getElem?_eq_getElem hj')
      rw [a1, b1] at he
      cases he
      have := uniq a2 b2
      have := (List.getElem_inj nd).mp this
      omega
    have soF : SOk K as H F := ⟨by rw [fl]; simp [as], ndas, fun n xs q => by
        have hn : n < rs.length := by rw [← fl]; exact (List.getElem?_eq_some_iff.mp q).1
        obtain ⟨ys, q1, _, q3⟩ := fx n rs[n] (List.getElem?_eq_getElem hn)
        rw [q] at q3; cases q3
        exact so.fit _ _ q1, fun n xs q => by
        have hn : n < rs.length := by rw [← fl]; exact (List.getElem?_eq_some_iff.mp q).1
        obtain ⟨ys, q1, q2, q3⟩ := fx n rs[n] (List.getElem?_eq_getElem hn)
        rw [q] at q3; cases q3
        obtain ⟨a, us, q4, q5, q6⟩ := so.lst _ _ q1
        obtain ⟨b, b1, b2⟩ := has n rs[n] (List.getElem?_eq_getElem hn)
        rw [q4] at b2; cases b2
        exact ⟨a, us, b1, q5, RDs.pure0 _ _ q2 q6⟩⟩
    have rvF : RDs K as H (ds.map (ren rs)) vs := ren_rds rs (fun n a hn ha => by
      have hi : rs[rs.idxOf n]? = some n := by
        have hlt := List.idxOf_lt_length_iff.mpr hn
        rw [List.getElem?_eq_getElem hlt, List.getElem_idxOf]
      obtain ⟨b, b1, b2⟩ := has _ n hi
      rw [ha] at b2; cases b2
      exact b1) hf (fun n hn => by rw [← hrs]; exact hn) rv
    refine ⟨as, F, ds.map (ren rs), r, R1, soF, rvF, e3, fun v H2 ρ2 st rr so2 => ?_⟩
    have kt : ∀ a us, TupAt H a us → TupAt H2 a us := fun a us ht => st.tupAt soF.nt ht
    have kl : ∀ a us, RL K H a us → RL K H2 a us := fun a us ht => st.rl soF.nt ht
    obtain ⟨pl, p1, p2⟩ := putS_ok nd e5
    have so3 : SOk K ρ H2 S2 := ⟨by rw [so.len, pl], so.nd, fun n xs q => by
        by_cases hn : n ∈ rs
        · obtain ⟨j, hj⟩ := List.mem_iff_getElem?.mp hn
          obtain ⟨ws, q1, _, _⟩ := fx j n hj
          obtain ⟨ys, q2, q3, q4⟩ := p2 j n hj (List.getElem?_eq_some_iff.mp q1).1
          rw [q] at q4; cases q4
          exact so2.fit j _ q2
        · rw [p1 n hn] at q
          exact so.fit n xs q, fun n xs q => by
        by_cases hn : n ∈ rs
        · obtain ⟨j, hj⟩ := List.mem_iff_getElem?.mp hn
          obtain ⟨ws, q1, _, _⟩ := fx j n hj
          obtain ⟨ys, q2, q3, q4⟩ := p2 j n hj (List.getElem?_eq_some_iff.mp q1).1
          rw [q] at q4; cases q4
          obtain ⟨a, us, z1, z2, z3⟩ := so2.lst j _ q2
          obtain ⟨b, b1, b2⟩ := has j n hj
          rw [pre_get st.pre b1] at z1
          cases z1
          exact ⟨_, us, b2, z2, RDs.pure0 _ _ q3 z3⟩
        · rw [p1 n hn] at q
          obtain ⟨a, us, z1, z2, z3⟩ := so.lst n xs q
          refine ⟨a, us, z1, st.keep a _ z2 fun ha => ?_, RDs.gen List.prefix_rfl kt kl _ _ z3⟩
          obtain ⟨j, m, m1, m2, m3⟩ := hmem a ha
          have := uniq z1 m3
          subst this
          exact hn (List.mem_of_getElem? m1)⟩
    have st3 : Step ρ H ρ H2 := ⟨List.prefix_rfl, fun a m n => absurd m n, fun a o ho na => st.keep a o ho fun m => na (asρ a m)⟩
    unfold backR at e6
    split at e6
    · rename_i hp
      cases e6
      exact post v H2 ρ st3 (RD.pure0 _ _ hp rr) so3
    · cases r with
      | ref m =>
        simp only at e6
        split at e6
        · rename_i hm
          cases q : R1[m]? with
          | none => rw [q] at e6; cases e6
          | some o =>
            cases o with
            | lst xs =>
              rw [q] at e6
              simp only at e6
              split at e6
              · rename_i hx
                cases e6
                obtain ⟨a, us, rfl, a1, a2, a3⟩ := so2.at rr q
                have na : a ∉ as := fun ha => by
                  obtain ⟨j, n, j1, j2, _⟩ := hmem a ha
                  have j3 := pre_get st.pre j2
                  obtain ⟨i1, z1⟩ := List.getElem?_eq_some_iff.mp a1
                  obtain ⟨i2, z2⟩ := List.getElem?_eq_some_iff.mp j3
                  have := (List.getElem_inj so2.nd).mp (z1.trans z2.symm)
                  have := (List.getElem?_eq_some_iff.mp j1).1
                  omega
                have hn : H a = none := st.new a (List.mem_of_getElem? a1) na
                have nr : a ∉ ρ := fun m => by
                  obtain ⟨us, z⟩ := so.nt a m
                  rw [z] at hn; cases hn
                have so4 := so3.push a2 (RDs.pure0 (ρ' := ρ) _ _ hx a3) nr (so2.fit m _ q)
                have st4 : Step ρ H (ρ ++ [a]) H2 := ⟨List.prefix_append _ _, fun y m n => by
                  rcases List.mem_append.mp m with m | m
                  · exact absurd m n
                  · rw [List.mem_singleton.mp m]; exact hn, st3.keep⟩
                refine post _ H2 _ st4 ?_ so4
                simp only [RD]
                exact ⟨a, rfl, by rw [List.getElem?_append_right (by rw [so3.len]; exact Nat.le_refl _)]; simp [so3.len]⟩
              · cases e6
        · cases e6
      | _ => cases e6
  · cases e
theorem spC_call {f : Nat} {σ : L2.St} {H : Hp} {Qf : VK} (h : tE X.K C (.call f ees) σ H Qf) : tCall (spC X.K C f) [] E0 (tEs X.K C ees) σ H Qf := by
  obtain ⟨ρ, S, η, d, S', re, so, run, post⟩ := h
  simp only [runE] at run
  obtain ⟨⟨ds, S1⟩, e1, e2⟩ := Option.bind_eq_some_iff.mp run
  refine ⟨ρ, S, η, ds, S1, re, so, e1, fun vs H1 ρ1 st rvs so1 => ?_⟩
  simp only [callM] at e2
  cases q : callF C f ds S1 with
  | some r =>
    rw [q] at e2
    rw [Option.some_or] at e2
    cases e2
    exact callF_ok so1 (by simpa using rvs) q (AfE.trans post st)
  | none =>
  rw [q, Option.none_or] at e2
  obtain ⟨⟨r, S2⟩, e3, e4⟩ := Option.bind_eq_some_iff.mp e2
  have e5 : gc S.length r S2 = (d, S') := by simpa using e4
  refine ⟨ρ1, S1, ds, r, S2, so1, by simpa using rvs, e3, fun v H2 ρ2 st2 rv so2 => ?_⟩
  unfold gc at e5
  split at e5
  · rename_i hb
    rw [Bool.and_eq_true] at hb
    cases e5
    have st3 := (st.trans st2).cut
    rw [so.len] at st3
    exact post v H2 _ st3 (RD.cut _ _ _ hb.1 rv) (so2.cut _ hb.2)
  · cases e5
    exact post v H2 ρ2 (st.trans st2) rv so2
/-- a def of the text is at hand -/
structure Def (X : Cx) (C : Nat → List D → Sto → Option (D × Sto)) (x : Str) (f : Nat) : Prop where
  ex : ∃ (k : Nat) (fa : Addr) (fd : FuncData) (ps : List Str), Room k X.A ∧ X.mg x = some (.ref fa) ∧ PySem.W.keepIn X.K (.ref fa) = true ∧ Binds X.K fd ps [] ∧ FnOk X.prog X.w X.K X.mg X.base CX0 k fa fd ps (spC X.K C f)
theorem i_call {x : Str} {p : Pos} {f : Nat} {e : Expr} (hg : Gl X x) (hd : Def X C x f) (ha : PA X (e :: es) (tEs X.K C ees)) (hs : (e :: es).all unstar = true) (hdb : (x == ("__debug__" : Str)) = false) : PE X (.Call (.Name x p) (e :: es) [] pos) (tE X.K C (.call f ees)) := by
  obtain ⟨k, fa, fd, ps, hr, hm, hk, hb, F⟩ := hd.ex
  rw [List.all_cons, Bool.and_eq_true] at hs
  exact (pe_call (E := E0) F hr hg hm hk hb .nil pass0 ha hdb (star_cons hs.1 es X.env) (star_any hs.2 X.env pos)).le fun _ _ _ q => spC_call q
theorem i_call0 {x : Str} {p : Pos} {f : Nat} (hg : Gl X x) (hd : Def X C x f) (hdb : (x == ("__debug__" : Str)) = false) : PE X (.Call (.Name x p) [] [] pos) (tE X.K C (.call f .nil)) := by
  obtain ⟨k, fa, fd, ps, hr, hm, hk, hb, F⟩ := hd.ex
  refine (pe_call0 (E := E0) F hr hg hm hk hb .nil pass0 hdb).le fun σ H Qf q => ?_
  obtain ⟨ρ2, S2, η2, ds2, S3, re2, so2, run2, post2⟩ := spC_call q
  simp only [runEs] at run2
  cases run2
  exact post2 [] H ρ2 (Step.refl _ _) .nil so2
end
end Ol
set_option Elab.async false
set_option linter.all false
set_option maxRecDepth 100000
set_option maxHeartbeats 1000000
namespace Ol
open PySem PySem.Spec PyProof.Rows L2
theorem _root_.L2.PE.or {X : Cx} {e : Expr} {t t' : TE} (h : PE X e t) (h' : PE X e t') : PE X e (fun σ H Q => t σ H Q ∨ t' σ H Q) := ⟨fun pins s σ H Q I w => w.elim (h.run pins s σ H Q I) (h'.run pins s σ H Q I)⟩
theorem _root_.L2.CallR.or' {X : Cx} {f : Value} {r r' : List V → Hp → VK → Prop} (h : CallR X f r) (h' : CallR X f r') : CallR X f (fun x H Q => r x H Q ∨ r' x H Q) := fun pins s σ H x v Q I rx q => q.elim (h pins s σ H x v Q I rx) (h' pins s σ H x v Q I rx)
/-! ## slices of tuples -/
theorem pickR (xs : Array Value) : ∀ m, m ≤ xs.size → ((List.range m).filterMap fun (k : Nat) => xs[((xs.size : Int) - 1 + (k : Int) * -1).toNat]?) = xs.toList.reverse.take m
  | 0, _ => by simp
  | m + 1, h => by
    rw [List.range_succ, List.filterMap_append, pickR xs m (by omega), List.take_add_one]
    congr 1
    have e : ((xs.size : Int) - 1 + (m : Int) * -1).toNat = xs.size - 1 - m := by omega
    have e2 : xs.toList.reverse[m]? = xs[xs.size - 1 - m]? := by
      rw [List.getElem?_reverse (by simp; omega)]
      simp
    simp only [List.filterMap_cons, e, e2]
    cases xs[xs.size - 1 - m]? <;> rfl
section
variable {prog : Program} {w : World} {A : Around} {E : Value → Shared → Prop} {s : Shared}
/-- t[::-1] (hi none) and t[:0:-1] (hi 0) -/
theorem getItem_tuple_back {t sl : Addr} {items : Array Value} {vl vu vs : Value} {hi : Option Int} {Q : Value → Shared → Prop} (ht : IsTup s.heap t items) (hs : s.heap.IsSliceOf sl vl vu vs) (pl : IsPart vl none) (pu : IsPart vu hi) (ps : IsPart vs (some (-1)))
    (hh : hi = none ∨ hi = some 0) (h : Q (.ref s.heap.objs.size) { s with heap := s.heap.push (tupO (items.toList.reverse.take (if hi = none then items.size else items.size - 1))) })
    (hsz : items.size ≤ sizeLine) : wpAny (model prog w) A (getItem (.ref t) (.ref sl)) Q E s := by
  obtain ⟨os, hos, hcs, hds⟩ := id hs
  have hTs : s.TypeIs (.ref sl) "slice" := ⟨os, hos, hcs⟩
  have hm : (if hi = none then items.size else items.size - 1) ≤ items.size := by split <;> omega
  have hsize : sizeOk (.seq (items.toList.reverse.take (if hi = none then items.size else items.size - 1)).toArray) := by
    show (items.toList.reverse.take (if hi = none then items.size else items.size - 1)).toArray.size ≤ sizeLine
    rw [List.size_toArray, List.length_take]
    omega
  have applied : ∀ {A : Around} {E : Value → Shared → Prop} {Q2 : Int × Int × Nat → Shared → Prop}, Q2 ((items.size : Int) - 1, -1, if hi = none then items.size else items.size - 1) s → wpAny (model prog w) A (Builtin.Slice.sliceApplied (.ref sl) (pure (items.size : Int))) Q2 E s := by
    intro A E Q2 hq
    unfold Builtin.Slice.sliceApplied Builtin.Slice.sliceFields
    refine wpAny_bind (wpAny_bind (wpAny_field hos hds (x := vl) rfl (wpAny_bind (wpAny_field hos hds (x := vu) rfl (wpAny_bind (wpAny_field hos hds (x := vs) rfl (wpAny_pure ?_)))))))
    refine wpAny_bind (HT.slicePart_ ps ?_)
    show wpAny _ _ (if ((-1 : Int) == 0) = true then _ else _) _ _ s
    rw [if_neg (by decide)]
    refine wpAny_bind (HT.slicePart_ pl (wpAny_bind (HT.slicePart_ pu (wpAny_bind (wpAny_pure ?_)))))
    have e1 : Builtin.Slice.sliceAdjust none hi (-1) (items.size : Int) = ((items.size : Int) - 1, if hi = none then -1 else min 0 ((items.size : Int) - 1)) := by
      unfold Builtin.Slice.sliceAdjust
      rcases hh with rfl | rfl <;> simp
    have e2 : Builtin.Slice.slicePlaces ((items.size : Int) - 1) (if hi = none then -1 else min 0 ((items.size : Int) - 1)) (-1) = (if hi = none then items.size else items.size - 1) := by
      unfold Builtin.Slice.slicePlaces
      rw [if_neg (by decide)]
      simp only [show (- -1 : Int) = 1 by decide, Int.ediv_one]
      rcases hh with rfl | rfl
      · simp only [if_true]
        split <;> omega
      · have hn : ¬ (some (0 : Int) = none) := by simp
        rw [if_neg hn, if_neg hn]
        split <;> omega
    show wpAny _ _ (match Builtin.Slice.sliceAdjust none hi (-1) (items.size : Int) with | (lo, hi) => pure (lo, (-1 : Int), Builtin.Slice.slicePlaces lo hi (-1))) _ _ s
    rw [e1]
    show wpAny _ _ (pure ((items.size : Int) - 1, (-1 : Int), Builtin.Slice.slicePlaces ((items.size : Int) - 1) (if hi = none then -1 else min 0 ((items.size : Int) - 1)) (-1))) _ _ s
    rw [e2]
    exact wpAny_pure hq
  unfold getItem
  try with_reducible refine wpAny_holding ?_
  first | refine wpAny_bind (wpAny_pure ?_) | skip
  refine wpAny_bind (wpAny_sequenceKey ht.typeIs (by decide) ?_)
  refine wpAny_bind (wpAny_callSpecial?_slot (name := Str.ofString "__getitem__") ht.typeIs PyProof.Rows.slot_tuple_getitem
    (wpAny_call_entry PyProof.Rows.slot_tuple_getitem ht.typeIs PyProof.Rows.entry_tuple_getitem ?_ (PyProof.Rows.args_tuple_getitem _ _)))
  show wpAny _ _ (Builtin.Tuple.tupleItemsOf (.ref t) >>= _) _ _ s
  refine wpAny_bind (tupleItemsOf_ ht ?_)
  refine wpAny_bind (wpAny_typeOf hTs ?_)
  rw [if_pos (by decide)]
  refine wpAny_bind (applied ?_)
  show wpAny _ _ (if (((items.size : Int) - 1) == 0 && (-1 : Int) == 1 && (if hi = none then items.size else items.size - 1) == items.size) = true then _ else _) _ _ s
  rw [if_neg (by rw [show ((-1 : Int) == 1) = false by decide]; simp), pickR items _ hm]
  first
    | exact wpAny_bind (m := Builtin.Tuple.tupleExact _) (wpAny_newObj_type (wpAny_pure ⟨_, rfl, wpAny_pure h⟩) hsize)
    | exact wpAny_bind (m := Builtin.Tuple.tupleExact _) (wpAny_newObj_type (wpAny_bind (wpAny_pure (wpAny_pure ⟨_, rfl, wpAny_pure h⟩))) hsize)
    | exact wpAny_bind (wpAny_bind (m := Builtin.Tuple.tupleExact _) (wpAny_newObj_type (wpAny_pure (wpAny_pure ⟨_, rfl, wpAny_pure h⟩)) hsize))
    | exact wpAny_bind (wpAny_bind (m := Builtin.Tuple.tupleExact _) (wpAny_newObj_type (wpAny_pure ⟨_, rfl, wpAny_pure h⟩) hsize))
end
section
variable {X : Cx} {C : Nat → List D → Sto → Option (D × Sto)} {a b c d : Expr} {ea eb ec ed : E} {pos : Pos}
def rSlN (K : PySem.W.Frag) : V → Option Int → Option Int → Hp → VK → Prop := fun x lo hi H Q => ∃ a xs, x = .ref a ∧ SqT K H a xs ∧
  (HT.sIx xs.length 0 lo = 0 ∧ HT.sIx xs.length xs.length hi = xs.length → Q (.ref a) H) ∧ (¬ (HT.sIx xs.length 0 lo = 0 ∧ HT.sIx xs.length xs.length hi = xs.length) → NewT H (cutV xs lo hi) Q)
theorem sl_tupN : SlR X (rSlN X.K) := by
  intro pins s σ H x v vl vu lo hi sl Q I rx hs pl pu h
  obtain ⟨a, xs, rfl, hx, q1, q2⟩ := h
  cases rx
  obtain ⟨its, r, ht, hz⟩ := I.tuple hx
  have hl : its.toArray.size = xs.length := by rw [List.size_toArray]; exact r.length.symm
  refine ⟨"tuple", _, PyProof.Rows.slot_tuple_getitem.lookup, ht.typeIs, ?_⟩
  by_cases hw : HT.sIx xs.length 0 lo = 0 ∧ HT.sIx xs.length xs.length hi = xs.length
  · exact getItem_tuple_whole ht hs pl pu (by rw [hl]; exact hw) ⟨.ref a, H, I, rfl, q1 hw⟩
  · refine HT.getItem_tuple_cut ht hs pl pu (by rw [hl]; exact hw) ?_ (by rw [hl]; exact hz)
    rw [hl]
    exact (q2 hw).ep I ((r.drop (HT.sIx xs.length 0 lo)).take (HT.sIx xs.length xs.length hi - HT.sIx xs.length 0 lo)) (Nat.le_trans (cutV_length xs lo hi) hz) s.toks
theorem o_no : PO X none (tOe X.K C .no) := ⟨fun pins s σ H Q I ⟨ρ, S, η, o, S', re, so, run, post⟩ => by
  simp only [runOe] at run
  cases run
  exact po_none.run pins s σ H Q I (post H ρ (Step.refl _ _) so)⟩
theorem o_yes (h : PE X a (tE X.K C ea)) : PO X (some a) (tOe X.K C (.yes ea)) := ⟨fun pins s σ H Q I ⟨ρ, S, η, o, S', re, so, run, post⟩ => by
  simp only [runOe] at run
  obtain ⟨⟨da, S1⟩, e1, e2⟩ := Option.bind_eq_some_iff.mp run
  cases da with
  | int i =>
    cases e2
    exact (po_some h).run pins s σ H Q I ⟨ρ, S, η, _, S1, re, so, e1, fun v H' ρ' st r so' => ⟨i, rd_int r, post H' ρ' st so'⟩⟩
  | _ => cases e2⟩
theorem cut_rds {K : PySem.W.Frag} {ρ : List Addr} {H : Hp} {ds : List D} {vs : List V} (r : RDs K ρ H ds vs) (lo hi : Option Int) : RDs K ρ H (cutD ds lo hi) (cutV vs lo hi) := by
  unfold cutD cutV
  rw [r.length]
  exact (r.drop _).take _
theorem cut_few {ds : List D} {lo hi : Option Int} (h : ds.length ≤ sizeLine) : (cutD ds lo hi).length ≤ sizeLine := by
  unfold cutD
  rw [List.length_take, List.length_drop]
  omega
theorem cut_all {ds : List D} {lo hi : Option Int} (h : HT.sIx ds.length 0 lo = 0 ∧ HT.sIx ds.length ds.length hi = ds.length) : cutD ds lo hi = ds := by
  unfold cutD
  rw [h.1, h.2]
  simp
theorem i_cut {lo hi : Option Expr} {olo ohi : Oe} {p2 : Pos} (ha : PE X a (tE X.K C ea)) (hl : PO X lo (tOe X.K C olo)) (hh : PO X hi (tOe X.K C ohi)) : PE X (.Subscript a (.Slice lo hi none p2) pos) (tE X.K C (.cut ea olo ohi)) :=
  (pe_slice sl_tupN ha hl hh).le fun σ H Qf ⟨ρ, S, η, d, S', re, so, run, post⟩ => by
    simp only [runE] at run
    obtain ⟨⟨da, S1⟩, e1, e2⟩ := Option.bind_eq_some_iff.mp run
    obtain ⟨⟨l, S2⟩, e3, e4⟩ := Option.bind_eq_some_iff.mp e2
    obtain ⟨⟨h, S3⟩, e5, e6⟩ := Option.bind_eq_some_iff.mp e4
    cases da with
    | tup ds =>
      cases e6
      refine ⟨ρ, S, η, _, S1, re, so, e1, fun x H1 ρ1 st rx so1 => ⟨ρ1, S1, η, l, S2, re.mono st so.nt, so1, e3, fun H2 ρ2 st2 so2 => ⟨ρ2, S2, η, h, S3, (re.mono st so.nt).mono st2 so1.nt, so2, e5, fun H3 ρ3 st3 so3 => ?_⟩⟩⟩
      have hz := rd_few rx
      obtain ⟨p, vs, rfl, h1, h2⟩ := rd_tup (RD.mono st3 so2.nt _ _ (RD.mono st2 so1.nt _ _ rx))
      have po := AfE.trans (AfE.trans (AfE.trans post st) st2) st3
      refine ⟨p, vs, rfl, h1.sq, fun hw => ?_, fun _ => po.newT (cut_rds h2 l h) (cut_few hz) so3⟩
      rw [← h2.length] at hw
      exact po.now (mk_tup h1 (by rw [cut_all hw]; exact h2) (cut_few hz)) so3
    | _ => cases e6
/-- t[::-1], t[:0:-1] -/
theorem i_back {n : E} {hi : Option Expr} {ohi : Oe} {k : Nat} {p1 p2 p3 : Pos} (ha : PE X a (tE X.K C ea)) (hh : PO X hi (tOe X.K C ohi))
    (hr : ∀ η S r, runE C n η S = some r → ∃ ds S1 u S2, runE C ea η S = some (.tup ds, S1) ∧ runOe C ohi η S1 = some (u, S2) ∧ (u = none ∨ u = some 0) ∧ r = (.tup (ds.reverse.take (if u = none then ds.length else ds.length - 1)), S2)) :
    PE X (.Subscript a (.Slice none hi (some (.UnaryOp .USub (.Constant (.int 1) k p1) p2)) p3) pos) (tE X.K C n) := by
  refine ⟨fun pins s σ H Qf I ⟨ρ, S, η, d, S', re, so, run, post⟩ => ?_⟩
  obtain ⟨ds, S1, u, S2, e1, e2, hu, e3⟩ := hr η S _ run
  cases e3
  refine Subscript_ (thn (ha.run pins s σ H _ I ⟨ρ, S, η, _, S1, re, so, e1, fun x H1 ρ1 st rx so1 => show ∃ ρ1, Step ρ H ρ1 H1 ∧ RD X.K ρ1 H1 (.tup ds) x ∧ SOk X.K ρ1 H1 S1 from ⟨ρ1, st, rx, so1⟩⟩) fun v s1 ⟨x, H1, I1, r1, ρ1, st, rx, so1⟩ => ?_)
  have hst : PO X (some (.UnaryOp .USub (.Constant (.int 1) k p1) p2)) (tPart (tUn (rU fun i => .int (-i)) (tC (.int 1)))) := po_some (pe_un un_neg pe_int)
  refine wpAny_Slice (thn (po_none.run pins s1 σ H1 (fun o H2 => o = none ∧ H2 = H1) I1 ⟨rfl, rfl⟩) fun vl s2 ⟨l, H2, I2, pl, el, e2'⟩ => ?_)
  subst el e2'
  refine thn (hh.run pins s2 σ H2 (fun o H3 => o = u ∧ ∃ ρ3, Step ρ1 H2 ρ3 H3 ∧ SOk X.K ρ3 H3 S') I2 ⟨ρ1, S1, η, u, S', re.mono st so.nt, so1, e2, fun H3 ρ3 st3 so3 => ⟨rfl, ρ3, st3, so3⟩⟩) fun vu s3 ⟨u', H3, I3, pu, eu, ρ3, st3, so3⟩ => ?_
  subst eu
  refine thn (hst.run pins s3 σ H3 (fun o H4 => o = some (-1) ∧ H4 = H3) I3 ⟨1, rfl, -1, rfl, rfl, rfl⟩) fun vs s4 ⟨o, H4, I4, ps, eo, e4⟩ => ?_
  subst eo e4
  have I5 : Inv X pins σ H4 { s4 with heap := s4.heap.push { cls := .type "slice", data := .fields #[vl, vu, vs] } } := I4.kept (t' := s4.toks) fun b ob q => Heap.get?_push_of_some _ q
  obtain ⟨p, ws, rfl, h1, h2⟩ := rd_tup (RD.mono st3 so1.nt _ _ rx)
  cases r1
  obtain ⟨its, r, ht, hz⟩ := I5.tuple h1.sq
  have hlen : its.toArray.size = ds.length := by rw [List.size_toArray, ← r.length, h2.length]
  show wpAny (model X.prog X.w) X.A (subscriptTail a (.Slice none hi (some (.UnaryOp .USub (.Constant (.int 1) k p1) p2)) p3) (.ref p) (.ref s4.heap.objs.size)) (EP X pins σ Qf) X.xe { s4 with heap := s4.heap.push { cls := .type "slice", data := .fields #[vl, vu, vs] } }
  refine tail_any (ops := [.ref p, .ref s4.heap.objs.size]) ht.typeIs PyProof.Rows.slot_tuple_getitem.lookup ?_ (by with_unfolding_all rfl)
  refine getItem_tuple_back ht (Heap.IsSliceOf.new _ vl vu vs) pl pu ps hu ?_ (by rw [hlen, h2.length]; exact hz)
  rw [hlen]
  refine ((AfE.trans (AfE.trans post st) st3).newT (vs := ws.reverse.take (if u' = none then ds.length else ds.length - 1)) (h2.reverse.take _) (by have := rd_few rx; rw [List.length_take, List.length_reverse]; omega) so3).ep I5 (r.reverse.take _) ?_ _
  rw [List.length_take, List.length_reverse]
  omega
theorem i_rev {k : Nat} {p1 p2 p3 : Pos} (ha : PE X a (tE X.K C ea)) : PE X (.Subscript a (.Slice none none (some (.UnaryOp .USub (.Constant (.int 1) k p1) p2)) p3) pos) (tE X.K C (.rev ea)) :=
  i_back ha o_no fun η S r h => by
    simp only [runE] at h
    obtain ⟨⟨da, S1⟩, e1, e2⟩ := Option.bind_eq_some_iff.mp h
    cases da with
    | tup ds =>
      cases e2
      exact ⟨ds, S1, none, S1, e1, by simp [runOe], .inl rfl, by rw [if_pos rfl, List.take_of_length_le (by simp)]⟩
    | _ => cases e2
theorem i_revTo {k : Nat} {p1 p2 p3 : Pos} (ha : PE X a (tE X.K C ea)) (hb : PE X b (tE X.K C eb)) : PE X (.Subscript a (.Slice none (some b) (some (.UnaryOp .USub (.Constant (.int 1) k p1) p2)) p3) pos) (tE X.K C (.revTo ea eb)) :=
  i_back ha (o_yes hb) fun η S r h => by
    simp only [runE] at h
    obtain ⟨⟨da, S1⟩, e1, e2⟩ := Option.bind_eq_some_iff.mp h
    obtain ⟨⟨db, S2⟩, e3, e4⟩ := Option.bind_eq_some_iff.mp e2
    cases da with
    | tup ds =>
      cases db with
      | int i =>
        simp only at e4
        split at e4
        · rename_i hi
          subst hi
          cases e4
          refine ⟨ds, S1, some 0, S2, e1, by simp [runOe, e3], .inr rfl, ?_⟩
          rw [if_neg (by simp)]
          congr 2
          rw [List.reverse_drop]
        · cases e4
      | _ => cases e4
    | _ => cases e4
end
end Ol
set_option Elab.async false
set_option linter.all false
set_option maxRecDepth 100000
set_option maxHeartbeats 1000000
namespace Ol
open PySem PySem.Spec PyProof.Rows L2
section
variable {X : Cx} {C : Nat → List D → Sto → Option (D × Sto)} {a b c d : Expr} {ea eb ec ed : E} {qa qb : Q} {pos p : Pos}
/-! ## items -/
theorem _root_.L2.IxR.le {r r' : R2} (h : IxR X r) (m : ∀ x y H Q, r' x y H Q → r x y H Q) : IxR X r' := fun vl sl pins s σ H x y v u Q I rx ry q hs => h vl sl pins s σ H x y v u Q I rx ry (m _ _ _ _ q) hs
theorem at_rds {K : PySem.W.Frag} {ρ : List Addr} {H : Hp} {ds : List D} {vs : List V} {i : Int} {e : D} (r : RDs K ρ H ds vs) (h : atI ds i = some e) : ∃ v, atI vs i = some v ∧ RD K ρ H e v := by
  unfold atI at h ⊢
  rw [← r.length]
  obtain ⟨j, e1, e2⟩ := Option.bind_eq_some_iff.mp h
  obtain ⟨v, e3, e4⟩ := r.get e2
  exact ⟨v, by rw [e1]; exact e3, e4⟩
theorem x_any : IxR X (r2 X.K fun a b S => (idxD S a b).map fun d => (d, S)) := by
  intro vl sl pins s σ H x y v u Qf I rx ry ⟨ρ, S, da, db, dd, S', so, ra, rb, run, post⟩ hs
  obtain ⟨e, e1, e2⟩ := Option.map_eq_some_iff.mp run
  cases e2
  cases db with
  | int i =>
    have hy := rd_int rb
    subst hy
    cases da with
    | tup ds =>
      obtain ⟨q, vs, rfl, h1, h2⟩ := rd_tup ra
      obtain ⟨z, e3, e4⟩ := at_rds h2 (show atI ds i = some dd from e1)
      exact ix_tup vl sl pins s σ H _ _ v u Qf I rx ry ⟨q, vs, i, z, rfl, rfl, h1.sq, e3, post.now e4 so⟩ hs
    | frl ds =>
      simp only [RD] at ra
      obtain ⟨_, q, vs, rfl, h1, h2⟩ := ra
      obtain ⟨z, e3, e4⟩ := at_rds h2 (show atI ds i = some dd from e1)
      exact ix_list vl sl pins s σ H _ _ v u Qf I rx ry ⟨q, vs, i, z, rfl, rfl, h1.sq, e3, post.now e4 so⟩ hs
    | ref n =>
      simp only [idxD] at e1
      cases q : S[n]? with
      | none => rw [q] at e1; cases e1
      | some o =>
        cases o with
        | lst ds =>
          rw [q] at e1
          obtain ⟨p, vs, rfl, _, h1, h2⟩ := so.at ra q
          obtain ⟨z, e3, e4⟩ := at_rds h2 (show atI ds i = some dd from e1)
          exact ix_list vl sl pins s σ H _ _ v u Qf I rx ry ⟨p, vs, i, z, rfl, rfl, SqL.of h1, e3, post.now e4 so⟩ hs
    | _ => simp [idxD] at e1
  | _ => cases da <;> simp [idxD] at e1
theorem i_idx (ha : PE X a (tE X.K C ea)) (hb : PE X b (tE X.K C eb)) (hs : PlainIx b) : PE X (.Subscript a b pos) (tE X.K C (.idx ea eb)) :=
  (pe_ix x_any ha hb hs).le fun _ _ _ q => tE2 (fun η S => by simp only [runE]) q
/-! ## sequences -/
theorem q_of (ha : PE X a (tE X.K C ea)) : PE X a (tQ X.K C (.ofE ea)) := ha.le fun σ H Qf ⟨ρ, S, η, x, S', re, so, run, post⟩ => by
  simp only [runQ] at run
  obtain ⟨⟨da, S1⟩, e1, e2⟩ := Option.bind_eq_some_iff.mp run
  cases e2
  exact ⟨ρ, S, η, da, S1, re, so, e1, fun v H' ρ' st r so' => post v H' ρ' st r so'⟩
/-- a call of one sequence -/
def rq (K : PySem.W.Frag) (g : Qv → Sto → Option (D × Sto)) : List V → Hp → VK → Prop := fun vs H Qf => ∃ v ρ S x d S' H0, vs = [v] ∧ SOk K ρ H S ∧ QP K ρ H0 H x v ∧ g x S = some (d, S') ∧ AfE K ρ H d S' Qf
theorem tQ1 {n : E} {g : Qv → Sto → Option (D × Sto)} (hr : ∀ η S, runE C n η S = (runQ C qa η S).bind fun x => g x.1 x.2) {σ : L2.St} {H : Hp} {Qf : VK} (h : tE X.K C n σ H Qf) : tCB (rq X.K g) (tCons (tQ X.K C qa) tNil) σ H Qf := by
  obtain ⟨ρ, S, η, d, S', re, so, run, post⟩ := h
  rw [hr] at run
  obtain ⟨⟨x, S1⟩, e1, e2⟩ := Option.bind_eq_some_iff.mp run
  exact ⟨ρ, S, η, x, S1, re, so, e1, fun v H1 ρ1 st r so1 => ⟨v, ρ1, S1, x, d, S', H, rfl, so1, r, e2, AfE.trans post st⟩⟩
/-- its items as a list or a tuple -/
theorem rq_items {K : PySem.W.Frag} {f : List D → Sto → Option (D × Sto)} {vs : List V} {H : Hp} {Qf : VK} (h : rq K (fun x S => (items S x).bind fun ds => f ds S) vs H Qf) :
    ∃ p us ρ S ds d S', vs = [.ref p] ∧ (SqL K H p us ∨ SqT K H p us) ∧ SOk K ρ H S ∧ RDs K ρ H ds us ∧ f ds S = some (d, S') ∧ AfE K ρ H d S' Qf := by
  obtain ⟨v, ρ, S, x, d, S', H0, rfl, so, q, run, post⟩ := h
  obtain ⟨ds, e1, e2⟩ := Option.bind_eq_some_iff.mp run
  obtain ⟨p, us, rfl, h1, h2⟩ := q.read so e1
  exact ⟨p, us, ρ, S, ds, d, S', rfl, h1, so, h2, e2, post⟩
theorem k_len : CallR X (.builtin "len") (rq X.K fun x S => (items S x).bind fun ds => some (.int ds.length, S)) := by
  intro pins s σ H xs us Qf I r h
  obtain ⟨p, vs, ρ, S, ds, d, S', rfl, h1, so, h2, e, post⟩ := rq_items h
  cases e
  refine call_len pins s σ H _ us Qf I r ⟨.ref p, vs.length, rfl, ?_, ?_⟩
  · rcases h1 with h1 | h1
    · exact .inl ⟨vs, h1, rfl⟩
    · exact .inr ⟨vs, h1, rfl⟩
  · rw [← h2.length]
    exact post.now mk_int so
theorem sumT : CallR X (.builtin "sum") (fun vs H Q => X.calm = true ∧ ∃ (a : Addr) (ns : List Int), vs = [V.ref a] ∧ SqT X.K H a (ns.map V.int) ∧ Q (.int ns.sum) H) := by
  intro pins s σ H vs us Q I r ⟨hc, a, ns, e, hs, q⟩
  subst e
  obtain ⟨its, rv, hl, _⟩ := I.tuple hs
  rw [Vals.ref1 r]
  obtain ⟨xs, e⟩ := rv.ints.allInts.items
  have hn : numsOf (intItems xs).toList = ns := by rw [← e]; exact rv.ints.numsOf
  rw [nums_intItems] at hn
  rw [e] at hl
  refine PySem.W.ktm_sumG (I.ok.hd hc) hl fun h' tk t' hk => ?_
  rw [preSum_eq, List.take_of_length_le (by simp), hn]
  exact ⟨.int ns.sum, H, I.kept hk, ⟨_, rfl⟩, q⟩
theorem k_sum (hc : X.calm = true) : CallR X (.builtin "sum") (rq X.K fun x S => (items S x).bind fun ds => (toInts ds).map fun ns => (.int ns.sum, S)) := by
  intro pins s σ H xs us Qf I r h
  obtain ⟨p, vs, ρ, S, ds, d, S', rfl, h1, so, h2, e, post⟩ := rq_items h
  obtain ⟨ns, e1, e2⟩ := Option.map_eq_some_iff.mp e
  cases e2
  have hv := h2.ints e1
  subst hv
  rcases h1 with h1 | h1
  · exact cr_sum hc pins s σ H _ us Qf I r ⟨p, ns, rfl, h1, post.now mk_int so⟩
  · exact sumT pins s σ H _ us Qf I r ⟨hc, p, ns, rfl, h1, post.now mk_int so⟩
theorem rq_lists {K : PySem.W.Frag} {f : List D → Sto → Option (D × Sto)} {vs : List V} {H : Hp} {Qf : VK} (h : rq K (lists f) vs H Qf) :
    ∃ p us ρ S ds d S', vs = [.ref p] ∧ SqL K H p us ∧ SOk K ρ H S ∧ RDs K ρ H ds us ∧ f ds S = some (d, S') ∧ AfE K ρ H d S' Qf := by
  obtain ⟨v, ρ, S, x, d, S', H0, rfl, so, q, run, post⟩ := h
  cases x with
  | new es =>
    obtain ⟨ds, e1, e2⟩ := Option.bind_eq_some_iff.mp (show (items S (.new es)).bind (fun ds => f ds S) = some (d, S') from run)
    cases e1
    obtain ⟨_, p, us, rfl, h1, h2, _⟩ := q
    exact ⟨p, us, ρ, S, es, d, S', rfl, SqL.of h1, so, h2, e2, post⟩
  | val dd =>
    cases dd with
    | tup es => cases run
    | frl es =>
      obtain ⟨ds, e1, e2⟩ := Option.bind_eq_some_iff.mp (show (items S (.val (.frl es))).bind (fun ds => f ds S) = some (d, S') from run)
      cases e1
      simp only [QP, RD] at q
      obtain ⟨_, p, us, rfl, h1, h2⟩ := q
      exact ⟨p, us, ρ, S, es, d, S', rfl, h1.sq, so, h2, e2, post⟩
    | ref n =>
      obtain ⟨ds, e1, e2⟩ := Option.bind_eq_some_iff.mp (show (items S (.val (.ref n))).bind (fun ds => f ds S) = some (d, S') from run)
      simp only [items] at e1
      cases z : S[n]? with
      | none => rw [z] at e1; cases e1
      | some o =>
        cases o with
        | lst es =>
          rw [z] at e1
          cases e1
          obtain ⟨p, us, rfl, _, h1, h2⟩ := so.at q z
          exact ⟨p, us, ρ, S, ds, d, S', rfl, SqL.of h1, so, h2, e2, post⟩
    | _ => simp [lists, items] at run
theorem k_all (hc : X.calm = true) : CallR X (.builtin "all") (rq X.K (lists fun ds S => (toBls ds).map fun bs => (.bl (bs.all id), S))) := by
  intro pins s σ H xs us Qf I r h
  obtain ⟨p, vs, ρ, S, ds, d, S', rfl, h1, so, h2, e, post⟩ := rq_lists h
  obtain ⟨bs, e1, e2⟩ := Option.map_eq_some_iff.mp e
  cases e2
  have hv := h2.bls e1
  subst hv
  exact cr_all hc pins s σ H _ us Qf I r ⟨p, bs, rfl, h1, post.now mk_bl so⟩
theorem k_any (hc : X.calm = true) : CallR X (.builtin "any") (rq X.K (lists fun ds S => (toBls ds).map fun bs => (.bl (bs.any id), S))) := by
  intro pins s σ H xs us Qf I r h
  obtain ⟨p, vs, ρ, S, ds, d, S', rfl, h1, so, h2, e, post⟩ := rq_lists h
  obtain ⟨bs, e1, e2⟩ := Option.map_eq_some_iff.mp e
  cases e2
  have hv := h2.bls e1
  subst hv
  exact cr_any hc pins s σ H _ us Qf I r ⟨p, bs, rfl, h1, post.now mk_bl so⟩
theorem maxI_mem : ∀ {ns : List Int}, ns ≠ [] → maxI ns ∈ ns ∧ ∀ y ∈ ns, y ≤ maxI ns
  | [], h => absurd rfl h
  | [x], _ => by simp [maxI]
  | x :: y :: r, _ => by
    have ih := maxI_mem (ns := y :: r) (by simp)
    simp only [maxI]
    split
    · rename_i h
      exact ⟨List.mem_cons_self, fun z hz => by
        rcases List.mem_cons.mp hz with rfl | hz
        · exact Int.le_refl _
        · have := ih.2 z hz; omega⟩
    · rename_i h
      exact ⟨List.mem_cons_of_mem _ ih.1, fun z hz => by
        rcases List.mem_cons.mp hz with rfl | hz
        · omega
        · exact ih.2 z hz⟩
theorem minI_mem : ∀ {ns : List Int}, ns ≠ [] → minI ns ∈ ns ∧ ∀ y ∈ ns, minI ns ≤ y
  | [], h => absurd rfl h
  | [x], _ => by simp [minI]
  | x :: y :: r, _ => by
    have ih := minI_mem (ns := y :: r) (by simp)
    simp only [minI]
    split
    · rename_i h
      exact ⟨List.mem_cons_self, fun z hz => by
        rcases List.mem_cons.mp hz with rfl | hz
        · exact Int.le_refl _
        · have := ih.2 z hz; omega⟩
    · rename_i h
      exact ⟨List.mem_cons_of_mem _ ih.1, fun z hz => by
        rcases List.mem_cons.mp hz with rfl | hz
        · omega
        · exact ih.2 z hz⟩
theorem k_max (hc : X.calm = true) : CallR X (.builtin "max") (rq X.K (lists fun ds S => (toInts ds).bind fun ns => if ns = [] then none else some (.int (maxI ns), S))) := by
  intro pins s σ H xs us Qf I r h
  obtain ⟨p, vs, ρ, S, ds, d, S', rfl, h1, so, h2, e, post⟩ := rq_lists h
  obtain ⟨ns, e1, e2⟩ := Option.bind_eq_some_iff.mp e
  split at e2
  · cases e2
  · rename_i hn
    cases e2
    have hv := h2.ints e1
    subst hv
    refine cr_max hc pins s σ H _ us Qf I r ⟨p, ns, rfl, h1, List.length_pos_iff.mpr hn, fun m hm hy => ?_⟩
    have e : m = maxI ns := Int.le_antisymm ((maxI_mem hn).2 m hm) (hy _ (maxI_mem hn).1)
    rw [e]
    exact post.now mk_int so
theorem k_min (hc : X.calm = true) : CallR X (.builtin "min") (rq X.K (lists fun ds S => (toInts ds).bind fun ns => if ns = [] then none else some (.int (minI ns), S))) := by
  intro pins s σ H xs us Qf I r h
  obtain ⟨p, vs, ρ, S, ds, d, S', rfl, h1, so, h2, e, post⟩ := rq_lists h
  obtain ⟨ns, e1, e2⟩ := Option.bind_eq_some_iff.mp e
  split at e2
  · cases e2
  · rename_i hn
    cases e2
    have hv := h2.ints e1
    subst hv
    refine cr_min hc pins s σ H _ us Qf I r ⟨p, ns, rfl, h1, List.length_pos_iff.mpr hn, fun m hm hy => ?_⟩
    have e : m = minI ns := Int.le_antisymm (hy _ (minI_mem hn).1) ((minI_mem hn).2 m hm)
    rw [e]
    exact post.now mk_int so
theorem k_tuple : CallR X (.type "tuple") (rq X.K fun x S => (items S x).bind fun ds => some (.tup ds, S)) := by
  intro pins s σ H xs us Qf I r ⟨v, ρ, S, x, d, S', H0, e, so, q, run, post⟩
  subst e
  obtain ⟨u, rfl, rx⟩ := vals1 r
  obtain ⟨ds, e1, e2⟩ := Option.bind_eq_some_iff.mp run
  cases e2
  obtain ⟨p, vs, rfl, h1, h2⟩ := q.read so e1
  have few := q.few so e1
  cases rx
  have same : ∀ es, x = .val (.tup es) → wpAny (model X.prog X.w) X.A (call (.type "tuple") [.ref p]) (EP X pins σ Qf) X.xe s := by
    intro es hx
    subst hx
    cases e1
    obtain ⟨p', vs', e3, h3, h4⟩ := rd_tup q
    cases e3
    obtain ⟨its, r', pl, hz⟩ := I.tuple (h3.sq (K := X.K))
    exact call_tuple_same pl ⟨.ref p, H, I, rfl, post.now (mk_tup h3 h4 few) so⟩
  have other : SqL X.K H p vs → wpAny (model X.prog X.w) X.A (call (.type "tuple") [.ref p]) (EP X pins σ Qf) X.xe s := by
    intro hq
    obtain ⟨its, r', pl, hz⟩ := I.list hq
    have hlen := r'.length
    refine call_tuple_list pl.isList (fun h' kp => ?_) (by simp only [List.size_toArray] <;> omega)
    have I1 : Inv X pins σ H { s with heap := h' } := I.kept (t' := s.toks) kp
    exact (post.newT h2 few so).ep I1 r' hz s.toks
  rcases h1 with h1 | h1
  · exact other h1
  · cases x with
    | new es =>
      obtain ⟨_, p', vs', e3, h3, h4, _⟩ := q
      cases e3
      cases e1
      obtain ⟨its, r', pl, hz⟩ := I.list (SqL.of (K := X.K) h3)
      have hlen := r'.length
      refine call_tuple_list pl.isList (fun h' kp => ?_) (by simp only [List.size_toArray] <;> omega)
      have I1 : Inv X pins σ H { s with heap := h' } := I.kept (t' := s.toks) kp
      exact (post.newT h4 few so).ep I1 r' hz s.toks
    | val dd =>
      cases dd with
      | tup es => exact same es rfl
      | frl es =>
        simp only [QP, RD] at q
        obtain ⟨_, p', vs', e3, h3, h4⟩ := q
        cases e3
        cases e1
        obtain ⟨its, r', pl, hz⟩ := I.list h3.sq
        have hlen := r'.length
        refine call_tuple_list pl.isList (fun h' kp => ?_) (by simp only [List.size_toArray] <;> omega)
        have I1 : Inv X pins σ H { s with heap := h' } := I.kept (t' := s.toks) kp
        exact (post.newT h4 few so).ep I1 r' hz s.toks
      | ref n =>
        simp only [items] at e1
        cases z : S[n]? with
        | none => rw [z] at e1; cases e1
        | some o =>
          cases o with
          | lst es =>
            rw [z] at e1
            cases e1
            obtain ⟨p', us, e3, _, h3, h4⟩ := so.at q z
            cases e3
            obtain ⟨its, r', pl, hz⟩ := I.list (SqL.of (K := X.K) h3)
            have hlen := r'.length
            refine call_tuple_list pl.isList (fun h' kp => ?_) (by simp only [List.size_toArray] <;> omega)
            have I1 : Inv X pins σ H { s with heap := h' } := I.kept (t' := s.toks) kp
            exact (post.newT h4 few so).ep I1 r' hz s.toks
      | _ => cases e1
/-! ## the calls as expressions -/
theorem one_star (hs : unstar a = true) : starEach [a] X.env = (false, eval a X.env) :: starEach [] X.env := star_cons hs [] X.env
theorem pa_1 {t : TE} (hs : unstar a = true) (h : PE X a t) : PA X [a] (tCons t tNil) := pa_cons h pa_nil (one_star hs)
theorem callB {id : String} {x : Str} {n : E} {g : Qv → Sto → Option (D × Sto)} (hc : CallR X (.builtin id) (rq X.K g)) (hr : ∀ η S, runE C n η S = (runQ C qa η S).bind fun x => g x.1 x.2) (hg : Gl X x) (hm : X.mg x = none)
    (hv : bootBuiltins x = some (.builtin id)) (hn : x ≠ "__name__") (hd : (x == ("__debug__" : Str)) = false) (hs : unstar a = true) (ha : PE X a (tQ X.K C qa)) : PE X (.Call (.Name x p) [a] [] pos) (tE X.K C n) :=
  (pe_callB hc hg hm hv (pa_1 hs ha) hn hd (one_star hs) rfl).le fun _ _ _ q => tQ1 hr q
theorem callT {id : String} {x : Str} {n : E} {g : Qv → Sto → Option (D × Sto)} (hc : CallR X (.type id) (rq X.K g)) (hr : ∀ η S, runE C n η S = (runQ C qa η S).bind fun x => g x.1 x.2) (hg : Gl X x) (hm : X.mg x = none)
    (hv : bootBuiltins x = some (.type id)) (hn : x ≠ "__name__") (hd : (x == ("__debug__" : Str)) = false) (hs : unstar a = true) (ha : PE X a (tQ X.K C qa)) : PE X (.Call (.Name x p) [a] [] pos) (tE X.K C n) :=
  (pe_callTy hc hg hm hv (pa_1 hs ha) hn hd (one_star hs) rfl).le fun _ _ _ q => tQ1 hr q
end
end Ol
set_option Elab.async false
set_option linter.all false
set_option maxRecDepth 100000
set_option maxHeartbeats 1000000
namespace Ol
open PySem PySem.Spec PyProof.Rows L2
section
variable {X : Cx} {C : Nat → List D → Sto → Option (D × Sto)} {a b c d : Expr} {ea eb ec ed : E} {qa qb : Q} {pos p : Pos}
/-! ## a list of one's own -/
theorem i_alloc (ha : PE X a (tQ X.K C qa)) : PE X a (tE X.K C (.alloc qa)) := ha.le fun σ H Qf ⟨ρ, S, η, d, S', re, so, run, post⟩ => by
  simp only [runE] at run
  obtain ⟨⟨x, S1⟩, e1, e2⟩ := Option.bind_eq_some_iff.mp run
  cases x with
  | val _ => cases e2
  | new ds =>
    cases e2
    refine ⟨ρ, S, η, _, S1, re, so, e1, fun v H1 ρ1 st r so1 => ?_⟩
    obtain ⟨z, q, vs, rfl, h1, h2, h3, h4⟩ := r
    refine post _ H1 (ρ1 ++ [q]) ⟨st.pre.trans (List.prefix_append _ _), fun y m n => ?_, st.keep⟩ ?_ (so1.push h1 h2 h3 z)
    · rcases List.mem_append.mp m with m | m
      · exact st.new y m n
      · rw [List.mem_singleton.mp m]; exact h4
    · simp only [RD]
      exact ⟨q, rfl, by rw [List.getElem?_append_right (by rw [so1.len]; exact Nat.le_refl _)]; simp [so1.len]⟩
/-! ## calls of values -/
def rv1 (K : PySem.W.Frag) (g : G1) : List V → Hp → VK → Prop := fun vs H Qf => ∃ v, vs = [v] ∧ r1 K g v H Qf
def rv2 (K : PySem.W.Frag) (g : G2) : List V → Hp → VK → Prop := fun vs H Qf => ∃ v u, vs = [v, u] ∧ r2 K g v u H Qf
theorem tV1 {n : E} {g : G1} (hr : ∀ η S, runE C n η S = (runE C ea η S).bind fun x => g x.1 x.2) {σ : L2.St} {H : Hp} {Qf : VK} (h : tE X.K C n σ H Qf) : tCB (rv1 X.K g) (tCons (tE X.K C ea) tNil) σ H Qf := by
  obtain ⟨ρ, S, η, d, S', re, so, run, post⟩ := tE1 hr h
  exact ⟨ρ, S, η, d, S', re, so, run, fun v H1 ρ1 st r so1 => ⟨v, rfl, post v H1 ρ1 st r so1⟩⟩
theorem tV2 {n : E} {g : G2} (hr : ∀ η S, runE C n η S = (runE C ea η S).bind fun x => (runE C eb η x.2).bind fun y => g x.1 y.1 y.2) {σ : L2.St} {H : Hp} {Qf : VK} (h : tE X.K C n σ H Qf) : tCB (rv2 X.K g) (tCons (tE X.K C ea) (tCons (tE X.K C eb) tNil)) σ H Qf := by
  obtain ⟨ρ, S, η, d, S', re, so, run, post⟩ := tE2 hr h
  refine ⟨ρ, S, η, d, S', re, so, run, fun v H1 ρ1 st r so1 => ?_⟩
  obtain ⟨ρ2, S2, η2, d2, S3, re2, so2, run2, post2⟩ := post v H1 ρ1 st r so1
  exact ⟨ρ2, S2, η2, d2, S3, re2, so2, run2, fun u H2 ρ3 st2 r2 so3 => ⟨v, u, rfl, post2 u H2 ρ3 st2 r2 so3⟩⟩
def gInt1 : G1 := fun a S => match a with | .int i => some (.int i, S) | .bl b => some (.int (if b then 1 else 0), S) | _ => none
theorem k_int : CallR X (.type "int") (rv1 X.K gInt1) := by
  intro pins s σ H xs us Qf I r ⟨v, e, ρ, S, da, dd, S', so, ra, run, post⟩
  subst e
  cases da <;> simp [gInt1] at run
  · obtain ⟨rfl, rfl⟩ := run
    rw [rd_bl ra] at r
    exact call_int1 pins s σ H _ us Qf I r (.inr ⟨_, rfl, post.now mk_int so⟩)
  · obtain ⟨rfl, rfl⟩ := run
    rw [rd_int ra] at r
    exact call_int1 pins s σ H _ us Qf I r (.inl ⟨_, rfl, post.now mk_int so⟩)
def gAbs : G1 := fun a S => match a with | .int i => some (.int (if i < 0 then -i else i), S) | _ => none
theorem k_abs : CallR X (.builtin "abs") (rv1 X.K gAbs) := by
  intro pins s σ H xs us Qf I r ⟨v, e, ρ, S, da, dd, S', so, ra, run, post⟩
  subst e
  cases da <;> simp [gAbs] at run
  obtain ⟨rfl, rfl⟩ := run
  rw [rd_int ra] at r
  exact call_abs pins s σ H _ us Qf I r ⟨_, rfl, post.now mk_int so⟩
def gMax : G2 := fun a b S => match a, b with | .int i, .int j => some (.int (if j > i then j else i), S) | _, _ => none
def gMin : G2 := fun a b S => match a, b with | .int i, .int j => some (.int (if j < i then j else i), S) | _, _ => none
theorem k_max2 (hc : X.calm = true) : CallR X (.builtin "max") (rv2 X.K gMax) := by
  intro pins s σ H xs us Qf I r ⟨v, u, e, ρ, S, da, db, dd, S', so, ra, rb, run, post⟩
  subst e
  cases da <;> cases db <;> simp only [gMax] at run <;> first | (cases run; done) | skip
  cases run
  rw [rd_int ra, rd_int rb] at r
  exact call_max2 hc pins s σ H _ us Qf I r ⟨_, _, rfl, post.now mk_int so⟩
theorem k_min2 (hc : X.calm = true) : CallR X (.builtin "min") (rv2 X.K gMin) := by
  intro pins s σ H xs us Qf I r ⟨v, u, e, ρ, S, da, db, dd, S', so, ra, rb, run, post⟩
  subst e
  cases da <;> cases db <;> simp only [gMin] at run <;> first | (cases run; done) | skip
  cases run
  rw [rd_int ra, rd_int rb] at r
  exact call_min2 hc pins s σ H _ us Qf I r ⟨_, _, rfl, post.now mk_int so⟩
/-! ## isinstance -/
def dTy : D → String
  | .non => "NoneType" | .bl _ => "bool" | .int _ => "int" | .str _ => "str" | .tup _ => "tuple" | .frl _ => "list" | .ref _ => "list"
def tyS : Ty → String
  | .bool => "bool" | .int => "int" | .str => "str" | .tup => "tuple" | .lst => "list"
theorem kit_any (d : D) (t : Ty) : kitB (dTy d) (tyS t) = some (isTy d t) := by
  cases d <;> cases t <;> simp only [dTy, tyS, isTy] <;> decide +kernel
theorem tyX_of {K : PySem.W.Frag} {ρ : List Addr} {H : Hp} {S : Sto} {d : D} {v : V} (so : SOk K ρ H S) (h : RD K ρ H d v) : TyX K H v (.type (dTy d)) := by
  cases d with
  | non => simp only [RD] at h; subst h; exact .base .non
  | bl b => simp only [RD] at h; subst h; exact .base (.bl b)
  | int b => simp only [RD] at h; subst h; exact .base (.int b)
  | str b => simp only [RD] at h; subst h; exact .base (.str b)
  | tup ds =>
    obtain ⟨a, vs, rfl, ⟨its, h1⟩, _⟩ := rd_tup h
    exact .fTuple h1
  | frl ds =>
    simp only [RD] at h
    obtain ⟨_, a, vs, rfl, h1, _⟩ := h
    rcases h1 with ⟨o, h1⟩ | ⟨o, its, n, h1, h2, _⟩
    · exact .base (.frz h1)
    · exact .kList h1 h2
  | ref n =>
    simp only [RD] at h
    obtain ⟨a, rfl, h1⟩ := h
    obtain ⟨vs, h2⟩ := so.nt a (List.mem_of_getElem? h1)
    exact .base (.lst h2)
def tyName : Ty → Str
  | .bool => "bool" | .int => "int" | .str => "str" | .tup => "tuple" | .lst => "list"
theorem boot_ty (t : Ty) : bootBuiltins (tyName t) = some (.type (tyS t)) := by cases t <;> decide +kernel
theorem i_isin {t : Ty} {pt : Pos} (hs : unstar a = true) (hg : Gl X "isinstance") (hm : X.mg "isinstance" = none) (hg2 : Gl X (tyName t)) (hm2 : X.mg (tyName t) = none) (ha : PE X a (tE X.K C ea)) :
    PE X (.Call (.Name "isinstance" p) [a, .Name (tyName t) pt] [] pos) (tE X.K C (.isin ea t)) := by
  have hT : PE X (.Name (tyName t) pt) (tC (.ty (tyS t))) := pe_bltn hg2 hm2 (boot_ty t) rfl (by cases t <;> decide) (by cases t <;> decide)
  refine (pe_callB call_isi hg hm (by decide +kernel) (pa_cons ha (pa_cons hT pa_nil) (star_cons hs _ X.env)) (by decide) (by decide) (star_cons hs _ X.env) rfl).le fun σ H Qf ⟨ρ, S, η, d, S', re, so, run, post⟩ => ?_
  simp only [runE] at run
  obtain ⟨⟨da, S1⟩, e1, e2⟩ := Option.bind_eq_some_iff.mp run
  cases e2
  exact ⟨ρ, S, η, da, S1, re, so, e1, fun v H1 ρ1 st r so1 => ⟨v, .ty (tyS t), _, _, isTy da t, rfl, .ty _, tyX_of so1 r, kit_ty (kit_any da t), (AfE.trans post st).now mk_bl so1⟩⟩
/-! ## methods of tuples -/
theorem few_of {es : List Expr} (hs : es.all unstar = true) (hl : es.length < 30) (cpos : Pos) (env : Env) : ((backTo cpos (starEach es env)).all (fun x => !x.1) && (backToKw cpos (keywordEach [] env)).all (fun x => x.1.isSome)
      && decide (es.length + ([] : List Keyword).length + (if ([] : List Keyword).isEmpty then 0 else 1) < 30)) = true := by
  have h1 : ∀ {es : List Expr}, es.all unstar = true → (backTo cpos (starEach es env)).all (fun x => !x.1) = true := by
    intro es
    induction es with
    | nil => intro _; rfl
    | cons e es ih =>
      intro h
      rw [List.all_cons, Bool.and_eq_true] at h
      rw [star_cons h.1]
      unfold backTo at ih ⊢
      rw [List.map_cons, List.all_cons, ih h.2]
      rfl
  rw [h1 hs]
  simp [backToKw, keywordEach]
  omega
theorem pe_tm {e : Expr} {es : List Expr} {to : TE} {t : TA} {name : Str} {apos cpos : Pos} {id : String} {r : V → List V → Hp → VK → Prop} (slot : Slot "tuple" name id) (hty : typeOf (.builtin id) = pure (.type "method_descriptor")) (hm : MtR X id r)
    (ho : PE X a to) (ha : PA X (e :: es) t) (hbase : attributeBase a name X.env (eval a X.env) = eval a X.env) (hline : (apos.endLine == cpos.line) = true) (hs : (e :: es).all unstar = true) (hl : (e :: es).length < 30) :
    PE X (.Call (.Attribute a name apos) (e :: es) [] cpos) (fun σ H Qf => to σ H fun x H1 => (∃ q vs, x = .ref q ∧ TupAt H1 q vs) ∧ t σ H1 fun xs H2 => r x xs H2 Qf) := by
  refine ⟨fun pins s σ H Qf I h => ?_⟩
  have hs' := hs
  rw [List.all_cons, Bool.and_eq_true] at hs'
  refine wpAny_Call_method_late hbase (few_of hs hl cpos X.env) hline rfl (thn (ho.run pins s σ H _ I h) fun v s1 ⟨x, H1, I1, rx, ⟨q, vs, ex, its, hq⟩, q1⟩ => ?_)
  subst ex
  cases rx
  obtain ⟨hk, _⟩ := I1.hok q _ hq
  refine ⟨"tuple", id, PySem.F.plainAttrs_tuple, slot, hty, ⟨_, hk, rfl⟩, fun y ey => ?_, ?_⟩
  · cases ey
    exact ⟨_, hk, rfl⟩
  have hA := ha.run cpos pins s1 σ H1 _ I1 q1
  rw [star_cons hs'.1] at hA ⊢
  refine Calls.callWith_builtin (by show (false || (backTo cpos (starEach es X.env)).any (·.1)) = false; rw [star_any hs'.2]; rfl) (Calls.evalArgs_plain ?_)
  exact thn hA fun us s2 ⟨vs, H2, I2, r2, q2⟩ => hm pins s2 σ H2 (.ref q) vs (.ref q) us Qf I2 rfl r2 q2
theorem m_tindex : MtR X "tuple.index" (fun x xs H Q => ∃ (q : Addr) (ns : List Int) (k : Int), x = .ref q ∧ xs = [.int k] ∧ SqT X.K H q (ns.map V.int) ∧ k ∈ ns ∧ Q (.int (ns.idxOf k : Nat)) H) := by
  intro pins s σ H x xs v us Qf I rx rxs ⟨q, ns, k, e1, e2, hs, hk, h⟩
  subst e1 e2
  cases rx
  obtain ⟨u, rfl, t, rfl⟩ := rxs.one
  obtain ⟨its, rv, ht, hz⟩ := I.tuple hs
  exact SeqAt.call_tuple_index ht (SeqAt.ItemsEq.ints (ints_of_vals rv)) hk ⟨.int _, H, I.tok _, ⟨_, rfl⟩, h⟩
theorem drop_idx {ns : List Int} {k : Int} {m : Nat} (h : k ∈ ns.drop m) : m + (ns.drop m).idxOf k < ns.length ∧ ns[m + (ns.drop m).idxOf k]? = some k ∧ ∀ j, m ≤ j → j < m + (ns.drop m).idxOf k → ns[j]? ≠ some k := by
  have h1 : (ns.drop m).idxOf k < (ns.drop m).length := List.idxOf_lt_length_iff.mpr h
  rw [List.length_drop] at h1
  refine ⟨by omega, ?_, fun j h2 h3 e => ?_⟩
  · rw [← List.getElem?_drop]
    have := List.getElem?_eq_getElem (l := ns.drop m) (i := (ns.drop m).idxOf k) (by rw [List.length_drop]; exact h1)
    rw [this, List.getElem_idxOf]
  · have h4 : (ns.drop m)[j - m]? = some k := by rw [List.getElem?_drop, show m + (j - m) = j by omega]; exact e
    obtain ⟨h5, h6⟩ := List.getElem?_eq_some_iff.mp h4
    exact SeqAt.lt_idxOf_ne (show j - m < (ns.drop m).idxOf k by omega) h5 h6
theorem m_tindex2 : MtR X "tuple.index" (fun x xs H Q => ∃ (q : Addr) (ns : List Int) (k i : Int), x = .ref q ∧ xs = [.int k, .int i] ∧ SqT X.K H q (ns.map V.int) ∧ 0 ≤ i ∧ k ∈ ns.drop i.toNat ∧ Q (.int ((i.toNat + (ns.drop i.toNat).idxOf k : Nat))) H) := by
  intro pins s σ H x xs v us Qf I rx rxs ⟨q, ns, k, i, e1, e2, hs, hi, hk, h⟩
  subst e1 e2
  cases rx
  obtain ⟨u, u2, rfl, ⟨t, rfl⟩, ⟨t2, rfl⟩⟩ := rxs.two
  obtain ⟨its, rv, ⟨⟨cls, dd, data, sl⟩, ho, hc, n, hd⟩, hz⟩ := I.tuple hs
  simp only at hc hd
  subst hc hd
  have iq := SeqAt.ItemsEq.ints (A := X.A.in1) (s := s) (k := k) (t := t) (ints_of_vals rv)
  have hlen := iq.1
  obtain ⟨d1, d2, d3⟩ := drop_idx hk
  have hf : SeqAt.searchFrom i its.toArray.size = i.toNat := SeqAt.searchFrom_nonneg hi _
  refine call_meets PySem.F.slot_tuple_index ⟨_, ho, rfl⟩ PySem.F.entry_tuple_index (PySem.F.args_tuple_index_3 _ _ _)
    (SeqAt.tuple_index3_found q its.toArray n dd sl (.int k t) (fun j => decide (ns[j]? = some k)) i t2 (i.toNat + (ns.drop i.toNat).idxOf k) (by simpa [hlen] using d1) (by rw [hf]; omega) (by simpa [hlen] using d1) (by simpa using d2) ?_) ⟨ho, fun j hj => ?_, ⟨.int _, H, I.tok _, ⟨_, rfl⟩, h⟩⟩
  · intro m hm h1 h2
    rw [hf] at h1
    simpa using d3 m h1 h2
  · have h1 : j < its.length := by simpa using hj
    have h2 : j < ns.length := by omega
    have := iq.2 j h1 h2
    simpa [List.getElem?_eq_getElem h2] using this
theorem m_tcount : MtR X "tuple.count" (fun x xs H Q => ∃ (q : Addr) (ns : List Int) (k : Int), x = .ref q ∧ xs = [.int k] ∧ SqT X.K H q (ns.map V.int) ∧ Q (.int (ns.count k : Nat)) H) := by
  intro pins s σ H x xs v us Qf I rx rxs ⟨q, ns, k, e1, e2, hs, h⟩
  subst e1 e2
  cases rx
  obtain ⟨u, rfl, t, rfl⟩ := rxs.one
  obtain ⟨its, rv, ⟨⟨cls, dd, data, sl⟩, ho, hc, n, hd⟩, hz⟩ := I.tuple hs
  simp only at hc hd
  subst hc hd
  have hi := ints_of_vals rv
  refine call_meets PySem.F.slot_tuple_count ⟨_, ho, rfl⟩ PySem.F.entry_tuple_count (PySem.F.args_tuple_count_2 _ _)
    (SeqAt.tuple_countAt q its.toArray n dd sl (.int k t) (eqk k)) ⟨ho, fun y hy => (eqk_gives hi y (by simpa using hy)).at _ _, ?_⟩
  have ec : its.toArray.toList.countP (eqk k) = ns.count k := eqk_count hi
  exact ⟨.int (ns.count k : Nat), H, I.tok _, ⟨s.toks, by rw [ec]⟩, h⟩
theorem m_lindex : MtR X "list.index" (fun x xs H Q => ∃ (q : Addr) (ns : List Int) (k : Int), x = .ref q ∧ xs = [.int k] ∧ SqL X.K H q (ns.map V.int) ∧ k ∈ ns ∧ Q (.int (ns.idxOf k : Nat)) H) := by
  intro pins s σ H x xs v us Qf I rx rxs ⟨q, ns, k, e1, e2, hs, hk, h⟩
  subst e1 e2
  cases rx
  obtain ⟨u, rfl, t, rfl⟩ := rxs.one
  obtain ⟨its, rv, ht, hz⟩ := I.list hs
  exact SeqAt.call_list_index ht.isList (SeqAt.ItemsEq.ints (ints_of_vals rv)) (by simpa using hz) hk ⟨.int _, H, I.tok _, ⟨_, rfl⟩, h⟩
end
end Ol
set_option Elab.async false
set_option linter.all false
set_option maxRecDepth 100000
set_option maxHeartbeats 1000000
namespace Ol
open PySem PySem.Spec PyProof.Rows L2
/-! ## sorting -/
theorem sorted_one {α : Type} {le : α → α → Prop} (anti : ∀ x y, le x y → le y x → x = y) : ∀ {l l' : List α}, l.Pairwise le → l'.Pairwise le → l.Perm l' → l = l'
  | [], l', _, _, h => by rw [List.nil_perm.mp h]
  | x :: l, l', h1, h2, h => by
    cases l' with
    | nil => simp at h
    | cons y l' =>
      rw [List.pairwise_cons] at h1 h2
      have e : x = y := by
        rcases List.mem_cons.mp (h.subset List.mem_cons_self) with e | m
        · exact e
        · rcases List.mem_cons.mp (h.symm.subset List.mem_cons_self) with e | m'
          · exact e.symm
          · exact anti _ _ (h1.1 y m') (h2.1 x m)
      subst e
      rw [sorted_one anti h1.2 h2.2 (List.Perm.cons_inv h)]
theorem insI_perm (x : Int) : ∀ l : List Int, (insI x l).Perm (x :: l)
  | [] => List.Perm.refl _
  | y :: l => by
    unfold insI
    split
    · exact List.Perm.refl _
    · exact ((insI_perm x l).cons y).trans (List.Perm.swap x y l)
theorem isortI_perm : ∀ l : List Int, (isortI l).Perm l
  | [] => List.Perm.refl _
  | x :: l => (insI_perm x _).trans ((isortI_perm l).cons x)
theorem insI_sorted (x : Int) : ∀ {l : List Int}, l.Pairwise (· ≤ ·) → (insI x l).Pairwise (· ≤ ·)
  | [], _ => by simp [insI]
  | y :: l, h => by
    unfold insI
    have h' := List.pairwise_cons.mp h
    split
    · rename_i hx
      exact List.pairwise_cons.mpr ⟨fun z hz => by
        rcases List.mem_cons.mp hz with rfl | hz
        · exact hx
        · exact Int.le_trans hx (h'.1 z hz), h⟩
    · rename_i hx
      exact List.pairwise_cons.mpr ⟨fun z hz => by
        rcases List.mem_cons.mp ((insI_perm x l).subset hz) with rfl | hz
        · omega
        · exact h'.1 z hz, insI_sorted x h'.2⟩
theorem isortI_sorted : ∀ l : List Int, (isortI l).Pairwise (· ≤ ·)
  | [] => .nil
  | x :: l => insI_sorted x (isortI_sorted l)
theorem lexLe_iff : ∀ xs ys : List Int, lexLe xs ys = true ↔ xs ≤ ys
  | [], ys => by simp [lexLe]
  | x :: xs, [] => by simp [lexLe]
  | x :: xs, y :: ys => by
    unfold lexLe
    rw [List.cons_le_cons_iff]
    split
    · rename_i e
      subst e
      rw [lexLe_iff xs ys]
      simp
    · rename_i e
      simp [e]
theorem insT_perm (x : List Int) : ∀ l : List (List Int), (insT x l).Perm (x :: l)
  | [] => List.Perm.refl _
  | y :: l => by
    unfold insT
    split
    · exact List.Perm.refl _
    · exact ((insT_perm x l).cons y).trans (List.Perm.swap x y l)
theorem isortT_perm : ∀ l : List (List Int), (isortT l).Perm l
  | [] => List.Perm.refl _
  | x :: l => (insT_perm x _).trans ((isortT_perm l).cons x)
theorem insT_sorted (x : List Int) : ∀ {l : List (List Int)}, l.Pairwise (· ≤ ·) → (insT x l).Pairwise (· ≤ ·)
  | [], _ => by simp [insT]
  | y :: l, h => by
    unfold insT
    have h' := List.pairwise_cons.mp h
    split
    · rename_i hx
      rw [lexLe_iff] at hx
      exact List.pairwise_cons.mpr ⟨fun z hz => by
        rcases List.mem_cons.mp hz with rfl | hz
        · exact hx
        · exact List.le_trans hx (h'.1 z hz), h⟩
    · rename_i hx
      have hy : y ≤ x := by
        rcases List.le_total x y with q | q
        · exact absurd ((lexLe_iff _ _).mpr q) hx
        · exact q
      exact List.pairwise_cons.mpr ⟨fun z hz => by
        rcases List.mem_cons.mp ((insT_perm x l).subset hz) with rfl | hz
        · exact hy
        · exact h'.1 z hz, insT_sorted x h'.2⟩
theorem isortT_sorted : ∀ l : List (List Int), (isortT l).Pairwise (· ≤ ·)
  | [] => .nil
  | x :: l => insT_sorted x (isortT_sorted l)
/-- the library's order is ours -/
theorem merge_ints (ns : List Int) : ns.mergeSort (PySem.W.dataLe false fun n => PyData.int n) = isortI ns := by
  have e : PySem.W.dataLe false (fun n : Int => PyData.int n) = fun a b => decide (a ≤ b) := PySem.W.dataLe_int (fun n : Int => n)
  rw [e]
  refine sorted_one (le := fun a b : Int => a ≤ b) (fun x y h1 h2 => Int.le_antisymm h1 h2) ?_ (isortI_sorted ns) ((List.mergeSort_perm _ _).trans (isortI_perm ns).symm)
  have := List.pairwise_mergeSort (le := fun a b : Int => decide (a ≤ b)) (fun a b c h1 h2 => by simp at *; omega) (fun a b => by simp; omega) ns
  exact this.imp fun h => by simpa using h
theorem dataLe_tups : PySem.W.dataLe false (fun ns : List Int => PyData.tuple (ns.map .int)) = fun p q => decide (p ≤ q) := by
  funext p q
  show (!PySem.W.dataLt (.tuple (q.map .int)) (.tuple (p.map .int))) = _
  rw [PySem.W.dataLt_tuple]
  show (!PySem.W.rowLt (q.map .int) (p.map .int)) = _
  rw [PySem.W.dataLt_ints]
  by_cases h : q < p
  · simp [h, List.not_le.mpr h]
  · simp [h, List.not_lt.mp h]
theorem merge_tups (ns : List (List Int)) : ns.mergeSort (PySem.W.dataLe false fun n => PyData.tuple (n.map .int)) = isortT ns := by
  rw [dataLe_tups]
  refine sorted_one (le := fun a b : List Int => a ≤ b) (fun x y h1 h2 => List.le_antisymm h1 h2) ?_ (isortT_sorted ns) ((List.mergeSort_perm _ _).trans (isortT_perm ns).symm)
  have := List.pairwise_mergeSort (le := fun a b : List Int => decide (a ≤ b)) (fun a b c h1 h2 => by simp at *; exact List.le_trans h1 h2) (fun a b => by simp; exact List.le_total a b) ns
  exact this.imp fun h => by simpa using h
end Ol
set_option Elab.async false
set_option linter.all false
set_option maxRecDepth 100000
set_option maxHeartbeats 2000000
namespace Ol
open PySem PySem.Spec PyProof.Rows L2 PySem.W
section
variable {prog : Program} {w : World} {A : Around} {E : Value → Shared → Prop} {s : Shared}
/-- the items of a list, or of a tuple, in a new list -/
theorem collect_seq {l : Addr} {o : Obj} {n : Nat} {T : String} {vs : List Value} {Q : List Value → Shared → Prop} (hT : T = "list" ∨ T = "tuple") (ho : s.heap.get? l = some o) (hc : o.cls = .type T) (hd : o.data = .seq vs.toArray n)
    (h : Q vs { s with heap := (s.heap.push (seqObj "list" #[] 0)).update s.heap.objs.size (Obj.mapSeq (· ++ vs.toArray)) }) (hz : vs.length ≤ sizeLine) : wpAny (model prog w) A (collect (.ref l)) Q E s := by
  unfold collect
  refine wpAny_bind (wpAny_runValue (codeAny_builtin entry_proto_collect' ?_))
  show wpAny _ _ (do again (.builtin "list.__iadd__" ⟨[← newList [], .ref l], []⟩)) _ _ s
  refine wpAny_bind (wpAny_newList (wpAny_pure ⟨Code.quiet_builtin _ (by decide +kernel), codeAny_builtin entry_list_iadd' ?_⟩))
  show wpAny _ _ (Builtin.List.listExtendWith (.ref s.heap.objs.size) (.ref l) (.ref s.heap.objs.size)) _ _ { s with heap := s.heap.push (seqObj "list" #[] 0) }
  unfold Builtin.List.listExtendWith
  have ho' : (s.heap.push (seqObj "list" #[] 0)).get? l = some o := Heap.get?_push_of_some _ ho
  refine wpAny_bind (wpAny_typeOf (T := T) ⟨o, ho', hc⟩ ?_)
  have hb : (Builtin.List.listSameRef (.ref s.heap.objs.size) (.ref l) || Value.type T == Value.type "list" || Value.type T == Value.type "tuple") = true := by
    rcases hT with rfl | rfl <;> simp
  rw [if_pos hb]
  refine wpAny_bind (listItems_at ho' hd ?_)
  refine wpAny_bind (listItems_at (xs := #[]) (n := 0) (Heap.get?_push_size _ rfl) rfl ?_)
  rw [if_neg (by simp)]
  refine wpAny_bind (listUpdate_at (xs := #[]) (n := 0) (Heap.get?_push_size _ rfl) rfl ?_ (Nat.zero_le _) (by show (#[] ++ vs.toArray).size ≤ sizeLine + 1; simp only [Array.size_append, List.size_toArray, List.length_nil]; omega))
  refine wpAny_pure ?_
  show wpAny (model prog w) A (do
      let o ← load s.heap.objs.size
      match o.data with
      | .seq xs _ => pure xs.toList
      | _ => unsupported "internal:collect") Q E { s with heap := (s.heap.push (seqObj "list" #[] 0)).update s.heap.objs.size (Obj.mapSeq (· ++ vs.toArray)) }
  refine wpAny_bind (wpAny_load (get?_update_seq (Heap.get?_push_size _ rfl) _) ?_)
  show wpAny _ _ (pure ((#[] : Array Value) ++ vs.toArray).toList) Q E _
  rw [show ((#[] : Array Value) ++ vs.toArray).toList = vs by simp]
  exact wpAny_pure h
theorem sorted_seq {β : Type} {bs : List β} {enc : β → PyData} {R : Value → β → Prop} {l : Addr} {o : Obj} {n : Nat} {T : String} {vs : List Value} {Q : Value → Shared → Prop} (hT : T = "list" ∨ T = "tuple") (ho : s.heap.get? l = some o) (hc : o.cls = .type T) (hd : o.data = .seq vs.toArray n)
    (e : EachIs R vs bs) (er : EachIs (fun v b => ∃ as, Reads s.heap v (enc b) as) vs bs) (hal : AllAlike (bs.map enc)) (hk : Sortable (bs.map enc)) (hL : bs.length ≤ sizeLine)
    (hu : ∀ b, b ∈ bs → A.units + 2 + (enc b).depth < cLine) (h : ∀ out, out.length = bs.length → EachIs R out (bs.mergeSort (dataLe false enc)) → Q (.ref (s.heap.objs.size + 1)) { s with heap := sortedAll s.heap vs (List.toArray out) }) :
    wpAny (model prog w) A (call (.builtin "sorted") [.ref l]) Q E s := by
  have hz : vs.length ≤ sizeLine := by rw [e.length]; exact hL
  have er' : EachIs (fun v b => ∃ as, Reads (sortingHeap (copyHeap s.heap vs) (s.heap.objs.size + 1) vs) v (enc b) as) vs bs := er.mono fun _ _ ⟨as, r⟩ => ⟨as, PyProof.Rows.Reads.keeps (fun _ _ => sorting_copy_old) r⟩
  have S := SortsAt.data (prog := prog) (w := w) (A := A.in1.in1) (s := { s with heap := sortingHeap (copyHeap s.heap vs) (s.heap.objs.size + 1) vs }) (each_map (R := fun v d => ∃ as, Reads (sortingHeap (copyHeap s.heap vs) (s.heap.objs.size + 1) vs) v d as) enc er') hal hk (bound_map hu)
  have hq := h _ (by rw [sortVals_length false rfl]; exact e.length) (sortVals_data false e er' hal)
  refine Calls.call_function_entry kind_sorted plain_sorted entry_sorted (args_sorted1 _) ?_
  unfold Builtin.«sorted»
  refine wpAny_bind (m := checkCount "sorted" 1 1 _) (wpAny_pure ?_)
  refine wpAny_bind (collect_seq hT ho hc hd ?_ hz)
  refine wpAny_bind (wpAny_newList ?_ hz)
  have hsz : ((s.heap.push (seqObj "list" #[] 0)).update s.heap.objs.size (Obj.mapSeq (· ++ vs.toArray))).objs.size = s.heap.objs.size + 1 := by
    rw [Heap.size_update, size_push']
  show wpAny _ _ _ _ _ { s with heap := copyHeap s.heap vs }
  rw [hsz]
  refine wpAny_bind (wpAny_holding (wpAny_call_entry slot_list_sort ⟨_, copyHeap_at s.heap vs, rfl⟩ entry_list_sort ?body (args_list_sort _)))
  case body =>
    show wpAny (model prog w) A.in1.in1 (Builtin.«list.sort» ⟨[.ref (s.heap.objs.size + 1)], []⟩) _ _ _
    refine wpAny_mono (list_sort_vals (s := { s with heap := copyHeap s.heap vs }) (P := fun f s' => f = .done (.ret .none) ∧ Q (.ref (s.heap.objs.size + 1)) s') (copyHeap_at s.heap vs) S hz ⟨rfl, hq⟩) (fun f s' hf => ?_) fun _ _ e => e
    obtain ⟨rfl, hq'⟩ := hf
    exact ⟨_, rfl, wpAny_pure ⟨_, rfl, hq'⟩⟩
end
section
variable {X : Cx} {C : Nat → List D → Sto → Option (D × Sto)} {a b c d : Expr} {ea eb ec ed : E} {qa qb : Q} {pos p : Pos}
/-- a new list -/
theorem Step.fresh {ρ ρ1 : List Addr} {H H1 : Hp} (s : Step ρ H ρ1 H1) (nt : NT ρ1 H1) {q : Addr} (h : H1 q = none) : H q = none ∧ q ∉ ρ1 := by
  have hq : q ∉ ρ1 := fun m => by
    obtain ⟨vs, e⟩ := nt q m
    rw [h] at e; cases e
  refine ⟨?_, hq⟩
  cases z : H q with
  | none => rfl
  | some o => rw [s.keep q o z fun m => hq (s.pre.subset m)] at h; cases h
/-- what is wanted of a sequence -/
def AfQ (K : PySem.W.Frag) (ρ : List Addr) (H : Hp) (x : Qv) (S' : Sto) (Qf : VK) : Prop := ∀ v H' ρ', Step ρ H ρ' H' → QP K ρ' H H' x v → SOk K ρ' H' S' → Qf v H'
theorem AfQ.newL {K : PySem.W.Frag} {ρ ρ1 : List Addr} {H H1 : Hp} {ds : List D} {vs : List V} {S1 : Sto} {Qf : VK} (h : AfQ K ρ H (.new ds) S1 Qf) (st : Step ρ H ρ1 H1) (so1 : SOk K ρ1 H1 S1) (r : RDs K ρ1 H1 ds vs) (z : ds.length ≤ sizeLine) {q : Addr} (hq : H1 q = none) : Qf (.ref q) (upd H1 q (.lst vs)) := by
  obtain ⟨h1, h2⟩ := st.fresh so1.nt hq
  exact h _ _ ρ1 (st.trans (Step.laid hq _)) ⟨z, q, vs, rfl, upd_same, RDs.mono (Step.laid hq _) so1.nt _ _ r, h2, h1⟩ (so1.laid hq _)
variable {es : List Expr} {ees : Es}
theorem q_disp (h : PA X es (tEs X.K C ees)) : PE X (.List es pos) (tQ X.K C (.disp ees)) :=
  (pe_lst h).le fun σ H Qf ⟨ρ, S, η, x, S', re, so, run, post⟩ => by
    simp only [runQ] at run
    obtain ⟨⟨ds, S1⟩, e1, e2⟩ := Option.bind_eq_some_iff.mp run
    split at e2
    · rename_i hz
      cases e2
      exact ⟨ρ, S, η, ds, S1, re, so, e1, fun vs H1 ρ1 st r so1 => ⟨by rw [← r.length]; exact hz, fun q hq => AfQ.newL post st so1 r hz hq⟩⟩
    · cases e2
/-- list(q) -/
theorem q_list (hs : unstar a = true) (hg : Gl X "list") (hm : X.mg "list" = none) (ha : PE X a (tQ X.K C qa)) : PE X (.Call (.Name "list" p) [a] [] pos) (tQ X.K C (.listOf qa)) :=
  (pe_callTy call_list_of hg hm (by decide +kernel) (pa_1 hs ha) (by decide) (by decide) (one_star hs) rfl).le fun σ H Qf ⟨ρ, S, η, x, S', re, so, run, post⟩ => by
    simp only [runQ] at run
    obtain ⟨⟨y, S1⟩, e1, e2⟩ := Option.bind_eq_some_iff.mp run
    obtain ⟨ds, e3, e4⟩ := Option.map_eq_some_iff.mp e2
    cases e4
    refine ⟨ρ, S, η, y, S1, re, so, e1, fun v H1 ρ1 st r so1 => ?_⟩
    obtain ⟨q, vs, rfl, h1, h2⟩ := r.read so1 e3
    exact ⟨q, vs, rfl, h1, fun l hl => AfQ.newL post st so1 h2 (r.few so1 e3) hl⟩
/-- sorted(q) -/
theorem each_vals {K : PySem.W.Frag} {ρ : List Addr} {H : Hp} {β : Type} (f : β → D) : ∀ {bs : List β} {vs : List V} {us : List Value}, RDs K ρ H (bs.map f) vs → Vals vs us → EachIs (fun u b => ∃ v, RelV v u ∧ RD K ρ H (f b) v) us bs
  | [], vs, us, h, r => by
    simp only [List.map_nil, RDs] at h
    subst h; cases r; exact .nil
  | b :: bs, vs, us, h, r => by
    simp only [List.map_cons, RDs] at h
    obtain ⟨v, t, rfl, h1, h2⟩ := h
    cases r with
    | cons r1 r2 => exact .cons ⟨v, r1, h1⟩ (each_vals f h2 r2)
theorem vals_each {K : PySem.W.Frag} {ρ : List Addr} {H : Hp} {β : Type} (f : β → D) : ∀ {bs : List β} {us : List Value}, EachIs (fun u b => ∃ v, RelV v u ∧ RD K ρ H (f b) v) us bs → ∃ vs, Vals vs us ∧ RDs K ρ H (bs.map f) vs
  | _, _, .nil => ⟨[], .nil, by simp [RDs]⟩
  | _, _, .cons ⟨v, r, h⟩ t => by
    obtain ⟨vs, h1, h2⟩ := vals_each f t
    exact ⟨v :: vs, .cons r h1, .cons h h2⟩
theorem k_sorted {β : Type} {bs : List β} (f : β → D) (enc : β → PyData) (hp : ∀ b, (f b).pure = true ∧ (f b).py = enc b) (hd : ∀ b, (enc b).depth ≤ 1) (hal : AllAlike (bs.map enc)) (hk : Sortable (bs.map enc)) (hu : X.A.units + 64 < cLine)
    {pins : List (Addr × Obj)} {s : Shared} {σ : L2.St} {H : Hp} {q : Addr} {vs : List V} {ρ : List Addr} {S : Sto} {Qf : VK} (I : Inv X pins σ H s) (so : SOk X.K ρ H S) (h1 : SqL X.K H q vs ∨ SqT X.K H q vs) (h2 : RDs X.K ρ H (bs.map f) vs)
    (h : ∀ p us, H p = none → RDs X.K ρ H ((bs.mergeSort (dataLe false enc)).map f) us → Qf (.ref p) (upd H p (.lst us))) : wpAny (model X.prog X.w) X.A (call (.builtin "sorted") [.ref q]) (EP X pins σ Qf) X.xe s := by
  obtain ⟨its, rv, T, o, n, hT, ho, hc, hdt, hz⟩ : ∃ its : List Value, Vals vs its ∧ ∃ (T : String) (o : Obj) (n : Nat), (T = "list" ∨ T = "tuple") ∧ s.heap.get? q = some o ∧ o.cls = .type T ∧ o.data = .seq its.toArray n ∧ vs.length ≤ sizeLine := by
    rcases h1 with h1 | h1
    · obtain ⟨its, r, ⟨o, n, ho, hc, _, hd⟩, hz⟩ := I.list h1
      exact ⟨its, r, "list", o, n, .inl rfl, ho, hc, hd, hz⟩
    · obtain ⟨its, r, ⟨o, ho, hc, n, hd⟩, hz⟩ := I.tuple h1
      exact ⟨its, r, "tuple", o, n, .inr rfl, ho, hc, hd, hz⟩
  have hl : bs.length = vs.length := by have := h2.length; simpa using this
  have e := each_vals f h2 rv
  have er : EachIs (fun u b => ∃ as, Reads s.heap u (enc b) as) its bs := e.mono fun u b ⟨v, r, hr⟩ => by
    obtain ⟨as, hr'⟩ := Dp.reads I (f b).py v u (dp_of (f b) v (hp b).1 hr) r
    rw [(hp b).2] at hr'
    exact ⟨as, hr'⟩
  refine sorted_seq hT ho hc hdt e er hal hk (by omega) (fun b _ => by have := hd b; omega) fun out ho' eo => ?_
  · obtain ⟨us, r1, r2⟩ := vals_each f eo
    obtain ⟨ep, he'⟩ := PyProof.Rows.sortedAll_at s.heap its out.toArray
    have hlen : us.length ≤ sizeLine := by
      rw [r1.length, ho', hl]; exact hz
    exact ⟨.ref _, upd H (s.heap.objs.size + 1) (.lst us), I.laid (t' := s.toks) (fun _ _ => PyProof.Rows.sortedAll_old) (Nat.le_succ _) ⟨hlen, out, ep, r1, he'⟩, rfl, h _ us (I.hok.fresh (Nat.le_succ _)) r2⟩
theorem pures_ints : ∀ ns : List Int, pures (ns.map D.int) = true ∧ pys (ns.map D.int) = ns.map PyData.int
  | [] => ⟨rfl, rfl⟩
  | n :: ns => by
    obtain ⟨h1, h2⟩ := pures_ints ns
    simp [pures, pys, D.pure, D.py, h1, h2]
theorem rows_of : ∀ {ds : List D} {rs : List (List Int)}, toRows ds = some rs → ds = rs.map tupI ∧ ∀ r ∈ rs, ∃ n ns, r = n :: ns
  | [], rs, h => by simp only [toRows] at h; cases h; exact ⟨rfl, fun _ h => nomatch h⟩
  | d :: ds, rs, h => by
    cases d with
    | tup es =>
      simp only [toRows] at h
      cases q : toInts es with
      | none => rw [q] at h; cases h
      | some ms =>
        rw [q] at h
        cases ms with
        | nil => cases h
        | cons m ms =>
          simp only at h
          obtain ⟨rs', e1, e2⟩ := Option.map_eq_some_iff.mp h
          subst e2
          obtain ⟨h1, h2⟩ := rows_of e1
          refine ⟨?_, fun r hr => ?_⟩
          · rw [List.map_cons, ← h1]
            unfold tupI
            rw [← toInts_map q]
          · rcases List.mem_cons.mp hr with rfl | hr
            · exact ⟨m, ms, rfl⟩
            · exact h2 r hr
    | _ => simp [toRows] at h
theorem sortedD_len {ds es : List D} (h : sortedD ds = some es) : es.length = ds.length := by
  unfold sortedD at h
  cases z : toInts ds with
  | some ns =>
    rw [z] at h
    cases h
    rw [List.length_map, (isortI_perm ns).length_eq, toInts_map z, List.length_map]
  | none =>
    rw [z] at h
    obtain ⟨rs, e3, e4⟩ := Option.map_eq_some_iff.mp h
    subst e4
    rw [List.length_map, (isortT_perm rs).length_eq, (rows_of e3).1, List.length_map]
def rSo (K : PySem.W.Frag) : List V → Hp → VK → Prop := fun vs H Qf => ∃ q us ρ S ds es, vs = [.ref q] ∧ (SqL K H q us ∨ SqT K H q us) ∧ SOk K ρ H S ∧ RDs K ρ H ds us ∧ sortedD ds = some es ∧ ∀ p ws, H p = none → RDs K ρ H es ws → Qf (.ref p) (upd H p (.lst ws))
theorem k_sortedD (hu : X.A.units + 64 < cLine) : CallR X (.builtin "sorted") (rSo X.K) := by
  intro pins s σ H xs us0 Qf I r ⟨q, us, ρ, S, ds, es, e, h1, so, h2, e2, post⟩
  subst e
  rw [Vals.ref1 r]
  unfold sortedD at e2
  cases z : toInts ds with
  | some ns =>
    rw [z] at e2
    cases e2
    have hd := toInts_map z
    subst hd
    refine k_sorted (bs := ns) D.int (fun n => PyData.int n) (fun b => ⟨rfl, rfl⟩) (fun b => by simp [PyData.depth]) (AllAlike.of fun b b' => by simp [alike]) (Sortable.others fun b => ⟨fun z => (by cases z), fun _ z => (by cases z)⟩) hu I so h1 h2 fun p ws hp hr => ?_
    rw [merge_ints] at hr
    exact post p ws hp hr
  | none =>
    rw [z] at e2
    obtain ⟨rs, e3, e4⟩ := Option.map_eq_some_iff.mp e2
    subst e4
    obtain ⟨hd, hne⟩ := rows_of e3
    subst hd
    refine k_sorted (bs := rs) tupI (fun ns => PyData.tuple (ns.map .int)) (fun b => ⟨by simp [tupI, D.pure, (pures_ints b).1], by simp [tupI, D.py, (pures_ints b).2]⟩) (fun b => by simp [PyData.depth, depth_ints]) (AllAlike.of fun b b' => by rw [alike]; exact alike_ints b b') (.inl fun d hd => ?_) hu I so h1 h2 fun p ws hp hr => ?_
    · obtain ⟨r, hr, rfl⟩ := List.mem_map.mp hd
      obtain ⟨n, ns, rfl⟩ := hne r hr
      exact ⟨_, _, rfl⟩
    · rw [merge_tups] at hr
      exact post p ws hp hr
theorem q_sorted (hu : X.A.units + 64 < cLine) (hs : unstar a = true) (hg : Gl X "sorted") (hm : X.mg "sorted" = none) (ha : PE X a (tQ X.K C qa)) : PE X (.Call (.Name "sorted" p) [a] [] pos) (tQ X.K C (.sorted qa)) :=
  (pe_callB (k_sortedD hu) hg hm (by decide +kernel) (pa_1 hs ha) (by decide) (by decide) (one_star hs) rfl).le fun σ H Qf ⟨ρ, S, η, x, S', re, so, run, post⟩ => by
    simp only [runQ] at run
    obtain ⟨⟨y, S1⟩, e1, e2⟩ := Option.bind_eq_some_iff.mp run
    obtain ⟨ds, e3, e4⟩ := Option.bind_eq_some_iff.mp e2
    obtain ⟨es, e5, e6⟩ := Option.map_eq_some_iff.mp e4
    cases e6
    refine ⟨ρ, S, η, y, S1, re, so, e1, fun v H1 ρ1 st r so1 => ?_⟩
    obtain ⟨q, vs, rfl, h1, h2⟩ := r.read so1 e3
    exact ⟨q, vs, ρ1, S1, ds, es, rfl, h1, so1, h2, e5, fun l ws hl hr => AfQ.newL post st so1 hr (by rw [sortedD_len e5]; exact r.few so1 e3) hl⟩
end
end Ol
set_option Elab.async false
set_option linter.all false
set_option maxRecDepth 100000
set_option maxHeartbeats 2000000
namespace Ol
open PySem PySem.Spec PyProof.Rows L2
section
variable {X : Cx} {C : Nat → List D → Sto → Option (D × Sto)} {a b c d : Expr} {ea eb ec ed : E} {qa qb : Q} {pos p apos : Pos}
/-! ## methods -/
theorem rd_ref {K : PySem.W.Frag} {ρ : List Addr} {H : Hp} {S : Sto} {n : Nat} {v : V} {ds : List D} (so : SOk K ρ H S) (h : RD K ρ H (.ref n) v) (e : S[n]? = some (O.lst ds)) : ∃ q vs, v = .ref q ∧ ρ[n]? = some q ∧ H q = some (.lst vs) ∧ RDs K ρ H ds vs := so.at h e
theorem ty_list {K : PySem.W.Frag} {H : Hp} {q : Addr} {vs : List V} (h : H q = some (.lst vs)) : tyV K "list" (.ref q) H := .inl ⟨rfl, vs, SqL.of h⟩
/-- base and line of a method's call -/
def baseOk (a : Expr) : Bool := match a with
  | .Name _ _ => true | .Subscript _ _ _ => true | .Tuple _ _ _ => true | .List _ _ => true | _ => false
theorem base_of (h : baseOk a = true) (nm : Str) (env : Env) : attributeBase a nm env (eval a env) = eval a env := by
  cases a <;> first | rfl | (simp [baseOk] at h)
theorem i_pop (hb : baseOk a = true) (hl : (apos.endLine == pos.line) = true) (ha : PE X a (tE X.K C ea)) : PE X (.Call (.Attribute a "pop" apos) [] [] pos) (tE X.K C (.pop ea)) :=
  (pe_bm0 PySem.F.plainAttrs_list PySem.F.slot_list_pop PySem.F.type_list_pop mt_pop ha (base_of hb _ _) hl).le fun σ H Qf ⟨ρ, S, η, d, S', re, so, run, post⟩ => by
    simp only [runE] at run
    obtain ⟨⟨da, S1⟩, e1, e2⟩ := Option.bind_eq_some_iff.mp run
    cases da with
    | ref n =>
      simp only at e2
      cases z : S1[n]? with
      | none => rw [z] at e2; cases e2
      | some o =>
        cases o with
        | lst ds =>
          rw [z] at e2
          obtain ⟨y, e3, e4⟩ := Option.map_eq_some_iff.mp e2
          cases e4
          refine ⟨ρ, S, η, _, S1, re, so, e1, fun v H1 ρ1 st r so1 => ?_⟩
          obtain ⟨q, vs, rfl, h1, h2, h3⟩ := rd_ref so1 r z
          obtain ⟨u, h4, h5⟩ := h3.get e3
          obtain ⟨so2, st2⟩ := so1.set z h1 h2 h3.dropLast (by have := so1.fit n ds z; rw [List.length_dropLast]; omega)
          exact ⟨ty_list h2, q, vs, u, rfl, rfl, h2, by rw [← h3.length]; exact h4, post _ _ ρ1 (st.trans st2) (RD.mono st2 so1.nt _ _ h5) so2⟩
    | _ => cases e2
theorem i_popAt (hb : baseOk a = true) (hl : (apos.endLine == pos.line) = true) (hs : unstar b = true) (ha : PE X a (tE X.K C ea)) (hbb : PE X b (tE X.K C eb)) : PE X (.Call (.Attribute a "pop" apos) [b] [] pos) (tE X.K C (.popAt ea eb)) :=
  (pe_bm PySem.F.plainAttrs_list PySem.F.slot_list_pop PySem.F.type_list_pop mt_popAt ha (pa_1 hs hbb) (base_of hb _ _) (few_of (by simpa using hs) (by simp) _ _) hl (one_star hs) rfl).le fun σ H Qf ⟨ρ, S, η, d, S', re, so, run, post⟩ => by
    simp only [runE] at run
    obtain ⟨⟨da, S1⟩, e1, e2⟩ := Option.bind_eq_some_iff.mp run
    obtain ⟨⟨db, S2⟩, e3, e4⟩ := Option.bind_eq_some_iff.mp e2
    cases da with
    | ref n =>
      cases db with
      | int i =>
        simp only at e4
        cases z : S2[n]? with
        | none => rw [z] at e4; cases e4
        | some o =>
          cases o with
          | lst ds =>
            rw [z] at e4
            simp only at e4
            split at e4
            · rename_i hi
              obtain ⟨y, e5, e6⟩ := Option.map_eq_some_iff.mp e4
              cases e6
              refine ⟨ρ, S, η, _, S1, re, so, e1, fun v H1 ρ1 st r so1 => ?_⟩
              have hv : tyV X.K "list" v H1 := by
                simp only [RD] at r
                obtain ⟨q, rfl, h1⟩ := r
                obtain ⟨vs, h2⟩ := so1.nt q (List.mem_of_getElem? h1)
                exact ty_list h2
              refine ⟨hv, ρ1, S1, η, _, _, re.mono st so.nt, so1, e3, fun u H2 ρ2 st2 r2 so2 => ?_⟩
              obtain ⟨q, vs, rfl, h1, h2, h3⟩ := rd_ref so2 (RD.mono st2 so1.nt _ _ r) z
              obtain ⟨w, h4, h5⟩ := h3.get e5
              obtain ⟨so3, st3⟩ := so2.set z h1 h2 (h3.eraseIdx i.toNat) (Nat.le_trans (len_erase _ _) (so2.fit n ds z))
              have hlt : i.toNat < vs.length := (List.getElem?_eq_some_iff.mp h4).1
              exact ⟨q, vs, i, i.toNat, w, rfl, by rw [rd_int r2], h2, by omega, by omega, PySem.StrLaws.seqIndex_nonneg hi.1 (by omega), h4, post _ _ ρ2 ((st.trans st2).trans st3) (RD.mono st3 so2.nt _ _ h5) so3⟩
            · cases e4
      | _ => cases e4
    | _ => cases e4
theorem i_append (hb : baseOk a = true) (hl : (apos.endLine == pos.line) = true) (hs : unstar b = true) (ha : PE X a (tE X.K C ea)) (hbb : PE X b (tE X.K C eb)) : PE X (.Call (.Attribute a "append" apos) [b] [] pos) (tE X.K C (.append ea eb)) :=
  (pe_bm PySem.F.plainAttrs_list PySem.F.slot_list_append PySem.F.type_list_append mt_append ha (pa_1 hs hbb) (base_of hb _ _) (few_of (by simpa using hs) (by simp) _ _) hl (one_star hs) rfl).le fun σ H Qf ⟨ρ, S, η, d, S', re, so, run, post⟩ => by
    simp only [runE] at run
    obtain ⟨⟨da, S1⟩, e1, e2⟩ := Option.bind_eq_some_iff.mp run
    obtain ⟨⟨db, S2⟩, e3, e4⟩ := Option.bind_eq_some_iff.mp e2
    cases da with
    | ref n =>
      simp only at e4
      cases z : S2[n]? with
      | none => rw [z] at e4; cases e4
      | some o =>
        cases o with
        | lst ds =>
          rw [z] at e4
          simp only at e4
          split at e4
          · rename_i hi
            cases e4
            refine ⟨ρ, S, η, _, S1, re, so, e1, fun v H1 ρ1 st r so1 => ?_⟩
            have hv : tyV X.K "list" v H1 := by
              simp only [RD] at r
              obtain ⟨q, rfl, h1⟩ := r
              obtain ⟨vs, h2⟩ := so1.nt q (List.mem_of_getElem? h1)
              exact ty_list h2
            refine ⟨hv, ρ1, S1, η, _, _, re.mono st so.nt, so1, e3, fun u H2 ρ2 st2 r2 so2 => ?_⟩
            obtain ⟨q, vs, rfl, h1, h2, h3⟩ := rd_ref so2 (RD.mono st2 so1.nt _ _ r) z
            obtain ⟨so3, st3⟩ := so2.set z h1 h2 (h3.append (.one r2)) (by rw [List.length_append]; exact hi)
            exact ⟨q, vs, u, rfl, rfl, h2, by rw [← h3.length]; exact hi, post _ _ ρ2 ((st.trans st2).trans st3) mk_non so3⟩
          · cases e4
    | _ => cases e4
theorem i_reverse (hb : baseOk a = true) (hl : (apos.endLine == pos.line) = true) (ha : PE X a (tE X.K C ea)) : PE X (.Call (.Attribute a "reverse" apos) [] [] pos) (tE X.K C (.reverse ea)) :=
  (pe_bm0 PySem.F.plainAttrs_list PySem.F.slot_list_reverse PySem.F.type_list_reverse mt_reverse ha (base_of hb _ _) hl).le fun σ H Qf ⟨ρ, S, η, d, S', re, so, run, post⟩ => by
    simp only [runE] at run
    obtain ⟨⟨da, S1⟩, e1, e2⟩ := Option.bind_eq_some_iff.mp run
    cases da with
    | ref n =>
      simp only at e2
      cases z : S1[n]? with
      | none => rw [z] at e2; cases e2
      | some o =>
        cases o with
        | lst ds =>
          rw [z] at e2
          cases e2
          refine ⟨ρ, S, η, _, S1, re, so, e1, fun v H1 ρ1 st r so1 => ?_⟩
          obtain ⟨q, vs, rfl, h1, h2, h3⟩ := rd_ref so1 r z
          obtain ⟨so2, st2⟩ := so1.set z h1 h2 h3.reverse (by have := so1.fit n ds z; rw [List.length_reverse]; omega)
          exact ⟨ty_list h2, q, vs, rfl, rfl, h2, post _ _ ρ1 (st.trans st2) mk_non so2⟩
    | _ => cases e2
/-- a list's kind, a tuple's kind -/
theorem ints_sq {K : PySem.W.Frag} {ρ : List Addr} {H : Hp} {ds : List D} {ns : List Int} {vs : List V} (r : RDs K ρ H ds vs) (e : toInts ds = some ns) : vs = ns.map V.int := r.ints e
theorem i_index (hb : baseOk a = true) (hl : (apos.endLine == pos.line) = true) (hs : unstar b = true) (ha : PE X a (tE X.K C ea)) (hbb : PE X b (tE X.K C eb)) : PE X (.Call (.Attribute a "index" apos) [b] [] pos) (tE X.K C (.index ea eb)) :=
  ((pe_tm PySem.F.slot_tuple_index PySem.F.type_tuple_index m_tindex ha (pa_1 hs hbb) (base_of hb _ _) hl (by simpa using hs) (by simp)).or
    (pe_bm PySem.F.plainAttrs_list PySem.F.slot_list_index PySem.F.type_list_index m_lindex ha (pa_1 hs hbb) (base_of hb _ _) (few_of (by simpa using hs) (by simp) _ _) hl (one_star hs) rfl)).le fun σ H Qf ⟨ρ, S, η, d, S', re, so, run, post⟩ => by
    simp only [runE] at run
    obtain ⟨⟨da, S1⟩, e1, e2⟩ := Option.bind_eq_some_iff.mp run
    obtain ⟨⟨db, S2⟩, e3, e4⟩ := Option.bind_eq_some_iff.mp e2
    cases da with
    | tup ds =>
      cases db with
      | int k =>
        obtain ⟨ns, e5, e6⟩ := Option.bind_eq_some_iff.mp e4
        split at e6
        · rename_i hk
          cases e6
          refine .inl ⟨ρ, S, η, _, S1, re, so, e1, fun v H1 ρ1 st r so1 => ?_⟩
          obtain ⟨q, vs, rfl, h1, h2⟩ := rd_tup r
          refine ⟨⟨q, vs, rfl, h1⟩, ρ1, S1, η, _, S2, re.mono st so.nt, so1, e3, fun u H2 ρ2 st2 r2 so2 => ?_⟩
          have h3 := h2.ints e5
          subst h3
          exact ⟨q, ns, k, rfl, by rw [rd_int r2], (st2.tupAt so1.nt h1).sq, hk, (AfE.trans (AfE.trans post st) st2).now mk_int so2⟩
        · cases e6
      | _ => cases e4
    | ref n =>
      cases db with
      | int k =>
        simp only at e4
        cases z : S2[n]? with
        | none => rw [z] at e4; cases e4
        | some o =>
          cases o with
          | lst ds =>
            rw [z] at e4
            obtain ⟨ns, e5, e6⟩ := Option.bind_eq_some_iff.mp e4
            split at e6
            · rename_i hk
              cases e6
              refine .inr ⟨ρ, S, η, _, S1, re, so, e1, fun v H1 ρ1 st r so1 => ?_⟩
              have hv : tyV X.K "list" v H1 := by
                have r' := r
                simp only [RD] at r'
                obtain ⟨q, rfl, h1⟩ := r'
                obtain ⟨vs, h2⟩ := so1.nt q (List.mem_of_getElem? h1)
                exact ty_list h2
              refine ⟨hv, ρ1, S1, η, _, _, re.mono st so.nt, so1, e3, fun u H2 ρ2 st2 r2 so2 => ?_⟩
              obtain ⟨q, vs, rfl, h1, h2, h3⟩ := rd_ref so2 (RD.mono st2 so1.nt _ _ r) z
              have h4 := h3.ints e5
              subst h4
              exact ⟨q, ns, k, rfl, by rw [rd_int r2], SqL.of h2, hk, (AfE.trans (AfE.trans post st) st2).now mk_int so2⟩
            · cases e6
      | _ => cases e4
    | _ => cases e4
theorem i_count (hb : baseOk a = true) (hl : (apos.endLine == pos.line) = true) (hs : unstar b = true) (ha : PE X a (tE X.K C ea)) (hbb : PE X b (tE X.K C eb)) : PE X (.Call (.Attribute a "count" apos) [b] [] pos) (tE X.K C (.count ea eb)) :=
  ((pe_tm PySem.F.slot_tuple_count PySem.F.type_tuple_count m_tcount ha (pa_1 hs hbb) (base_of hb _ _) hl (by simpa using hs) (by simp)).or
    (pe_bm PySem.F.plainAttrs_list PySem.F.slot_list_count PySem.F.type_list_count mt_lcount ha (pa_1 hs hbb) (base_of hb _ _) (few_of (by simpa using hs) (by simp) _ _) hl (one_star hs) rfl)).le fun σ H Qf ⟨ρ, S, η, d, S', re, so, run, post⟩ => by
    simp only [runE] at run
    obtain ⟨⟨da, S1⟩, e1, e2⟩ := Option.bind_eq_some_iff.mp run
    obtain ⟨⟨db, S2⟩, e3, e4⟩ := Option.bind_eq_some_iff.mp e2
    cases da with
    | tup ds =>
      cases db with
      | int k =>
        obtain ⟨ns, e5, e6⟩ := Option.map_eq_some_iff.mp e4
        cases e6
        refine .inl ⟨ρ, S, η, _, S1, re, so, e1, fun v H1 ρ1 st r so1 => ?_⟩
        obtain ⟨q, vs, rfl, h1, h2⟩ := rd_tup r
        refine ⟨⟨q, vs, rfl, h1⟩, ρ1, S1, η, _, S2, re.mono st so.nt, so1, e3, fun u H2 ρ2 st2 r2 so2 => ?_⟩
        have h3 := h2.ints e5
        subst h3
        exact ⟨q, ns, k, rfl, by rw [rd_int r2], (st2.tupAt so1.nt h1).sq, (AfE.trans (AfE.trans post st) st2).now mk_int so2⟩
      | _ => cases e4
    | ref n =>
      cases db with
      | int k =>
        simp only at e4
        cases z : S2[n]? with
        | none => rw [z] at e4; cases e4
        | some o =>
          cases o with
          | lst ds =>
            rw [z] at e4
            obtain ⟨ns, e5, e6⟩ := Option.map_eq_some_iff.mp e4
            cases e6
            refine .inr ⟨ρ, S, η, _, S1, re, so, e1, fun v H1 ρ1 st r so1 => ?_⟩
            have hv : tyV X.K "list" v H1 := by
              have r' := r
              simp only [RD] at r'
              obtain ⟨q, rfl, h1⟩ := r'
              obtain ⟨vs, h2⟩ := so1.nt q (List.mem_of_getElem? h1)
              exact ty_list h2
            refine ⟨hv, ρ1, S1, η, _, _, re.mono st so.nt, so1, e3, fun u H2 ρ2 st2 r2 so2 => ?_⟩
            obtain ⟨q, vs, rfl, h1, h2, h3⟩ := rd_ref so2 (RD.mono st2 so1.nt _ _ r) z
            have h4 := h3.ints e5
            subst h4
            exact ⟨q, ns, k, rfl, by rw [rd_int r2], SqL.of h2, (AfE.trans (AfE.trans post st) st2).now mk_int so2⟩
      | _ => cases e4
    | _ => cases e4
theorem i_index2 (hb : baseOk a = true) (hl : (apos.endLine == pos.line) = true) (hs : unstar b = true) (hs2 : unstar c = true) (ha : PE X a (tE X.K C ea)) (hbb : PE X b (tE X.K C eb)) (hcc : PE X c (tE X.K C ec)) :
    PE X (.Call (.Attribute a "index" apos) [b, c] [] pos) (tE X.K C (.index2 ea eb ec)) :=
  (pe_tm PySem.F.slot_tuple_index PySem.F.type_tuple_index m_tindex2 ha (pa_cons hbb (pa_1 hs2 hcc) (star_cons hs _ _)) (base_of hb _ _) hl (by simp [hs, hs2]) (by simp)).le fun σ H Qf ⟨ρ, S, η, d, S', re, so, run, post⟩ => by
    simp only [runE] at run
    obtain ⟨⟨da, S1⟩, e1, e2⟩ := Option.bind_eq_some_iff.mp run
    obtain ⟨⟨db, S2⟩, e3, e4⟩ := Option.bind_eq_some_iff.mp e2
    obtain ⟨⟨dc, S3⟩, e5, e6⟩ := Option.bind_eq_some_iff.mp e4
    cases da with
    | tup ds =>
      cases db with
      | int k =>
        cases dc with
        | int m =>
          obtain ⟨ns, e7, e8⟩ := Option.bind_eq_some_iff.mp e6
          split at e8
          · rename_i hk
            cases e8
            refine ⟨ρ, S, η, _, S1, re, so, e1, fun v H1 ρ1 st r so1 => ?_⟩
            obtain ⟨q, vs, rfl, h1, h2⟩ := rd_tup r
            refine ⟨⟨q, vs, rfl, h1⟩, ρ1, S1, η, _, S2, re.mono st so.nt, so1, e3, fun u H2 ρ2 st2 r2 so2 => ⟨ρ2, S2, η, _, S3, (re.mono st so.nt).mono st2 so1.nt, so2, e5, fun w H3 ρ3 st3 r3 so3 => ?_⟩⟩
            have h3 := h2.ints e7
            subst h3
            exact ⟨q, ns, k, m, rfl, by rw [rd_int r2, rd_int r3], (st3.tupAt so2.nt (st2.tupAt so1.nt h1)).sq, hk.1, hk.2.2, (AfE.trans (AfE.trans (AfE.trans post st) st2) st3).now mk_int so3⟩
          · cases e8
        | _ => cases e6
      | _ => cases e6
    | _ => cases e6
end
end Ol
set_option Elab.async false
set_option linter.all false
set_option maxRecDepth 100000
set_option maxHeartbeats 2000000
namespace Ol
open PySem PySem.Spec PyProof.Rows L2
section
variable {X : Cx} {C : Nat → List D → Sto → Option (D × Sto)} {a b c d : Expr} {ea eb ec ed : E} {qa qb : Q} {pos p : Pos}
/-! ## lists joined, repeated, of ranges -/
theorem QP.later {K : PySem.W.Frag} {ρ1 ρ2 : List Addr} {H0 H1 H2 : Hp} {S1 S2 : Sto} {x : Qv} {v : V} {ds : List D} (h : QP K ρ1 H0 H1 x v) (so1 : SOk K ρ1 H1 S1) (st : Step ρ1 H1 ρ2 H2) (so2 : SOk K ρ2 H2 S2) (e : asL S2 x = some ds) :
    ∃ l xs, v = .ref l ∧ H2 l = some (.lst xs) ∧ RDs K ρ2 H2 ds xs ∧ ds.length ≤ sizeLine := by
  cases x with
  | new es =>
    simp only [asL] at e
    cases e
    obtain ⟨z, l, xs, rfl, h1, h2, h3, _⟩ := h
    exact ⟨l, xs, rfl, st.keep _ _ h1 h3, RDs.mono st so1.nt _ _ h2, z⟩
  | val dd =>
    cases dd with
    | ref n =>
      simp only [asL] at e
      cases z : S2[n]? with
      | none => rw [z] at e; cases e
      | some o =>
        cases o with
        | lst es =>
          rw [z] at e
          cases e
          obtain ⟨q, vs, rfl, _, h1, h2⟩ := so2.at (RD.mono st so1.nt _ _ h) z
          exact ⟨q, vs, rfl, h1, h2, so2.fit n ds z⟩
    | _ => simp [asL] at e
theorem q_cat (ha : PE X a (tQ X.K C qa)) (hb : PE X b (tQ X.K C qb)) : PE X (.BinOp a .Add b pos) (tQ X.K C (.cat qa qb)) :=
  (pe_op op_cat ha hb).le fun σ H Qf ⟨ρ, S, η, x, S', re, so, run, post⟩ => by
    simp only [runQ] at run
    obtain ⟨⟨xa, S1⟩, e1, e2⟩ := Option.bind_eq_some_iff.mp run
    obtain ⟨⟨xb, S2⟩, e3, e4⟩ := Option.bind_eq_some_iff.mp e2
    obtain ⟨ds, e5, e6⟩ := Option.bind_eq_some_iff.mp e4
    obtain ⟨es, e7, e8⟩ := Option.bind_eq_some_iff.mp e6
    split at e8
    · rename_i hz
      cases e8
      refine ⟨ρ, S, η, xa, S1, re, so, e1, fun v H1 ρ1 st r so1 => ⟨ρ1, S1, η, xb, _, re.mono st so.nt, so1, e3, fun u H2 ρ2 st2 r2 so2 => ?_⟩⟩
      obtain ⟨l, xs, rfl, h1, h2, _⟩ := QP.later r so1 st2 so2 e5
      obtain ⟨m, ys, rfl, h3, h4, _⟩ := QP.later r2 so2 (Step.refl _ _) so2 e7
      exact ⟨l, m, xs, ys, rfl, rfl, h1, h3, by rw [← h2.length, ← h4.length]; exact hz, fun q hq => AfQ.newL post (st.trans st2) so2 (h2.append h4) (by rw [List.length_append]; exact hz) hq⟩
    · cases e8
theorem q_rep (ha : PE X a (tQ X.K C qa)) (hb : PE X b (tE X.K C eb)) : PE X (.BinOp a .Mult b pos) (tQ X.K C (.rep qa eb)) :=
  (pe_op op_rep ha hb).le fun σ H Qf ⟨ρ, S, η, x, S', re, so, run, post⟩ => by
    simp only [runQ] at run
    obtain ⟨⟨xa, S1⟩, e1, e2⟩ := Option.bind_eq_some_iff.mp run
    obtain ⟨⟨db, S2⟩, e3, e4⟩ := Option.bind_eq_some_iff.mp e2
    obtain ⟨ds, e5, e6⟩ := Option.bind_eq_some_iff.mp e4
    cases db with
    | int k =>
      simp only at e6
      split at e6
      · rename_i hz
        cases e6
        refine ⟨ρ, S, η, xa, S1, re, so, e1, fun v H1 ρ1 st r so1 => ⟨ρ1, S1, η, _, _, re.mono st so.nt, so1, e3, fun u H2 ρ2 st2 r2 so2 => ?_⟩⟩
        obtain ⟨l, xs, rfl, h1, h2, _⟩ := QP.later r so1 st2 so2 e5
        refine ⟨l, k, xs, rfl, rd_int r2, h1, hz.1, hz.2.1, by rw [← h2.length]; exact hz.2.2, fun q hq => AfQ.newL post (st.trans st2) so2 (h2.rep _) ?_ hq⟩
        have e : (List.replicate k.toNat ds).flatten.length = k.toNat * ds.length := PyProof.Rows.lm_len_rep_flat _ _
        rw [e, Nat.mul_comm]
        exact hz.2.2
      · cases e6
    | _ => cases e6
/-! ## what is walked -/
def Src (K : PySem.W.Frag) (J : L2.It) (ρ : List Addr) (H : Hp) (ds : List D) : Prop := ∀ ρ' H', Step ρ H ρ' H' → (∀ (k : Nat) (d : D), ds[k]? = some d → J.go k H' ∧ ∀ x H'', J.yld k H' x H'' → H'' = H' ∧ RD K ρ' H' d x) ∧ J.stop ds.length H'
def IrP (K : PySem.W.Frag) (J : L2.It) (ρ : List Addr) (H : Hp) : Ir → Prop
  | .sta ds => ds.length ≤ sizeLine ∧ Src K J ρ H ds
  | .dyn n => ∃ q, ρ[n]? = some q ∧ J = Itl K q
def tI (K : PySem.W.Frag) (C : Nat → List D → Sto → Option (D × Sto)) (it : It) : TI := fun σ H R => ∃ ρ S η i S', RE K ρ H σ η ∧ SOk K ρ H S ∧ runI C it η S = some (i, S') ∧ ∀ J H' ρ', Step ρ H ρ' H' → SOk K ρ' H' S' → IrP K J ρ' H' i → R J H'
theorem rangeD_len (lo : Int) (n : Nat) : (rangeD lo n).length = n := by simp [rangeD]
theorem src_range {K : PySem.W.Frag} {ρ : List Addr} {H : Hp} (lo : Int) (n : Nat) : Src K (Itr lo n) ρ H (rangeD lo n) := fun ρ' H' _ => by
  refine ⟨fun k d e => ?_, ?_⟩
  · have hk : k < n := by
      have := (List.getElem?_eq_some_iff.mp e).1
      rwa [rangeD_len] at this
    refine ⟨hk, fun x H'' y => ?_⟩
    obtain ⟨e1, e2⟩ := y
    subst e1 e2
    unfold rangeD at e
    rw [List.getElem?_map, List.getElem?_range hk] at e
    cases e
    exact ⟨rfl, mk_int⟩
  · rw [rangeD_len]; exact Nat.le_refl n
theorem src_list {K : PySem.W.Frag} {ρ : List Addr} {H : Hp} {q : Addr} {vs : List V} {ds : List D} (nt : NT ρ H) (h : ∀ ρ' H', Step ρ H ρ' H' → SqL K H' q vs) (r : RDs K ρ H ds vs) : Src K (Itl K q) ρ H ds := fun ρ' H' st => by
  have hs := h ρ' H' st
  have r' := RDs.mono st nt _ _ r
  refine ⟨fun k d e => ?_, ⟨vs, hs, by rw [r.length]; exact Nat.le_refl _⟩⟩
  obtain ⟨v, h1, h2⟩ := r'.get e
  refine ⟨⟨vs, v, hs, h1⟩, fun x H'' y => ?_⟩
  obtain ⟨e1, e2⟩ := y
  subst e1
  have := e2 vs hs
  rw [h1] at this
  cases this
  exact ⟨rfl, h2⟩
theorem src_tup {K : PySem.W.Frag} {ρ : List Addr} {H : Hp} {q : Addr} {vs : List V} {ds : List D} (nt : NT ρ H) (h : TupAt H q vs) (r : RDs K ρ H ds vs) : Src K (Itt K q) ρ H ds := fun ρ' H' st => by
  have hs : SqT K H' q vs := (st.tupAt nt h).sq
  have r' := RDs.mono st nt _ _ r
  refine ⟨fun k d e => ?_, ⟨vs, hs, by rw [r.length]; exact Nat.le_refl _⟩⟩
  obtain ⟨v, h1, h2⟩ := r'.get e
  refine ⟨⟨vs, v, hs, h1⟩, fun x H'' y => ?_⟩
  obtain ⟨e1, e2⟩ := y
  subst e1
  have := e2 vs hs
  rw [h1] at this
  cases this
  exact ⟨rfl, h2⟩
variable {tg : Expr}
theorem n_rng1 (hs : unstar a = true) (hg : Gl X "range") (hm : X.mg "range" = none) (ha : PE X a (tE X.K C ea)) : PI X tg (.Call (.Name "range" p) [a] [] pos) (tI X.K C (.rng1 ea)) :=
  (pi_range1 hg hm (pa_1 hs ha) (one_star hs)).le fun σ H R ⟨ρ, S, η, i, S', re, so, run, post⟩ => by
    simp only [runI] at run
    obtain ⟨⟨da, S1⟩, e1, e2⟩ := Option.bind_eq_some_iff.mp run
    cases da with
    | int j =>
      simp only at e2
      split at e2
      · rename_i hj
        cases e2
        have hsz := sizeLine_eq
        exact ⟨ρ, S, η, _, _, re, so, e1, fun v H1 ρ1 st r so1 => ⟨j, by rw [rd_int r], hj.1, by omega, post _ _ ρ1 st so1 ⟨by rw [rangeD_len]; omega, src_range 0 j.toNat⟩⟩⟩
      · cases e2
    | _ => cases e2
theorem n_rng2 (hs : unstar a = true) (hs2 : unstar b = true) (hg : Gl X "range") (hm : X.mg "range" = none) (ha : PE X a (tE X.K C ea)) (hb : PE X b (tE X.K C eb)) : PI X tg (.Call (.Name "range" p) [a, b] [] pos) (tI X.K C (.rng2 ea eb)) :=
  (pi_range2 hg hm (pa_cons ha (pa_1 hs2 hb) (star_cons hs _ _)) (by rw [star_cons hs, one_star hs2]; rfl) (one_star hs2)).le fun σ H R ⟨ρ, S, η, i, S', re, so, run, post⟩ => by
    simp only [runI] at run
    obtain ⟨⟨da, S1⟩, e1, e2⟩ := Option.bind_eq_some_iff.mp run
    obtain ⟨⟨db, S2⟩, e3, e4⟩ := Option.bind_eq_some_iff.mp e2
    cases da with
    | int i =>
      cases db with
      | int j =>
        simp only at e4
        split at e4
        · rename_i hj
          cases e4
          exact ⟨ρ, S, η, _, _, re, so, e1, fun v H1 ρ1 st r so1 => ⟨ρ1, S1, η, _, _, re.mono st so.nt, so1, e3, fun u H2 ρ2 st2 r2 so2 => ⟨i, j, by rw [rd_int r, rd_int r2], ⟨by omega, by omega, by omega, by omega⟩, post _ _ ρ2 (st.trans st2) so2 ⟨by rw [rangeD_len]; omega, src_range i (j - i).toNat⟩⟩⟩⟩
        · cases e4
      | _ => cases e4
    | _ => cases e4
theorem n_seq (ha : PE X a (tQ X.K C qa)) : PI X tg a (tI X.K C (.seq qa)) :=
  ((pi_list ha).or (pi_tup ha)).le fun σ H R ⟨ρ, S, η, i, S', re, so, run, post⟩ => by
    simp only [runI] at run
    obtain ⟨⟨x, S1⟩, e1, e2⟩ := Option.bind_eq_some_iff.mp run
    cases x with
    | new ds =>
      cases e2
      refine .inl ⟨ρ, S, η, _, _, re, so, e1, fun v H1 ρ1 st r so1 => ?_⟩
      obtain ⟨z, q, vs, rfl, h1, h2, h3, _⟩ := r
      exact ⟨q, rfl, ⟨vs, SqL.of h1⟩, post _ _ ρ1 st so1 ⟨z, src_list so1.nt (fun ρ' H' st' => SqL.of (st'.keep _ _ h1 h3)) h2⟩⟩
    | val dd =>
      cases dd with
      | tup ds =>
        cases e2
        refine .inr ⟨ρ, S, η, _, _, re, so, e1, fun v H1 ρ1 st r so1 => ?_⟩
        have z := rd_few (show RD X.K ρ1 H1 (.tup ds) v from r)
        obtain ⟨q, vs, rfl, h1, h2⟩ := rd_tup (show RD X.K ρ1 H1 (.tup ds) v from r)
        exact ⟨q, rfl, ⟨vs, h1.sq⟩, post _ _ ρ1 st so1 ⟨z, src_tup so1.nt h1 h2⟩⟩
      | frl ds =>
        cases e2
        refine .inl ⟨ρ, S, η, _, _, re, so, e1, fun v H1 ρ1 st r so1 => ?_⟩
        simp only [QP, RD] at r
        obtain ⟨z, q, vs, rfl, h1, h2⟩ := r
        exact ⟨q, rfl, ⟨vs, h1.sq⟩, post _ _ ρ1 st so1 ⟨z, src_list so1.nt (fun ρ' H' st' => (st'.rl so1.nt h1).sq) h2⟩⟩
      | ref n =>
        cases e2
        refine .inl ⟨ρ, S, η, _, _, re, so, e1, fun v H1 ρ1 st r so1 => ?_⟩
        simp only [QP, RD] at r
        obtain ⟨q, rfl, h1⟩ := r
        obtain ⟨vs, h2⟩ := so1.nt q (List.mem_of_getElem? h1)
        exact ⟨q, rfl, ⟨vs, SqL.of h2⟩, post _ _ ρ1 st so1 ⟨q, h1, rfl⟩⟩
      | _ => cases e2
/-- list(range(..)) -/
theorem vals_rgV (lo : Int) (n : Nat) : ∀ {K : PySem.W.Frag} {ρ : List Addr} {H : Hp}, RDs K ρ H (rangeD lo n) ((List.range n).map fun i => V.int (lo + (i : Nat))) := by
  intro K ρ H
  refine RDs.of_get (by simp [rangeD]) fun i d v e1 e2 => ?_
  unfold rangeD at e1
  rw [List.getElem?_map] at e1 e2
  obtain ⟨k, h1, h2⟩ := Option.map_eq_some_iff.mp e1
  obtain ⟨k2, h3, h4⟩ := Option.map_eq_some_iff.mp e2
  rw [h1] at h3
  cases h3
  subst h2 h4
  exact mk_int
theorem q_lr1 {p2 pos2 : Pos} (hc : X.calm = true) (hs : unstar a = true) (hg0 : Gl X "list") (hm0 : X.mg "list" = none) (hg : Gl X "range") (hm : X.mg "range" = none) (ha : PE X a (tE X.K C ea)) :
    PE X (.Call (.Name "list" p) [.Call (.Name "range" p2) [a] [] pos2] [] pos) (tQ X.K C (.listRng (.rng1 ea))) :=
  (pe_listRg hc hg0 hm0 (prg_1 hg hm ha (one_star hs)) (star_cons rfl _ _)).le fun σ H Qf ⟨ρ, S, η, x, S', re, so, run, post⟩ => by
    simp only [runQ, runI] at run
    obtain ⟨⟨i, S2⟩, e0, e9⟩ := Option.bind_eq_some_iff.mp run
    obtain ⟨⟨da, S1⟩, e1, e2⟩ := Option.bind_eq_some_iff.mp e0
    cases da with
    | int j =>
      simp only at e2
      split at e2
      · rename_i hj
        cases e2
        cases e9
        have hsz := sizeLine_eq
        refine ⟨ρ, S, η, _, _, re, so, e1, fun v H1 ρ1 st r so1 => ⟨j, rd_int r, ⟨by omega, by omega, by omega, by omega, by omega⟩, fun q hq => ?_⟩⟩
        have e : rgV 0 j = (List.range j.toNat).map fun i => V.int (0 + (i : Nat)) := by
          unfold rgV
          rw [Int.sub_zero]
        rw [e]
        exact AfQ.newL post st so1 (vals_rgV 0 j.toNat) (by rw [rangeD_len]; omega) hq
      · cases e2
    | _ => cases e2
end
end Ol
set_option Elab.async false
set_option linter.all false
set_option maxRecDepth 100000
set_option maxHeartbeats 2000000
namespace Ol
open PySem PySem.Spec PyProof.Rows L2
section
variable {X : Cx} {C : Nat → List D → Sto → Option (D × Sto)} {a b c d : Expr} {ea eb ec ed : E} {qa qb : Q} {pos p : Pos} {K : PySem.W.Frag} {ρ ρ' : List Addr} {H H' : Hp} {S : Sto}
/-! ## targets of loops -/
def gMany : List Nat → TGs
  | [] => gNil | i :: is => gCons (gName i) (gMany is)
def gT (K : PySem.W.Frag) : Tgt → TG
  | .one i => gName i | .many is => gTup K is.length (gMany is)
theorem setAll_len : ∀ {is : List Nat} {ds : List D} {η η' : En}, setAll η is ds = some η' → ds.length = is.length ∧ η'.length = η.length
  | [], [], η, η', h => by simp only [setAll] at h; cases h; exact ⟨rfl, rfl⟩
  | i :: is, d :: ds, η, η', h => by
    simp only [setAll] at h
    obtain ⟨h1, h2⟩ := setAll_len h
    exact ⟨by simp [h1], by simpa using h2⟩
  | [], _ :: _, _, _, h => by simp [setAll] at h
  | _ :: _, [], _, _, h => by simp [setAll] at h
/-- the slots that a target leaves alone -/
def OffAll (is : List Nat) (σ σ' : L2.St) : Prop := σ'.length = σ.length ∧ ∀ j, j ∉ is → σ'[j]? = σ[j]?
theorem gMany_of : ∀ {is : List Nat} {ds : List D} {vs : List V} {σ : L2.St} {η η' : En} {Qf : L2.St → Hp → Prop}, setAll η is ds = some η' → RDs K ρ H ds vs → RE K ρ H σ η → (∀ σ', RE K ρ H σ' η' → OffAll is σ σ' → Qf σ' H) → gMany is vs σ H Qf
  | [], [], vs, σ, η, η', Qf, h, r, re, q => by
    simp only [setAll] at h
    cases h
    simp only [RDs] at r
    subst r
    exact ⟨rfl, q σ re ⟨rfl, fun _ _ => rfl⟩⟩
  | i :: is, d :: ds, vs, σ, η, η', Qf, h, r, re, q => by
    simp only [setAll] at h
    simp only [RDs] at r
    obtain ⟨v, t, rfl, h1, h2⟩ := r
    refine ⟨v, t, rfl, ?_⟩
    show gMany is t (σ.set i (some v)) H Qf
    refine gMany_of h h2 (re.set i h1) fun σ' re' off => q σ' re' ⟨by rw [off.1]; simp, fun j hj => ?_⟩
    rw [List.mem_cons, not_or] at hj
    rw [off.2 j hj.2, List.getElem?_set_ne (fun e => hj.1 e.symm)]
  | [], _ :: _, _, _, _, _, _, h, _, _, _ => by simp [setAll] at h
  | _ :: _, [], _, _, _, _, _, h, _, _, _ => by simp [setAll] at h
theorem gT_of {l : Tgt} {x : D} {v : V} {σ : L2.St} {η η' : En} {Qf : L2.St → Hp → Prop} (h : bindT l x η = some η') (r : RD K ρ H x v) (re : RE K ρ H σ η) (q : ∀ σ', RE K ρ H σ' η' → OffAll l.slots σ σ' → Qf σ' H) : gT K l v σ H Qf := by
  cases l with
  | one i =>
    simp only [bindT] at h
    cases h
    exact q _ (re.set i r) ⟨by simp, fun j hj => List.getElem?_set_ne (fun e => hj (by simp [Tgt.slots, e]))⟩
  | many is =>
    cases x with
    | tup ds =>
      simp only [bindT] at h
      obtain ⟨p, vs, rfl, h1, h2⟩ := rd_tup r
      exact ⟨p, vs, rfl, h1.sq, by rw [← h2.length]; exact (setAll_len h).1, gMany_of h h2 re q⟩
    | _ => simp [bindT] at h
theorem wipe_get : ∀ (σ : L2.St) (vs : List Nat) (j : Nat), (wipe σ vs)[j]? = if j ∈ vs ∧ j < σ.length then some none else σ[j]?
  | σ, [], j => by simp [wipe]
  | σ, v :: vs, j => by
    unfold wipe
    by_cases hj : v = j
    · subst hj
      by_cases hl : v < σ.length
      · rw [List.getElem?_set_self (by rw [wipe_length]; exact hl)]
        simp [hl]
      · rw [List.getElem?_eq_none (by rw [List.length_set, wipe_length]; omega), List.getElem?_eq_none (by omega)]
        simp [hl]
    · rw [List.getElem?_set_ne hj, wipe_get σ vs j]
      have : (j ∈ v :: vs) ↔ j ∈ vs := by simp [Ne.symm hj]
      simp only [this]
theorem off_wipe {is : List Nat} {σ σ' : L2.St} (h : OffAll is σ σ') : wipe σ' is = wipe σ is := by
  apply List.ext_getElem?
  intro j
  rw [wipe_get, wipe_get, h.1]
  by_cases hj : j ∈ is
  · by_cases hl : j < σ.length
    · simp [hj, hl]
    · rw [if_neg (by simp [hl]), if_neg (by simp [hl]), List.getElem?_eq_none (by rw [h.1]; omega), List.getElem?_eq_none (by omega)]
  · simp only [hj, false_and, if_false]
    exact h.2 j hj
theorem wipe_wipe (σ : L2.St) (is : List Nat) : wipe (wipe σ is) is = wipe σ is := off_wipe ⟨wipe_length σ is, fun j hj => by rw [wipe_get]; simp [hj]⟩
theorem RE.wipe {σ : L2.St} {η : En} (re : RE K ρ H σ η) : ∀ is : List Nat, RE K ρ H (L2.wipe σ is) (wipeD η is)
  | [] => re
  | v :: vs => by
    have ih := RE.wipe re vs
    refine ⟨by simpa [L2.wipe, wipeD] using ih.len, fun j d h => ?_⟩
    unfold wipeD at h
    unfold L2.wipe
    by_cases hj : v = j
    · subst hj
      have hl : v < (wipeD η vs).length := by
        have := (List.getElem?_eq_some_iff.mp h).1
        simpa using this
      rw [List.getElem?_set_self hl] at h
      cases h
    · rw [List.getElem?_set_ne hj] at h ⊢
      exact ih.get j d h
/-! ## targets of assignments -/
theorem l_nm {i : Nat} {x : Str} (hN : X.N.Nodup) (hi : X.N[i]? = some x) (hx : Loc X.env.scope x) (hf : X.fn x = true ∨ X.env.scope.names.lookup x = some .local) : PG X (.Name x pos) (tL X.K C (.nm i)) :=
  (pg_name hN hi hx hf).le fun v σ H Qf ⟨ρ, S, η, d, η', S', re, so, r, run, post⟩ => by
    simp only [runL] at run
    cases run
    exact post _ H ρ (Step.refl _ _) (re.set i r) so
theorem l_sub (ha : PE X a (tE X.K C ea)) (hb : PE X b (tE X.K C eb)) (hsl : ∀ v, assign (.Subscript a b pos) X.env v = (do
      let ov ← holding [v] (eval a X.env)
      let iv ← holding [v, ov] (eval b X.env)
      standAt pos
      holding [v, ov, iv] (setItem ov iv v)
      release [v, ov, iv] [])) : PG X (.Subscript a b pos) (tL X.K C (.sub ea eb)) :=
  (pg_sub ha hb set_list hsl).le fun v σ H Qf ⟨ρ, S, η, d, η', S', re, so, r, run, post⟩ => by
    simp only [runL] at run
    obtain ⟨⟨da, S1⟩, e1, e2⟩ := Option.bind_eq_some_iff.mp run
    obtain ⟨⟨db, S2⟩, e3, e4⟩ := Option.bind_eq_some_iff.mp e2
    cases da with
    | ref n =>
      cases db with
      | int k =>
        simp only at e4
        cases z : S2[n]? with
        | none => rw [z] at e4; cases e4
        | some o =>
          cases o with
          | lst ds =>
            rw [z] at e4
            obtain ⟨j, e5, e6⟩ := Option.map_eq_some_iff.mp e4
            cases e6
            refine ⟨ρ, S, η, _, S1, re, so, e1, fun o H1 ρ1 st r1 so1 => ⟨ρ1, S1, η, _, S2, re.mono st so.nt, so1, e3, fun i H2 ρ2 st2 r2 so2 => ?_⟩⟩
            obtain ⟨q, vs, rfl, h1, h2, h3⟩ := rd_ref so2 (RD.mono st2 so1.nt _ _ r1) z
            have rv : RD X.K ρ2 H2 d v := RD.mono st2 so1.nt _ _ (RD.mono st so.nt _ _ r)
            obtain ⟨so3, st3⟩ := so2.set z h1 h2 (h3.set j rv) (by rw [List.length_set]; exact so2.fit n ds z)
            exact ⟨q, vs, k, j, rfl, rd_int r2, h2, by rw [← h3.length]; exact e5, post σ _ ρ2 ((st.trans st2).trans st3) (((re.mono st so.nt).mono st2 so1.nt).mono st3 so2.nt) so3⟩
      | _ => cases e4
    | _ => cases e4
theorem ls_nil : PGs X [] (tLs X.K C .nil) := pgs_nil.le fun vs σ H Qf ⟨ρ, S, η, ds, η', S', re, so, r, run, post⟩ => by
  cases ds with
  | nil =>
    simp only [runLs] at run
    cases run
    simp only [RDs] at r
    exact ⟨r, post σ H ρ (Step.refl _ _) re so⟩
  | cons _ _ => simp [runLs] at run
theorem as_cons {e : Expr} {es : List Expr} {env : Env} (h : unstar e = true) : assignEach (e :: es) env = (false, assign e env) :: assignEach es env := by
  cases e <;> first | rfl | (simp [unstar] at h)
theorem ls_cons {e : Expr} {es : List Expr} {l : Lh} {ls : Lhs} (hs : unstar e = true) (h1 : PG X e (tL X.K C l)) (h2 : PGs X es (tLs X.K C ls)) : PGs X (e :: es) (tLs X.K C (.cons l ls)) :=
  (pgs_cons h1 h2 (by rw [as_cons hs]; rfl)).le fun vs σ H Qf ⟨ρ, S, η, ds, η', S', re, so, r, run, post⟩ => by
    cases ds with
    | nil => simp [runLs] at run
    | cons d ds =>
      simp only [runLs] at run
      obtain ⟨⟨η1, S1⟩, e1, e2⟩ := Option.bind_eq_some_iff.mp run
      simp only [RDs] at r
      obtain ⟨v, t, rfl, r1, r2⟩ := r
      refine ⟨v, t, rfl, ρ, S, η, d, η1, S1, re, so, r1, e1, fun σ1 H1 ρ1 st re1 so1 => ⟨ρ1, S1, η1, ds, η', S', re1, so1, RDs.mono st so.nt _ _ r2, e2, fun σ2 H2 ρ2 st2 re2 so2 => post σ2 H2 ρ2 (st.trans st2) re2 so2⟩⟩
theorem as_len : ∀ {es : List Expr} {env : Env}, es.all unstar = true → (assignEach es env).length = es.length ∧ (assignEach es env).findIdx? (·.1) = none
  | [], _, _ => ⟨rfl, rfl⟩
  | e :: es, env, h => by
    rw [List.all_cons, Bool.and_eq_true] at h
    obtain ⟨h1, h2⟩ := as_len (env := env) h.2
    rw [as_cons h.1]
    refine ⟨by simp [h1], ?_⟩
    rw [List.findIdx?_cons, h2]
    rfl
theorem l_tup {es : List Expr} {k : Nat} {ls : Lhs} (hc : X.calm = true) (hs : es.all unstar = true) (h : PGs X es (tLs X.K C ls)) (hn : ∀ {ds η S r}, runLs C ls ds η S = some r → ds.length = es.length) : PG X (.Tuple es k pos) (tL X.K C (.tup ls)) :=
  (pg_tup (n := es.length) hc h (as_len hs).1 (as_len hs).2).le fun v σ H Qf ⟨ρ, S, η, d, η', S', re, so, r, run, post⟩ => by
    simp only [runL] at run
    cases d with
    | tup ds =>
      obtain ⟨q, vs, rfl, h1, h2⟩ := rd_tup r
      exact ⟨q, vs, rfl, h1.sq, by rw [← h2.length]; exact hn run, ρ, S, η, ds, η', S', re, so, h2, run, post⟩
    | _ => cases run
def Lhs.len : Lhs → Nat
  | .nil => 0 | .cons _ ls => ls.len + 1
theorem runLs_len : ∀ {ls : Lhs} {ds : List D} {η : En} {S : Sto} {r : En × Sto}, runLs C ls ds η S = some r → ds.length = ls.len
  | .nil, ds, η, S, r, h => by
    cases ds with
    | nil => rfl
    | cons _ _ => simp [runLs] at h
  | .cons l ls, ds, η, S, r, h => by
    cases ds with
    | nil => simp [runLs] at h
    | cons d ds =>
      simp only [runLs] at h
      obtain ⟨_, _, e2⟩ := Option.bind_eq_some_iff.mp h
      simp [Lhs.len, runLs_len e2]
/-- the loops' targets -/
theorem g_one {i : Nat} {x : Str} (hN : X.N.Nodup) (hi : X.N[i]? = some x) (hx : Loc X.env.scope x) (hf : X.fn x = true ∨ X.env.scope.names.lookup x = some .local) : PG X (.Name x pos) (gT X.K (.one i)) := pg_name hN hi hx hf
theorem gs_nil : PGs X [] (gMany []) := pgs_nil
theorem gs_cons {e : Expr} {es : List Expr} {i : Nat} {is : List Nat} (hs : unstar e = true) (h1 : PG X e (gName i)) (h2 : PGs X es (gMany is)) : PGs X (e :: es) (gMany (i :: is)) := pgs_cons h1 h2 (by rw [as_cons hs]; rfl)
theorem g_many {es : List Expr} {k : Nat} {is : List Nat} (hc : X.calm = true) (hs : es.all unstar = true) (hl : es.length = is.length) (h : PGs X es (gMany is)) : PG X (.Tuple es k pos) (gT X.K (.many is)) :=
  pg_tup hc h (by rw [← hl]; exact (as_len hs).1) (as_len hs).2
end
end Ol
set_option Elab.async false
set_option linter.all false
set_option maxRecDepth 100000
set_option maxHeartbeats 2000000
namespace Ol
open PySem PySem.Spec PyProof.Rows L2
/-! ## a list that grows beside the store -/
section
variable {K : PySem.W.Frag} {ρ ρ1 : List Addr} {H H1 : Hp} {S : Sto}
theorem off_t {q : Addr} {xs ys : List V} (hq : H q = some (.lst xs)) : ∀ a vs, TupAt H a vs → TupAt (upd H q (.lst ys)) a vs := fun a vs ⟨its, h⟩ => by
  refine ⟨its, ?_⟩
  rw [upd_ne ?_]
  · exact h
  · intro e; subst e; rw [hq] at h; cases h
theorem off_l {q : Addr} {xs ys : List V} (hq : H q = some (.lst xs)) : ∀ a vs, RL K H a vs → RL K (upd H q (.lst ys)) a vs := fun a vs h => by
  rcases h with ⟨o, h⟩ | h
  · refine .inl ⟨o, ?_⟩
    rw [upd_ne ?_]
    · exact h
    · intro e; subst e; rw [hq] at h; cases h
  · exact .inr h
theorem RD.off {q : Addr} {xs ys : List V} (hq : H q = some (.lst xs)) {d : D} {v : V} (h : RD K ρ H d v) : RD K ρ (upd H q (.lst ys)) d v := RD.gen List.prefix_rfl (off_t hq) (off_l hq) d v h
theorem RDs.off {q : Addr} {xs ys : List V} (hq : H q = some (.lst xs)) {d : List D} {v : List V} (h : RDs K ρ H d v) : RDs K ρ (upd H q (.lst ys)) d v := RDs.gen List.prefix_rfl (off_t hq) (off_l hq) d v h
theorem SOk.off {q : Addr} {xs ys : List V} (hq : H q = some (.lst xs)) (n : q ∉ ρ) (s : SOk K ρ H S) : SOk K ρ (upd H q (.lst ys)) S := ⟨s.len, s.nd, s.fit, fun k ds e => by
  obtain ⟨a, vs, h1, h2, h3⟩ := s.lst k ds e
  refine ⟨a, vs, h1, ?_, h3.off hq⟩
  rw [upd_ne ?_]
  · exact h2
  · intro z; subst z; exact n (List.mem_of_getElem? h1)⟩
theorem Step.off {q : Addr} {o : HO} (hq : H q = none) (s : Step ρ H ρ1 H1) : Step ρ H ρ1 (upd H1 q o) := ⟨s.pre, s.new, fun a u h n => by
  rw [upd_ne (ne_of_none h hq)]; exact s.keep a u h n⟩
end
section
variable {X : Cx} {C : Nat → List D → Sto → Option (D × Sto)} {a b c d : Expr} {ea eb ec ed : E} {qa qb : Q} {pos p : Pos}
/-! ## comprehensions -/
/-- one turn -/
def turnC (C : Nat → List D → Sto → Option (D × Sto)) (elt : E) (l : Tgt) (c : E) (η : En) : D → Sto → Option (Option D × Sto) := fun x S => (bindT l x (wipeD η l.slots)).bind fun b => (runE C c b S).bind fun t => match t.1 with
  | .bl true => (runE C elt b t.2).bind fun y => some (some y.1, y.2)
  | .bl false => some (none, t.2)
  | _ => none
/-- a test of a comprehension: what it is read as -/
def TestOk (K : PySem.W.Frag) (C : Nat → List D → Sto → Option (D × Sto)) (ec : E) (tt : TT) : Prop := ∀ σ H Qf, tT K C ec σ H Qf → tt σ H Qf
theorem test_yes {K : PySem.W.Frag} : TestOk K C (.bl true) tYes := fun σ H Qf ⟨ρ, S, η, b, S', re, so, run, post⟩ => by
  simp only [runE] at run
  cases run
  exact post H ρ (Step.refl _ _) so
theorem turn_of {K : PySem.W.Frag} {elt : E} {l : Tgt} {ec : E} {tt : TT} (ht : TestOk K C ec tt) {η : En} {σ : L2.St} {ρ : List Addr} {H : Hp} {S S' : Sto} {x : D} {v : V} {r : Option D} {q : Addr} {xs : List V} {Nx : Hp → Prop}
    (run : turnC C elt l ec η x S = some (r, S')) (re : RE K ρ H σ η) (so : SOk K ρ H S) (rx : RD K ρ H x v) (hq : H q = some (.lst xs)) (nq : q ∉ ρ) (hz : xs.length < sizeLine)
    (h0 : r = none → ∀ ρ2 H2, Step ρ H ρ2 H2 → SOk K ρ2 H2 S' → q ∉ ρ2 → H2 q = some (.lst xs) → Nx H2)
    (h1 : ∀ d u, r = some d → ∀ ρ2 H2, Step ρ H ρ2 H2 → SOk K ρ2 H2 S' → q ∉ ρ2 → H2 q = some (.lst xs) → RD K ρ2 H2 d u → Nx (upd H2 q (.lst (xs ++ [u])))) :
    gT K l v (wipe σ l.slots) H fun σ2 H2 => wipe σ2 l.slots = wipe σ l.slots ∧ tt σ2 H2 fun b H3 => if b = true then tE K C elt σ2 H3 fun y H4 => ∃ acc, H4 q = some (.lst acc) ∧ acc.length < sizeLine ∧ Nx (upd H4 q (.lst (acc ++ [y]))) else Nx H3 := by
  unfold turnC at run
  obtain ⟨η1, e1, e2⟩ := Option.bind_eq_some_iff.mp run
  obtain ⟨⟨t, S1⟩, e3, e4⟩ := Option.bind_eq_some_iff.mp e2
  refine gT_of e1 rx (re.wipe l.slots) fun σ2 re2 off => ⟨by rw [off_wipe off, wipe_wipe], ?_⟩
  have keepq : ∀ {ρ2 : List Addr} {H2 : Hp}, Step ρ H ρ2 H2 → SOk K ρ2 H2 S1 ∨ True → q ∉ ρ2 ∧ H2 q = some (.lst xs) := fun {ρ2 H2} st _ => by
    refine ⟨fun m => ?_, st.keep _ _ hq nq⟩
    rw [st.new q m nq] at hq
    cases hq
  cases t with
  | bl k =>
    refine ht σ2 H _ ⟨ρ, S, η1, k, S1, re2, so, e3, fun H3 ρ3 st3 so3 => ?_⟩
    cases k with
    | false =>
      rw [if_neg (by simp)]
      cases e4
      obtain ⟨n1, n2⟩ := keepq st3 (.inr trivial)
      exact h0 rfl ρ3 H3 st3 so3 n1 n2
    | true =>
      rw [if_pos rfl]
      obtain ⟨⟨y, S2⟩, e5, e6⟩ := Option.bind_eq_some_iff.mp e4
      cases e6
      refine ⟨ρ3, S1, η1, y, _, re2.mono st3 so.nt, so3, e5, fun u H4 ρ4 st4 ru so4 => ?_⟩
      obtain ⟨n1, n2⟩ := keepq (st3.trans st4) (.inr trivial)
      exact ⟨xs, n2, hz, h1 y u rfl ρ4 H4 (st3.trans st4) so4 n1 n2 ru⟩
  | _ => cases e4
/-- the whole of it, from what it walks -/
theorem comp_of {it : It} {elt : E} {l : Tgt} {ec : E} {tt : TT} (ht : TestOk X.K C ec tt) {σ : L2.St} {H : Hp} {Qf : VK} (h : tQ X.K C (.comp elt l it ec) σ H Qf) : tLc (tI X.K C it) (gT X.K l) tt (tE X.K C elt) l.slots σ H Qf := by
  obtain ⟨ρ, S, η, x, S', re, so, run, post⟩ := h
  simp only [runQ] at run
  obtain ⟨⟨i, S1⟩, e1, e2⟩ := Option.bind_eq_some_iff.mp run
  refine ⟨ρ, S, η, i, S1, re, so, e1, fun J H1 ρ1 st so1 ip q hq => ?_⟩
  have hq0 := st.fresh so1.nt hq
  cases i with
  | sta ds =>
    obtain ⟨hz, src⟩ := ip
    obtain ⟨⟨rs, S2⟩, e3, e4⟩ := Option.bind_eq_some_iff.mp e2
    cases e4
    change compL (turnC C elt l ec η) ds S1 = some (rs, S2) at e3
    refine ⟨fun k m H' => ∃ ρ' S' vs es, Step ρ1 H1 ρ' H' ∧ SOk X.K ρ' H' S' ∧ q ∉ ρ' ∧ H' q = some (.lst vs) ∧ RDs X.K ρ' H' es vs ∧ k + m = ds.length ∧ es.length ≤ k ∧ ∃ r, compL (turnC C elt l ec η) (ds.drop k) S' = some (r, S2) ∧ es ++ r = rs,
      ⟨ds.length, ρ1, S1, [], [], (Step.refl _ _).off hq, (so1.laid hq _), hq0.2, upd_same, .nil, by omega, Nat.le_refl _, rs, by simpa using e3, rfl⟩, ?_⟩
    rintro k m H' ⟨ρ', S3, vs, es, st', so', nq, hv, r, hk, hes, r2, run2, er⟩
    obtain ⟨g1, g2⟩ := src ρ' H' st'
    by_cases hlt : k < ds.length
    · refine .inr ?_
      obtain ⟨go, yl⟩ := g1 k ds[k] (List.getElem?_eq_getElem hlt)
      rw [List.drop_eq_getElem_cons hlt] at run2
      simp only [compL] at run2
      obtain ⟨⟨y, S4⟩, e5, e6⟩ := Option.bind_eq_some_iff.mp run2
      obtain ⟨⟨r3, S5⟩, e7, e8⟩ := Option.bind_eq_some_iff.mp e6
      have hl : vs.length < sizeLine := by rw [← r.length]; omega
      refine ⟨go, fun H'' => ∃ ρ' S' vs es, Step ρ1 H1 ρ' H'' ∧ SOk X.K ρ' H'' S' ∧ q ∉ ρ' ∧ H'' q = some (.lst vs) ∧ RDs X.K ρ' H'' es vs ∧ es.length ≤ k + 1 ∧ ∃ r, compL (turnC C elt l ec η) (ds.drop (k + 1)) S' = some (r, S2) ∧ es ++ r = rs, fun H'' ⟨ρ2, S6, vs2, es2, a1, a2, a3, a4, a5, a6, a7⟩ => ⟨m - 1, by omega, ρ2, S6, vs2, es2, a1, a2, a3, a4, a5, by omega, a6, a7⟩, fun x H'' y' => ?_⟩
      obtain ⟨eH, rx⟩ := yl x H'' y'
      subst eH
      cases e8
      refine turn_of ht e5 ((re.mono st so.nt).mono st' so1.nt) so' rx hv nq hl (fun hn ρ2 H2 st2 so2 n2 v2 => ?_) (fun dd u hs ρ2 H2 st2 so2 n2 v2 ru => ?_)
      · subst hn
        exact ⟨ρ2, S4, vs, es, st'.trans st2, so2, n2, v2, RDs.mono st2 so'.nt _ _ r, by omega, r3, e7, er⟩
      · subst hs
        refine ⟨ρ2, S4, vs ++ [u], es ++ [dd], (st'.trans st2).off hq, so2.off v2 n2, n2, upd_same, ((RDs.mono st2 so'.nt _ _ r).append (.one ru)).off v2, by simp; omega, r3, e7, ?_⟩
        rw [← er]
        simp
    · have ek : k = ds.length := by omega
      subst ek
      refine .inl ⟨g2, ?_⟩
      rw [List.drop_length] at run2
      simp only [compL] at run2
      cases run2
      rw [List.append_nil] at er
      subst er
      exact post _ H' ρ' (st.trans st') ⟨by (show es.length ≤ sizeLine); omega, q, vs, rfl, hv, r, nq, hq0.1⟩ so'
  | dyn n =>
    obtain ⟨s, hs, rfl⟩ := ip
    obtain ⟨⟨rs, S2⟩, e3, e4⟩ := Option.bind_eq_some_iff.mp e2
    cases e4
    change compDn (turnC C elt l ec η) n fuelN 0 S1 = some (rs, S2) at e3
    refine ⟨fun k m H' => ∃ ρ' S' vs es, Step ρ1 H1 ρ' H' ∧ SOk X.K ρ' H' S' ∧ q ∉ ρ' ∧ H' q = some (.lst vs) ∧ RDs X.K ρ' H' es vs ∧ es.length ≤ k ∧ k ≤ sizeLine ∧ ∃ r, compDn (turnC C elt l ec η) n m k S' = some (r, S2) ∧ es ++ r = rs,
      ⟨fuelN, ρ1, S1, [], [], (Step.refl _ _).off hq, (so1.laid hq _), hq0.2, upd_same, .nil, Nat.le_refl _, Nat.zero_le _, rs, e3, rfl⟩, ?_⟩
    rintro k m H' ⟨ρ', S3, vs, es, st', so', nq, hv, r, hes, hks, r2, run2, er⟩
    cases m with
    | zero => simp [compDn] at run2
    | succ m =>
      simp only [compDn] at run2
      cases z : S3[n]? with
      | none => rw [z] at run2; cases run2
      | some o =>
        cases o with
        | lst ds =>
          rw [z] at run2
          simp only at run2
          obtain ⟨s', us, b1, b2, b3⟩ := so'.lst n ds z
          have hs' : s' = s := by
            have := pre_get st'.pre hs
            rw [b1] at this
            exact Option.some.inj this
          subst hs'
          have sq : SqL X.K H' s' us := SqL.of b2
          cases w : ds[k]? with
          | none =>
            rw [w] at run2
            cases run2
            rw [List.append_nil] at er
            subst er
            refine .inl ⟨⟨us, sq, ?_⟩, post _ H' ρ' (st.trans st') ⟨by (show es.length ≤ sizeLine); omega, q, vs, rfl, hv, r, nq, hq0.1⟩ so'⟩
            rw [← b3.length]
            exact List.getElem?_eq_none_iff.mp w
          | some x0 =>
            rw [w] at run2
            simp only at run2
            obtain ⟨⟨y, S4⟩, e5, e6⟩ := Option.bind_eq_some_iff.mp run2
            obtain ⟨⟨r3, S5⟩, e7, e8⟩ := Option.bind_eq_some_iff.mp e6
            obtain ⟨v0, c1, c2⟩ := b3.get w
            have hkd : k < ds.length := (List.getElem?_eq_some_iff.mp w).1
            have hfit := so'.fit n ds z
            have hl : vs.length < sizeLine := by rw [← r.length]; omega
            refine .inr ⟨⟨us, v0, sq, c1⟩, fun H'' => ∃ ρ' S' vs es, Step ρ1 H1 ρ' H'' ∧ SOk X.K ρ' H'' S' ∧ q ∉ ρ' ∧ H'' q = some (.lst vs) ∧ RDs X.K ρ' H'' es vs ∧ es.length ≤ k + 1 ∧ ∃ r, compDn (turnC C elt l ec η) n m (k + 1) S' = some (r, S2) ∧ es ++ r = rs, fun H'' ⟨ρ2, S6, vs2, es2, a1, a2, a3, a4, a5, a6, a7⟩ => ⟨m, by omega, ρ2, S6, vs2, es2, a1, a2, a3, a4, a5, a6, by omega, a7⟩, fun x H'' y' => ?_⟩
            obtain ⟨eH, rx⟩ := y'
            subst eH
            have ev := rx us sq
            rw [c1] at ev
            cases ev
            cases e8
            refine turn_of ht e5 ((re.mono st so.nt).mono st' so1.nt) so' c2 hv nq hl (fun hn ρ2 H2 st2 so2 n2 v2 => ?_) (fun dd u hsd ρ2 H2 st2 so2 n2 v2 ru => ?_)
            · subst hn
              exact ⟨ρ2, S4, vs, es, st'.trans st2, so2, n2, v2, RDs.mono st2 so'.nt _ _ r, by omega, r3, e7, er⟩
            · subst hsd
              refine ⟨ρ2, S4, vs ++ [u], es ++ [dd], (st'.trans st2).off hq, so2.off v2 n2, n2, upd_same, ((RDs.mono st2 so'.nt _ _ r).append (.one ru)).off v2, by simp; omega, r3, e7, ?_⟩
              rw [← er]
              simp
end
end Ol
set_option Elab.async false
set_option linter.all false
set_option maxRecDepth 100000
set_option maxHeartbeats 2000000
namespace Ol
open PySem PySem.Spec PyProof.Rows L2
section
variable {X : Cx} {C : Nat → List D → Sto → Option (D × Sto)} {a b c d e : Expr} {ea eb ec ed ee : E} {qa qb : Q} {pos p : Pos}
theorem q_comp {elt tg iter : Expr} {ifs : List Expr} {scope : Scope} {own : List (Str × Nat)} {it : It} {l : Tgt} {tt : TT} (hc : X.calm = true) (hN : X.N.Nodup) (hi : PI X tg iter (tI X.K C it)) (ok : BlkOk X.N X.env.scope scope own) (ho : own.map (·.2) = l.slots) (ht : TestOk X.K C ec tt)
    (hg : ∀ (s : Shared) (H : Hp) (Cc : Addr) (cl : List (Str × Addr)) (fp : List Addr), PG (X.blk s H scope (compEnvC scope cl Cc X.env) fp) tg (gT X.K l)) (hts : ∀ (s : Shared) (H : Hp) (Cc : Addr) (cl : List (Str × Addr)) (fp : List Addr), PTs (X.blk s H scope (compEnvC scope cl Cc X.env) fp) ifs tt)
    (he : ∀ (s : Shared) (H : Hp) (Cc : Addr) (cl : List (Str × Addr)) (fp : List Addr), PE (X.blk s H scope (compEnvC scope cl Cc X.env) fp) elt (tE X.K C ea)) (hs : ∀ x, foldedSetIterable iter X.env x = pure x) :
    PE X (.ListComp elt [⟨tg, iter, ifs, 0⟩] scope pos) (tQ X.K C (.comp ea l it ec)) :=
  (pe_lc hc hN hi ok hg hts he hs).le fun σ H Qf h => by rw [ho]; exact comp_of ht h
/-! ## statements -/
theorem s_set {t : Expr} {l : Lh} (he : PE X e (tE X.K C ee)) (hg : PG X t (tL X.K C l)) (hu : unstar t = true) (hs : swapsWithSole [t] e pos.line X.env = pure false) (hw : swappedStores [t] e X.env = pure none) : PS X (.Assign [t] e pos) (tS X.K C (.set l ee)) :=
  (ps_asg he hg hs hw (by rw [as_cons hu]; rfl)).le fun D0 σ H ⟨ρ, S, η, f, η', S', re, so, run, post⟩ => by
    simp only [runS] at run
    obtain ⟨⟨d, S1⟩, e1, e2⟩ := Option.bind_eq_some_iff.mp run
    obtain ⟨⟨η2, S2⟩, e3, e4⟩ := Option.bind_eq_some_iff.mp e2
    cases e4
    exact ⟨ρ, S, η, d, S1, re, so, e1, fun v H1 ρ1 st r so1 => ⟨ρ1, S1, η, d, _, _, re.mono st so.nt, so1, r, e3, fun σ2 H2 ρ2 st2 re2 so2 => post σ2 H2 ρ2 (st.trans st2) re2 so2⟩⟩
/-- name = value: the common form -/
theorem s_name {i : Nat} {x : Str} {p' : Pos} (hN : X.N.Nodup) (hi : X.N[i]? = some x) (hx : Loc X.env.scope x) (hf : X.fn x = true ∨ X.env.scope.names.lookup x = some .local) (he : PE X e (tE X.K C ee)) (hs : swapsWith e (some (.Name x p')) pos.line X.env = pure false) :
    PS X (.Assign [.Name x p'] e pos) (tS X.K C (.set (.nm i) ee)) :=
  (ps_set hN hi hx he hs hf).le fun D0 σ H ⟨ρ, S, η, f, η', S', re, so, run, post⟩ => by
    simp only [runS] at run
    obtain ⟨⟨d, S1⟩, e1, e2⟩ := Option.bind_eq_some_iff.mp run
    simp only [runL, Option.bind_some] at e2
    cases e2
    exact ⟨ρ, S, η, d, _, re, so, e1, fun v H1 ρ1 st r so1 => post _ H1 ρ1 st ((re.mono st so.nt).set i r) so1⟩
/-- a list just made, stored at once -/
theorem s_comp {i : Nat} {y : Str} {py : Pos} {elt tg iter : Expr} {ifs : List Expr} {scope : Scope} {own : List (Str × Nat)} {it : It} {l : Tgt} {tt : TT} {spos : Pos} (hc : X.calm = true) (hN : X.N.Nodup) (hy : X.N[i]? = some y) (hyl : X.env.scope.names.lookup y = some .local)
    (hsw : swapsWith (.ListComp elt [⟨tg, iter, ifs, 0⟩] scope pos) (some (.Name y py)) spos.line X.env = pure true) (hi : PI X tg iter (tI X.K C it)) (ok : BlkOk X.N X.env.scope scope own) (ho : own.map (·.2) = l.slots) (ht : TestOk X.K C ec tt)
    (hg : ∀ (s : Shared) (H : Hp) (Cc : Addr) (cl : List (Str × Addr)) (fp : List Addr), PG (X.blk s H scope (compEnvC scope cl Cc X.env) fp) tg (gT X.K l)) (hts : ∀ (s : Shared) (H : Hp) (Cc : Addr) (cl : List (Str × Addr)) (fp : List Addr), PTs (X.blk s H scope (compEnvC scope cl Cc X.env) fp) ifs tt)
    (he : ∀ (s : Shared) (H : Hp) (Cc : Addr) (cl : List (Str × Addr)) (fp : List Addr), PE (X.blk s H scope (compEnvC scope cl Cc X.env) fp) elt (tE X.K C ea)) (hs : ∀ x, foldedSetIterable iter X.env x = pure x) :
    PS X (.Assign [.Name y py] (.ListComp elt [⟨tg, iter, ifs, 0⟩] scope pos) spos) (tS X.K C (.set (.nm i) (.alloc (.comp ea l it ec)))) :=
  (ps_setLc hc hN hy hyl hsw hi ok hg hts he hs).le fun D0 σ H ⟨ρ, S, η, f, η', S', re, so, run, post⟩ => by
    simp only [runS] at run
    obtain ⟨⟨d, S1⟩, e1, e2⟩ := Option.bind_eq_some_iff.mp run
    simp only [runL, Option.bind_some] at e2
    cases e2
    simp only [runE] at e1
    obtain ⟨⟨x, S2⟩, e3, e4⟩ := Option.bind_eq_some_iff.mp e1
    show tLc _ _ _ _ _ σ H fun v H1 => gName i v σ H1 D0.nx
    rw [ho]
    refine comp_of ht ⟨ρ, S, η, x, S2, re, so, e3, fun v H1 ρ1 st r so1 => ?_⟩
    cases x with
    | val _ => cases e4
    | new ds =>
      cases e4
      obtain ⟨z, q, vs, rfl, h1, h2, h3, h4⟩ := r
      have so2 := so1.push h1 h2 h3 z
      have st2 : Step ρ H (ρ1 ++ [q]) H1 := ⟨st.pre.trans (List.prefix_append _ _), fun y m n => by
        rcases List.mem_append.mp m with m | m
        · exact st.new y m n
        · rw [List.mem_singleton.mp m]; exact h4, st.keep⟩
      have rq : RD X.K (ρ1 ++ [q]) H1 (.ref S2.length) (.ref q) := by
        simp only [RD]
        exact ⟨q, rfl, by rw [List.getElem?_append_right (by rw [so1.len]; exact Nat.le_refl _)]; simp [so1.len]⟩
      exact post _ H1 _ st2 ((re.mono st2 so.nt).set i rq) so2
/-- x, y = a, b with plain names -/
theorem s_par {i j : Nat} {x y : Str} {ees : Es} {px py pt : Pos} {kt k2 : Nat} {pt2 : Pos} (hc : X.calm = true) (hN : X.N.Nodup) (hi : X.N[i]? = some x) (hj : X.N[j]? = some y) (hij : i ≠ j)
    (hx : X.env.scope.names.lookup x = some .local) (hy : X.env.scope.names.lookup y = some .local) (ha : PA X [a, b] (tEs X.K C ees))
    (hw : swappedStores [.Tuple [.Name x px, .Name y py] kt pt] (.Tuple [a, b] k2 pt2) X.env = pure (some [x, y]))
    (hs : swapsWithSole [.Tuple [.Name x px, .Name y py] kt pt] (.Tuple [a, b] k2 pt2) pos.line X.env = pure false) :
    PS X (.Assign [.Tuple [.Name x px, .Name y py] kt pt] (.Tuple [a, b] k2 pt2) pos) (tS X.K C (.set (.tup (.cons (.nm i) (.cons (.nm j) .nil))) (.tup ees))) :=
  (ps_par hc hN hi hj hij hx hy ha hw hs).le fun D0 σ H ⟨ρ, S, η, f, η', S', re, so, run, post⟩ => by
    simp only [runS, runE] at run
    obtain ⟨⟨d, S1⟩, e1, e2⟩ := Option.bind_eq_some_iff.mp run
    obtain ⟨⟨ds, S2⟩, e3, e4⟩ := Option.bind_eq_some_iff.mp e1
    split at e4
    · cases e4
      obtain ⟨⟨η2, S3⟩, e5, e6⟩ := Option.bind_eq_some_iff.mp e2
      cases e6
      simp only [runL] at e5
      match ds, e5, e3 with
      | [], e5, _ => simp [runLs] at e5
      | [_], e5, _ => simp [runLs, runL] at e5
      | [d1, d2], e5, e3 =>
        simp only [runLs, runL, Option.bind_some] at e5
        cases e5
        refine ⟨ρ, S, η, _, _, re, so, e3, fun vs H1 ρ1 st r so1 => ?_⟩
        simp only [RDs] at r
        obtain ⟨v, t, rfl, r1, v2, t2, rfl, r2, rfl⟩ := r
        exact ⟨v, v2, rfl, post _ H1 ρ1 st (((re.mono st so.nt).set i r1).set j r2) so1⟩
      | _ :: _ :: _ :: _, e5, _ => simp [runLs, runL] at e5
    · cases e4
theorem s_aug {i : Nat} {x : Str} {o : Operator} {op : Op} {p' : Pos} (hN : X.N.Nodup) (hi : X.N[i]? = some x) (hx : Loc X.env.scope x) (hf : X.fn x = true ∨ X.env.scope.names.lookup x = some .local) (he : PE X e (tE X.K C ee))
    (ho : PIp X o (fun x y H Q => ∃ k j r, x = .int k ∧ y = .int j ∧ binop op (.int k) (.int j) = some (.int r) ∧ Q (.int r) H)) (hb : ∀ k j r, binop op (.int k) (.int j) = some r → ∃ n, r = .int n) : PS X (.AugAssign (.Name x p') o e pos) (tS X.K C (.aug i op ee)) :=
  (ps_aug hN hi hx he ho hf).le fun D0 σ H ⟨ρ, S, η, f, η', S', re, so, run, post⟩ => by
    simp only [runS] at run
    cases q : η[i]? with
    | none => rw [q] at run; cases run
    | some o =>
      rw [q] at run
      cases o with
      | none => cases run
      | some d0 =>
        cases d0 with
        | int k =>
          obtain ⟨⟨d, S1⟩, e1, e2⟩ := Option.bind_eq_some_iff.mp run
          cases d with
          | int j =>
            obtain ⟨r, e3, e4⟩ := Option.bind_eq_some_iff.mp e2
            obtain ⟨n, rfl⟩ := hb _ _ _ e3
            cases e4
            obtain ⟨v0, h1, h2⟩ := re.get i _ q
            rw [rd_int h2] at h1
            exact ⟨.int k, h1, ρ, S, η, _, _, re, so, e1, fun v H1 ρ1 st r so1 => ⟨k, j, n, rfl, rd_int r, e3, post _ H1 ρ1 st ((re.mono st so.nt).set i mk_int) so1⟩⟩
          | _ => cases e2
        | _ => cases run
theorem ip_ok {o : Operator} {op : Op} (h : o = .Add ∧ op = .add ∨ o = .Sub ∧ op = .sub ∨ o = .Mult ∧ op = .mul ∨ o = .FloorDiv ∧ op = .fdiv ∨ o = .Mod ∧ op = .mod ∨ o = .BitXor ∧ op = .bxor) :
    PIp X o (fun x y H Q => ∃ k j r, x = .int k ∧ y = .int j ∧ binop op (.int k) (.int j) = some (.int r) ∧ Q (.int r) H) ∧ ∀ k j r, binop op (.int k) (.int j) = some r → ∃ n, r = .int n := by
  rcases h with ⟨rfl, rfl⟩ | ⟨rfl, rfl⟩ | ⟨rfl, rfl⟩ | ⟨rfl, rfl⟩ | ⟨rfl, rfl⟩ | ⟨rfl, rfl⟩
  · refine ⟨fun pins s σ H x y v u Q I rx ry ⟨k, j, r, e1, e2, e3, q⟩ => ?_, fun k j r h => ?_⟩
    · subst e1 e2
      simp only [binop] at e3
      cases e3
      exact iop_add pins s σ H _ _ v u Q I rx ry ⟨_, _, rfl, rfl, q⟩
    · simp only [binop] at h; cases h; exact ⟨_, rfl⟩
  · refine ⟨fun pins s σ H x y v u Q I rx ry ⟨k, j, r, e1, e2, e3, q⟩ => ?_, fun k j r h => ?_⟩
    · subst e1 e2
      simp only [binop] at e3
      cases e3
      exact iop_sub pins s σ H _ _ v u Q I rx ry ⟨_, _, rfl, rfl, q⟩
    · simp only [binop] at h; cases h; exact ⟨_, rfl⟩
  · refine ⟨fun pins s σ H x y v u Q I rx ry ⟨k, j, r, e1, e2, e3, q⟩ => ?_, fun k j r h => ?_⟩
    · subst e1 e2
      simp only [binop] at e3
      split at e3
      · rename_i hz
        cases e3
        exact iop_mul pins s σ H _ _ v u Q I rx ry ⟨_, _, rfl, rfl, small_mul hz, q⟩
      · cases e3
    · simp only [binop] at h; split at h <;> cases h; exact ⟨_, rfl⟩
  · refine ⟨fun pins s σ H x y v u Q I rx ry ⟨k, j, r, e1, e2, e3, q⟩ => ?_, fun k j r h => ?_⟩
    · subst e1 e2
      simp only [binop] at e3
      split at e3
      · rename_i hz
        cases e3
        exact iop_fdiv pins s σ H _ _ v u Q I rx ry ⟨_, _, rfl, rfl, hz, q⟩
      · cases e3
    · simp only [binop] at h; split at h <;> cases h; exact ⟨_, rfl⟩
  · refine ⟨fun pins s σ H x y v u Q I rx ry ⟨k, j, r, e1, e2, e3, q⟩ => ?_, fun k j r h => ?_⟩
    · subst e1 e2
      simp only [binop] at e3
      split at e3
      · rename_i hz
        cases e3
        exact iop_mod pins s σ H _ _ v u Q I rx ry ⟨_, _, rfl, rfl, hz, q⟩
      · cases e3
    · simp only [binop] at h; split at h <;> cases h; exact ⟨_, rfl⟩
  · refine ⟨fun pins s σ H x y v u Q I rx ry ⟨k, j, r, e1, e2, e3, q⟩ => ?_, fun k j r h => ?_⟩
    · subst e1 e2
      simp only [binop] at e3
      cases e3
      exact iop_xor pins s σ H _ _ v u Q I rx ry ⟨_, _, rfl, rfl, q⟩
    · simp only [binop] at h; cases h; exact ⟨_, rfl⟩
theorem s_augQ {i : Nat} {x : Str} {p' : Pos} (hN : X.N.Nodup) (hi : X.N[i]? = some x) (hx : Loc X.env.scope x) (hf : X.fn x = true ∨ X.env.scope.names.lookup x = some .local) (he : PE X e (tQ X.K C qa)) : PS X (.AugAssign (.Name x p') .Add e pos) (tS X.K C (.augQ i qa)) :=
  (ps_aug hN hi hx he iop_ext hf).le fun D0 σ H ⟨ρ, S, η, f, η', S', re, so, run, post⟩ => by
    simp only [runS] at run
    cases q : η[i]? with
    | none => rw [q] at run; cases run
    | some o =>
      rw [q] at run
      cases o with
      | none => cases run
      | some d0 =>
        cases d0 with
        | ref n =>
          obtain ⟨⟨y, S1⟩, e1, e2⟩ := Option.bind_eq_some_iff.mp run
          obtain ⟨es, e3, e4⟩ := Option.bind_eq_some_iff.mp e2
          simp only at e4
          cases z : S1[n]? with
          | none => rw [z] at e4; cases e4
          | some o =>
            cases o with
            | lst ds =>
              rw [z] at e4
              simp only at e4
              split at e4
              · rename_i hz
                cases e4
                obtain ⟨v0, h1, h2⟩ := re.get i _ q
                refine ⟨v0, h1, ρ, S, η, y, S1, re, so, e1, fun v H1 ρ1 st r so1 => ?_⟩
                obtain ⟨l, xs, rfl, a1, a2, a3⟩ := rd_ref so1 (RD.mono st so.nt _ _ h2) z
                obtain ⟨m, zs, rfl, b1, b2, _⟩ := QP.later r so1 (Step.refl _ _) so1 e3
                obtain ⟨so2, st2⟩ := so1.set z a1 a2 (a3.append b2) (by rw [List.length_append]; exact hz)
                refine ⟨l, m, xs, zs, rfl, rfl, a2, b1, by rw [← a3.length, ← b2.length]; exact hz, ?_⟩
                have hset : σ.set i (some (.ref l)) = σ := by
                  apply List.ext_getElem?
                  intro j
                  by_cases hj : i = j
                  · subst hj
                    rw [List.getElem?_set_self (List.getElem?_eq_some_iff.mp h1).1, h1]
                  · rw [List.getElem?_set_ne hj]
                show D0.nx (σ.set i (some (.ref l))) (upd H1 l (.lst (xs ++ zs)))
                rw [hset]
                exact post σ _ ρ1 (st.trans st2) ((re.mono st so.nt).mono st2 so1.nt) so2
              · cases e4
        | _ => cases run
def plainE : Expr → Bool
  | .ListComp .. => false | .SetComp .. => false | .DictComp .. => false | _ => true
theorem sw_plain (h : plainE e = true) (t : Option Expr) (l : Nat) (env : Env) : swapsWith e t l env = pure false := by
  cases e <;> first | rfl | (simp [plainE] at h)
theorem s_expr (hp : plainE e = true) (he : PE X e (tE X.K C ee)) : PS X (.Expr e pos) (tS X.K C (.expr ee)) :=
  (ps_expr he (sw_plain hp _ _ _)).le fun D0 σ H ⟨ρ, S, η, f, η', S', re, so, run, post⟩ => by
    simp only [runS] at run
    obtain ⟨⟨d, S1⟩, e1, e2⟩ := Option.bind_eq_some_iff.mp run
    cases e2
    exact ⟨ρ, S, η, d, _, re, so, e1, fun v H1 ρ1 st r so1 => post σ H1 ρ1 st (re.mono st so.nt) so1⟩
theorem s_ret (he : PE X e (tE X.K C ee)) : PS X (.Return (some e) pos) (tS X.K C (.ret ee)) :=
  (ps_ret he).le fun D0 σ H ⟨ρ, S, η, f, η', S', re, so, run, post⟩ => by
    simp only [runS] at run
    obtain ⟨⟨d, S1⟩, e1, e2⟩ := Option.bind_eq_some_iff.mp run
    cases e2
    exact ⟨ρ, S, η, d, _, re, so, e1, fun v H1 ρ1 st r so1 => post σ H1 ρ1 st (re.mono st so.nt) so1 v r⟩
theorem s_retN : PS X (.Return none pos) (tS X.K C .retN) :=
  ps_retN.le fun D0 σ H ⟨ρ, S, η, f, η', S', re, so, run, post⟩ => by
    simp only [runS] at run
    cases run
    exact post σ H ρ (Step.refl _ _) re so .non mk_non
theorem s_pass : PS X (.Pass pos) (tS X.K C .pass) :=
  ps_pass.le fun D0 σ H ⟨ρ, S, η, f, η', S', re, so, run, post⟩ => by
    simp only [runS] at run
    cases run
    exact post σ H ρ (Step.refl _ _) re so
theorem s_brk : PS X (.Break pos) (tS X.K C .brk) :=
  ps_break.le fun D0 σ H ⟨ρ, S, η, f, η', S', re, so, run, post⟩ => by
    simp only [runS] at run
    cases run
    exact post σ H ρ (Step.refl _ _) re so
theorem s_cont : PS X (.Continue pos) (tS X.K C .cont) :=
  ps_continue.le fun D0 σ H ⟨ρ, S, η, f, η', S', re, so, run, post⟩ => by
    simp only [runS] at run
    cases run
    exact post σ H ρ (Step.refl _ _) re so
theorem ss_nil : PSs X [] (tSs X.K C .nil) :=
  pss_nil.le fun D0 σ H ⟨ρ, S, η, f, η', S', re, so, run, post⟩ => by
    simp only [runSs] at run
    cases run
    exact post σ H ρ (Step.refl _ _) re so
theorem ss_cons {st : Stmt} {rest : List Stmt} {s : St} {ss : Sts} (h1 : PS X st (tS X.K C s)) (h2 : PSs X rest (tSs X.K C ss)) : PSs X (st :: rest) (tSs X.K C (.cons s ss)) :=
  (pss_cons h1 h2).le fun D0 σ H ⟨ρ, S, η, f, η', S', re, so, run, post⟩ => by
    simp only [runSs] at run
    obtain ⟨⟨f1, η1, S1⟩, e1, e2⟩ := Option.bind_eq_some_iff.mp run
    refine ⟨ρ, S, η, f1, η1, S1, re, so, e1, fun σ1 H1 ρ1 st1 re1 so1 => ?_⟩
    cases f1 with
    | nx => exact ⟨ρ1, S1, η1, f, η', S', re1, so1, e2, fun σ2 H2 ρ2 st2 re2 so2 => post σ2 H2 ρ2 (st1.trans st2) re2 so2⟩
    | bk => cases e2; exact post σ1 H1 ρ1 st1 re1 so1
    | ct => cases e2; exact post σ1 H1 ρ1 st1 re1 so1
    | rt d => cases e2; exact post σ1 H1 ρ1 st1 re1 so1
theorem s_if {sa sb : List Stmt} {ia ib : Sts} (hc : PT X c (tT X.K C ec)) (ha : PSs X sa (tSs X.K C ia)) (hb : PSs X sb (tSs X.K C ib)) : PS X (.If c sa sb pos) (tS X.K C (.ite ec ia ib)) :=
  (ps_if hc ha hb).le fun D0 σ H ⟨ρ, S, η, f, η', S', re, so, run, post⟩ => by
    simp only [runS] at run
    obtain ⟨⟨d, S1⟩, e1, e2⟩ := Option.bind_eq_some_iff.mp run
    cases d with
    | bl k =>
      refine ⟨ρ, S, η, k, S1, re, so, e1, fun H1 ρ1 st so1 => ?_⟩
      cases k with
      | true => rw [if_pos rfl]; exact ⟨ρ1, S1, η, f, η', S', re.mono st so.nt, so1, e2, fun σ2 H2 ρ2 st2 re2 so2 => post σ2 H2 ρ2 (st.trans st2) re2 so2⟩
      | false => rw [if_neg (by simp)]; exact ⟨ρ1, S1, η, f, η', S', re.mono st so.nt, so1, e2, fun σ2 H2 ρ2 st2 re2 so2 => post σ2 H2 ρ2 (st.trans st2) re2 so2⟩
    | _ => cases e2
end
end Ol
set_option Elab.async false
set_option linter.all false
set_option maxRecDepth 100000
set_option maxHeartbeats 2000000
namespace Ol
open PySem PySem.Spec PyProof.Rows L2
section
variable {X : Cx} {C : Nat → List D → Sto → Option (D × Sto)} {a b c d e : Expr} {ea eb ec ed ee : E} {qa qb : Q} {pos p : Pos}
/-! ## for -/
def bodyF (C : Nat → List D → Sto → Option (D × Sto)) (l : Tgt) (b : Sts) : D → En → Sto → Option (Fl × En × Sto) := fun x η S => (bindT l x η).bind fun y => runSs C b y S
theorem turn_for {l : Tgt} {ib : Sts} {η η1 : En} {σ : L2.St} {ρ : List Addr} {H : Hp} {S S1 : Sto} {x : D} {v : V} {f : Fl} {D0 : Ends} (run : bodyF C l ib x η S = some (f, η1, S1)) (re : RE X.K ρ H σ η) (so : SOk X.K ρ H S) (rx : RD X.K ρ H x v)
    (h : ∀ σ2 H2 ρ2, Step ρ H ρ2 H2 → RE X.K ρ2 H2 σ2 η1 → SOk X.K ρ2 H2 S1 → FlP X.K D0 ρ2 σ2 H2 f) : gT X.K l v σ H fun σ2 H2 => tSs X.K C ib D0 σ2 H2 := by
  unfold bodyF at run
  obtain ⟨η2, e1, e2⟩ := Option.bind_eq_some_iff.mp run
  exact gT_of e1 rx re fun σ2 re2 _ => ⟨ρ, S, η2, f, η1, S1, re2, so, e2, h⟩
theorem for_of {it : It} {l : Tgt} {ib : Sts} {D0 : Ends} {σ : L2.St} {H : Hp} (h : tS X.K C (.for_ l it ib) D0 σ H) : tFor (tI X.K C it) (gT X.K l) (tSs X.K C ib) D0 σ H := by
  obtain ⟨ρ, S, η, f, η', S', re, so, run, post⟩ := h
  simp only [runS] at run
  obtain ⟨⟨i, S1⟩, e1, e2⟩ := Option.bind_eq_some_iff.mp run
  refine ⟨ρ, S, η, i, S1, re, so, e1, fun J H1 ρ1 st so1 ip => ?_⟩
  cases i with
  | sta ds =>
    obtain ⟨hz, src⟩ := ip
    change loopL (bodyF C l ib) ds η S1 = some (f, η', S') at e2
    refine ⟨fun k m σ' H' => ∃ ρ' S2 η2, Step ρ1 H1 ρ' H' ∧ RE X.K ρ' H' σ' η2 ∧ SOk X.K ρ' H' S2 ∧ k + m = ds.length ∧ loopL (bodyF C l ib) (ds.drop k) η2 S2 = some (f, η', S'), ⟨ds.length, ρ1, S1, η, Step.refl _ _, re.mono st so.nt, so1, by omega, by simpa using e2⟩, ?_⟩
    rintro k m σ' H' ⟨ρ', S2, η2, st', re', so', hk, run2⟩
    obtain ⟨g1, g2⟩ := src ρ' H' st'
    by_cases hlt : k < ds.length
    · refine .inr ?_
      obtain ⟨go, yl⟩ := g1 k ds[k] (List.getElem?_eq_getElem hlt)
      rw [List.drop_eq_getElem_cons hlt] at run2
      simp only [loopL] at run2
      obtain ⟨⟨f1, η3, S3⟩, e5, e6⟩ := Option.bind_eq_some_iff.mp run2
      refine ⟨go, fun σ'' H'' => ∃ ρ' S2 η2, Step ρ1 H1 ρ' H'' ∧ RE X.K ρ' H'' σ'' η2 ∧ SOk X.K ρ' H'' S2 ∧ loopL (bodyF C l ib) (ds.drop (k + 1)) η2 S2 = some (f, η', S'), fun σ'' H'' ⟨ρ2, S6, η6, a1, a2, a3, a4⟩ => ⟨m - 1, by omega, ρ2, S6, η6, a1, a2, a3, by omega, a4⟩, fun x H'' y' => ?_⟩
      obtain ⟨eH, rx⟩ := yl x H'' y'
      subst eH
      refine turn_for e5 re' so' rx fun σ2 H2 ρ2 st2 re2 so2 => ?_
      cases f1 with
      | nx => exact ⟨ρ2, S3, η3, st'.trans st2, re2, so2, e6⟩
      | ct => exact ⟨ρ2, S3, η3, st'.trans st2, re2, so2, e6⟩
      | bk => cases e6; exact post σ2 H2 ρ2 ((st.trans st').trans st2) re2 so2
      | rt d => cases e6; exact post σ2 H2 ρ2 ((st.trans st').trans st2) re2 so2
    · have ek : k = ds.length := by omega
      subst ek
      refine .inl ⟨g2, ?_⟩
      rw [List.drop_length] at run2
      simp only [loopL] at run2
      cases run2
      exact post σ' H' ρ' (st.trans st') re' so'
  | dyn n =>
    obtain ⟨s, hs, rfl⟩ := ip
    change loopDn (bodyF C l ib) n fuelN 0 η S1 = some (f, η', S') at e2
    refine ⟨fun k m σ' H' => ∃ ρ' S2 η2, Step ρ1 H1 ρ' H' ∧ RE X.K ρ' H' σ' η2 ∧ SOk X.K ρ' H' S2 ∧ loopDn (bodyF C l ib) n m k η2 S2 = some (f, η', S'), ⟨fuelN, ρ1, S1, η, Step.refl _ _, re.mono st so.nt, so1, e2⟩, ?_⟩
    rintro k m σ' H' ⟨ρ', S2, η2, st', re', so', run2⟩
    cases m with
    | zero => simp [loopDn] at run2
    | succ m =>
      simp only [loopDn] at run2
      cases z : S2[n]? with
      | none => rw [z] at run2; cases run2
      | some o =>
        cases o with
        | lst ds =>
          rw [z] at run2
          simp only at run2
          obtain ⟨s', us, b1, b2, b3⟩ := so'.lst n ds z
          have hs' : s' = s := by
            have := pre_get st'.pre hs
            rw [b1] at this
            exact Option.some.inj this
          subst hs'
          have sq : SqL X.K H' s' us := SqL.of b2
          cases w : ds[k]? with
          | none =>
            rw [w] at run2
            cases run2
            refine .inl ⟨⟨us, sq, ?_⟩, post σ' H' ρ' (st.trans st') re' so'⟩
            rw [← b3.length]
            exact List.getElem?_eq_none_iff.mp w
          | some x0 =>
            rw [w] at run2
            simp only at run2
            obtain ⟨⟨f1, η3, S3⟩, e5, e6⟩ := Option.bind_eq_some_iff.mp run2
            obtain ⟨v0, c1, c2⟩ := b3.get w
            refine .inr ⟨⟨us, v0, sq, c1⟩, fun σ'' H'' => ∃ ρ' S2 η2, Step ρ1 H1 ρ' H'' ∧ RE X.K ρ' H'' σ'' η2 ∧ SOk X.K ρ' H'' S2 ∧ loopDn (bodyF C l ib) n m (k + 1) η2 S2 = some (f, η', S'), fun σ'' H'' ⟨ρ2, S6, η6, a1, a2, a3, a4⟩ => ⟨m, by omega, ρ2, S6, η6, a1, a2, a3, a4⟩, fun x H'' y' => ?_⟩
            obtain ⟨eH, rx⟩ := y'
            subst eH
            have ev := rx us sq
            rw [c1] at ev
            cases ev
            refine turn_for e5 re' so' c2 fun σ2 H2 ρ2 st2 re2 so2 => ?_
            cases f1 with
            | nx => exact ⟨ρ2, S3, η3, st'.trans st2, re2, so2, e6⟩
            | ct => exact ⟨ρ2, S3, η3, st'.trans st2, re2, so2, e6⟩
            | bk => cases e6; exact post σ2 H2 ρ2 ((st.trans st').trans st2) re2 so2
            | rt d => cases e6; exact post σ2 H2 ρ2 ((st.trans st').trans st2) re2 so2
def noSet : Expr → Bool
  | .Set .. => false | _ => true
theorem folded (h : noSet e = true) (env : Env) : ∀ x, foldedSetIterable e env x = pure x := by
  intro x
  cases e <;> first | rfl | (simp [noSet] at h)
theorem s_for {tg iter : Expr} {body : List Stmt} {it : It} {l : Tgt} {ib : Sts} (hc : X.calm = true) (hx : X.xe = fun _ _ => False) (hi : PI X tg iter (tI X.K C it)) (hg : PG X tg (gT X.K l)) (hb : PSs X body (tSs X.K C ib)) (hs : noSet iter = true) :
    PS X (.For tg iter body [] pos) (tS X.K C (.for_ l it ib)) :=
  (ps_for (by rw [hx]; exact PassesOwn.never) hc hi hg hb (folded hs _)).le fun D0 σ H h => for_of h
/-! ## while -/
theorem s_while {body : List Stmt} {ib : Sts} (hx : X.xe = fun _ _ => False) (hc : PT X c (tT X.K C ec)) (hb : PSs X body (tSs X.K C ib)) : PS X (.While c body [] pos) (tS X.K C (.while_ ec ib)) :=
  (ps_while (by rw [hx]; exact PassesOwn.never) hc hb).le fun D0 σ H ⟨ρ, S, η, f, η', S', re, so, run, post⟩ => by
    simp only [runS] at run
    refine ⟨fun m σ' H' => ∃ ρ' S2 η2, Step ρ H ρ' H' ∧ RE X.K ρ' H' σ' η2 ∧ SOk X.K ρ' H' S2 ∧ loopW (fun η S => (runE C ec η S).bind fun x => match x.1 with | .bl k => some (k, x.2) | _ => none) (fun η S => runSs C ib η S) m η2 S2 = some (f, η', S'), ⟨fuelN, ρ, S, η, Step.refl _ _, re, so, run⟩, ?_⟩
    rintro m σ' H' ⟨ρ', S2, η2, st', re', so', run2⟩
    cases m with
    | zero => simp [loopW] at run2
    | succ m =>
      simp only [loopW] at run2
      obtain ⟨⟨k, S3⟩, e1, e2⟩ := Option.bind_eq_some_iff.mp run2
      obtain ⟨⟨dk, S4⟩, e3, e4⟩ := Option.bind_eq_some_iff.mp e1
      cases dk with
      | bl k' =>
        cases e4
        refine ⟨ρ', S2, η2, _, _, re', so', e3, fun H2 ρ2 st2 so2 => ?_⟩
        cases k with
        | true =>
          rw [if_pos rfl] at e2 ⊢
          obtain ⟨⟨f1, η3, S5⟩, e5, e6⟩ := Option.bind_eq_some_iff.mp e2
          refine ⟨fun σ'' H'' => ∃ ρ' S2 η2, Step ρ H ρ' H'' ∧ RE X.K ρ' H'' σ'' η2 ∧ SOk X.K ρ' H'' S2 ∧ loopW (fun η S => (runE C ec η S).bind fun x => match x.1 with | .bl k => some (k, x.2) | _ => none) (fun η S => runSs C ib η S) m η2 S2 = some (f, η', S'), fun σ'' H'' h => ⟨m, by omega, h⟩, ρ2, _, η2, f1, η3, S5, re'.mono st2 so'.nt, so2, e5, fun σ3 H3 ρ3 st3 re3 so3 => ?_⟩
          cases f1 with
          | nx => exact ⟨ρ3, S5, η3, (st'.trans st2).trans st3, re3, so3, e6⟩
          | ct => exact ⟨ρ3, S5, η3, (st'.trans st2).trans st3, re3, so3, e6⟩
          | bk => cases e6; exact post σ3 H3 ρ3 ((st'.trans st2).trans st3) re3 so3
          | rt d => cases e6; exact post σ3 H3 ρ3 ((st'.trans st2).trans st3) re3 so3
        | false =>
          rw [if_neg (by simp)] at e2 ⊢
          cases e2
          exact post σ' H2 ρ2 (st'.trans st2) (re'.mono st2 so'.nt) so2
      | _ => cases e4
end
end Ol
set_option Elab.async false
set_option linter.all false
set_option maxRecDepth 100000
set_option maxHeartbeats 4000000
namespace Ol
open PySem PySem.Spec PyProof.Rows L2
/-! ## from the text to the small language, with the proof -/
/-- where one stands -/
structure Pl where
  N : List Str
  sc : Scope
  fns : List (Str × Nat)
  fo : Option Scope
def Pl.fnb (P : Pl) (x : Str) : Bool := match P.fo with
  | none => true | some s => s.names.lookup x == some .cell
def blNames : List Str := ["len", "sum", "all", "any", "max", "min", "tuple", "list", "sorted", "range", "int", "abs", "isinstance", "bool", "str"]
abbrev CT := Nat → List D → Sto → Option (D × Sto)
structure Gd (P : Pl) (X : Cx) (C : CT) : Prop where
  hN : X.N = P.N
  nd : X.N.Nodup
  sc : X.env.scope = P.sc
  calm : X.calm = true
  xe : X.xe = fun _ _ => False
  hu : X.A.units + 64 < cLine
  bl : ∀ x ∈ blNames, X.mg x = none
  de : ∀ x f, P.fns.lookup x = some f → Def X C x f
  fn : ∀ x, P.fnb x = true → X.fn x = true
def IE (P : Pl) (e : Expr) (x : E) : Prop := ∀ (X : Cx) (C : CT), Gd P X C → PE X e (tE X.K C x)
def IT (P : Pl) (e : Expr) (x : E) : Prop := ∀ (X : Cx) (C : CT), Gd P X C → PT X e (tT X.K C x)
def IW (P : Pl) (e : Expr) (x : E) : Prop := ∀ (X : Cx) (C : CT), Gd P X C → PW X e (tT X.K C x)
def IQ (P : Pl) (e : Expr) (x : Q) : Prop := ∀ (X : Cx) (C : CT), Gd P X C → PE X e (tQ X.K C x)
def IEs (P : Pl) (e : List Expr) (x : Es) : Prop := ∀ (X : Cx) (C : CT), Gd P X C → PA X e (tEs X.K C x)
def IO (P : Pl) (e : Option Expr) (x : Oe) : Prop := ∀ (X : Cx) (C : CT), Gd P X C → PO X e (tOe X.K C x)
def II (P : Pl) (tg e : Expr) (x : It) : Prop := ∀ (X : Cx) (C : CT), Gd P X C → PI X tg e (tI X.K C x)
def IL (P : Pl) (e : Expr) (x : Lh) : Prop := ∀ (X : Cx) (C : CT), Gd P X C → PG X e (tL X.K C x)
def ILs (P : Pl) (e : List Expr) (x : Lhs) : Prop := ∀ (X : Cx) (C : CT), Gd P X C → PGs X e (tLs X.K C x)
def IG (P : Pl) (e : Expr) (x : Tgt) : Prop := ∀ (X : Cx) (C : CT), Gd P X C → PG X e (gT X.K x)
def IGs (P : Pl) (e : List Expr) (x : List Nat) : Prop := ∀ (X : Cx) (C : CT), Gd P X C → PGs X e (gMany x)
def IS (P : Pl) (s : Stmt) (x : St) : Prop := ∀ (X : Cx) (C : CT), Gd P X C → PS X s (tS X.K C x)
def ISs (P : Pl) (s : List Stmt) (x : Sts) : Prop := ∀ (X : Cx) (C : CT), Gd P X C → PSs X s (tSs X.K C x)
/-- the places served one level less deep -/
structure Cm where
  e : (P : Pl) → (e : Expr) → Option { x : E // IE P e x }
  t : (P : Pl) → (e : Expr) → Option { x : E // IT P e x }
  w : (P : Pl) → (e : Expr) → Option { x : E // IW P e x }
  q : (P : Pl) → (e : Expr) → Option { x : Q // IQ P e x }
  es : (P : Pl) → (e : List Expr) → Option { x : Es // IEs P e x }
  i : (P : Pl) → (tg e : Expr) → Option { x : It // II P tg e x }
  l : (P : Pl) → (e : Expr) → Option { x : Lh // IL P e x }
  ls : (P : Pl) → (e : List Expr) → Option { x : Lhs // ILs P e x }
  s : (P : Pl) → (e : Stmt) → Option { x : St // IS P e x }
  ss : (P : Pl) → (e : List Stmt) → Option { x : Sts // ISs P e x }
/-! ### names -/
def ixOf (x : Str) : List Str → Option Nat
  | [] => none
  | y :: ys => if x = y then some 0 else (ixOf x ys).map (· + 1)
theorem ixOf_get : ∀ {l : List Str} {x : Str} {i : Nat}, ixOf x l = some i → l[i]? = some x
  | y :: ys, x, i, h => by
    unfold ixOf at h
    split at h
    · rename_i e; cases h; rw [e]; rfl
    · obtain ⟨j, h1, h2⟩ := Option.map_eq_some_iff.mp h
      subst h2
      simpa using ixOf_get h1
theorem Gd.slot {P : Pl} {X : Cx} {C : CT} (g : Gd P X C) {x : Str} {i : Nat} (h : ixOf x P.N = some i) : X.N[i]? = some x := by rw [g.hN]; exact ixOf_get h
def visB (sc : Scope) (x : Str) : Bool := match sc.names.lookup x with
  | some .local => true | some .cell => true | some .free => true | _ => false
theorem Gd.vis {P : Pl} {X : Cx} {C : CT} (g : Gd P X C) {x : Str} (h : visB P.sc x = true) : Vis X.env.scope x := by
  unfold visB at h; unfold Vis
  rw [g.sc]
  split at h <;> first | exact .inl (by assumption) | exact .inr (.inl (by assumption)) | exact .inr (.inr (by assumption)) | cases h
def locB (sc : Scope) (x : Str) : Bool := match sc.names.lookup x with
  | some .local => true | some .cell => true | _ => false
theorem Gd.loc {P : Pl} {X : Cx} {C : CT} (g : Gd P X C) {x : Str} (h : locB P.sc x = true) : L2.Loc X.env.scope x := by
  unfold locB at h; unfold L2.Loc
  rw [g.sc]
  split at h <;> first | exact .inl (by assumption) | exact .inr (by assumption) | cases h
def lclB (sc : Scope) (x : Str) : Bool := match sc.names.lookup x with
  | some .local => true | _ => false
theorem Gd.lcl {P : Pl} {X : Cx} {C : CT} (g : Gd P X C) {x : Str} (h : lclB P.sc x = true) : X.env.scope.names.lookup x = some .local := by
  unfold lclB at h
  rw [g.sc]
  split at h <;> first | assumption | cases h
/-- a name that may be set -/
def setB (P : Pl) (x : Str) : Bool := locB P.sc x && (P.fnb x || lclB P.sc x)
theorem Gd.set1 {P : Pl} {X : Cx} {C : CT} (g : Gd P X C) {x : Str} (h : setB P x = true) : L2.Loc X.env.scope x ∧ (X.fn x = true ∨ X.env.scope.names.lookup x = some .local) := by
  unfold setB at h
  rw [Bool.and_eq_true, Bool.or_eq_true] at h
  exact ⟨g.loc h.1, h.2.elim (fun h => .inl (g.fn x h)) fun h => .inr (g.lcl h)⟩
def glB (sc : Scope) (x : Str) : Bool := match sc.names.lookup x with
  | some .globalImplicit => true | _ => false
theorem Gd.gl {P : Pl} {X : Cx} {C : CT} (g : Gd P X C) {x : Str} (h : glB P.sc x = true) : Gl X x := by
  unfold glB at h; unfold Gl Env.kindOf
  rw [g.sc]
  split at h <;> first | assumption | cases h
def reserved (x : Str) : Bool := x == ("__debug__" : Str) || x == ("__classdict__" : Str)
theorem not_reserved {x : Str} (h : (!reserved x) = true) : (x == ("__debug__" : Str)) = false ∧ (x == ("__classdict__" : Str)) = false := by
  unfold reserved at h
  simpa using h
/-! ### the forms of expressions -/
def listy : Expr → Bool
  | .List .. => true | .ListComp .. => true
  | .Call (.Name x _) [_] [] _ => x == ("list" : Str) || x == ("sorted" : Str)
  | .BinOp (.List ..) .Mult _ _ => true | .BinOp (.List ..) .Add _ _ => true | .BinOp _ .Add (.List ..) _ => true
  | .BinOp (.ListComp ..) .Add _ _ => true | .BinOp _ .Add (.ListComp ..) _ => true
  | .BinOp (.BinOp (.List ..) _ _ _) .Add _ _ => true
  | .BinOp (.Call (.Name x _) [_] [] _) .Add _ _ => x == ("list" : Str) || x == ("sorted" : Str)
  | _ => false
def mk {P : Pl} {α : Type} {R : α → Prop} (x : α) (h : R x) : Option { x : α // R x } := some ⟨x, h⟩
/-- one argument's call of a builtin -/
def call1 (c : Cm) (P : Pl) (x : Str) (a : Expr) (p pos : Pos) : Option { y : E // IE P (.Call (.Name x p) [a] [] pos) y } :=
  if hg : glB P.sc x = true then
    if hs : unstar a = true then
      if h : x = ("len" : Str) then do
        let ⟨qa, ha⟩ ← c.q P a
        return ⟨.qlen qa, fun X C g => by subst h; exact callB k_len (fun _ _ => rfl) (g.gl hg) (g.bl _ (by decide +kernel)) (by decide +kernel) (by decide) (by decide) hs (ha X C g)⟩
      else if h : x = ("tuple" : Str) then do
        let ⟨qa, ha⟩ ← c.q P a
        return ⟨.qtup qa, fun X C g => by subst h; exact callT k_tuple (fun _ _ => rfl) (g.gl hg) (g.bl _ (by decide +kernel)) (by decide +kernel) (by decide) (by decide) hs (ha X C g)⟩
      else if h : x = ("sum" : Str) then do
        let ⟨qa, ha⟩ ← c.q P a
        return ⟨.qsum qa, fun X C g => by subst h; exact callB (k_sum g.calm) (fun _ _ => rfl) (g.gl hg) (g.bl _ (by decide +kernel)) (by decide +kernel) (by decide) (by decide) hs (ha X C g)⟩
      else if h : x = ("all" : Str) then do
        let ⟨qa, ha⟩ ← c.q P a
        return ⟨.qall qa, fun X C g => by subst h; exact callB (k_all g.calm) (fun _ _ => rfl) (g.gl hg) (g.bl _ (by decide +kernel)) (by decide +kernel) (by decide) (by decide) hs (ha X C g)⟩
      else if h : x = ("any" : Str) then do
        let ⟨qa, ha⟩ ← c.q P a
        return ⟨.qany qa, fun X C g => by subst h; exact callB (k_any g.calm) (fun _ _ => rfl) (g.gl hg) (g.bl _ (by decide +kernel)) (by decide +kernel) (by decide) (by decide) hs (ha X C g)⟩
      else if h : x = ("max" : Str) then do
        let ⟨qa, ha⟩ ← c.q P a
        return ⟨.qmax qa, fun X C g => by subst h; exact callB (k_max g.calm) (fun _ _ => rfl) (g.gl hg) (g.bl _ (by decide +kernel)) (by decide +kernel) (by decide) (by decide) hs (ha X C g)⟩
      else if h : x = ("min" : Str) then do
        let ⟨qa, ha⟩ ← c.q P a
        return ⟨.qmin qa, fun X C g => by subst h; exact callB (k_min g.calm) (fun _ _ => rfl) (g.gl hg) (g.bl _ (by decide +kernel)) (by decide +kernel) (by decide) (by decide) hs (ha X C g)⟩
      else if h : x = ("int" : Str) then do
        let ⟨ea, ha⟩ ← c.e P a
        return ⟨.int1 ea, fun X C g => by subst h; exact (pe_callTy k_int (g.gl hg) (g.bl _ (by decide +kernel)) (by decide +kernel) (pa_1 hs (ha X C g)) (by decide) (by decide) (one_star hs) rfl).le fun _ _ _ q => tV1 (fun _ _ => rfl) q⟩
      else if h : x = ("abs" : Str) then do
        let ⟨ea, ha⟩ ← c.e P a
        return ⟨.abs ea, fun X C g => by subst h; exact (pe_callB k_abs (g.gl hg) (g.bl _ (by decide +kernel)) (by decide +kernel) (pa_1 hs (ha X C g)) (by decide) (by decide) (one_star hs) rfl).le fun _ _ _ q => tV1 (fun _ _ => rfl) q⟩
      else none
    else none
  else none
def tyOf (x : Str) : Option { t : Ty // x = tyName t } :=
  if h : x = tyName .bool then some ⟨.bool, h⟩ else if h : x = tyName .int then some ⟨.int, h⟩ else if h : x = tyName .str then some ⟨.str, h⟩
  else if h : x = tyName .tup then some ⟨.tup, h⟩ else if h : x = tyName .lst then some ⟨.lst, h⟩ else none
def call2 (c : Cm) (P : Pl) (x : Str) (a b : Expr) (p pos : Pos) : Option { y : E // IE P (.Call (.Name x p) [a, b] [] pos) y } :=
  if hg : glB P.sc x = true then
    if hs : unstar a = true ∧ unstar b = true then
      if h : x = ("isinstance" : Str) then
        match b with
        | .Name y py => match tyOf y with
          | some ⟨t, ht⟩ => if hg2 : glB P.sc y = true then do
              let ⟨ea, ha⟩ ← c.e P a
              return ⟨.isin ea t, fun X C g => by subst h; subst ht; exact i_isin hs.1 (g.gl hg) (g.bl _ (by decide +kernel)) (g.gl hg2) (g.bl _ (by cases t <;> decide +kernel)) (ha X C g)⟩
            else none
          | none => none
        | _ => none
      else if h : x = ("max" : Str) then do
        let ⟨ea, ha⟩ ← c.e P a
        let ⟨eb, hb⟩ ← c.e P b
        return ⟨.max2 ea eb, fun X C g => by
          subst h
          exact (pe_callB (k_max2 g.calm) (g.gl hg) (g.bl _ (by decide +kernel)) (by decide +kernel) (pa_cons (ha X C g) (pa_1 hs.2 (hb X C g)) (star_cons hs.1 _ X.env)) (by decide) (by decide) (star_cons hs.1 _ X.env) (star_any (es := [b]) (by simp [hs.2]) X.env pos)).le fun _ _ _ q => tV2 (fun _ _ => rfl) q⟩
      else if h : x = ("min" : Str) then do
        let ⟨ea, ha⟩ ← c.e P a
        let ⟨eb, hb⟩ ← c.e P b
        return ⟨.min2 ea eb, fun X C g => by
          subst h
          exact (pe_callB (k_min2 g.calm) (g.gl hg) (g.bl _ (by decide +kernel)) (by decide +kernel) (pa_cons (ha X C g) (pa_1 hs.2 (hb X C g)) (star_cons hs.1 _ X.env)) (by decide) (by decide) (star_cons hs.1 _ X.env) (star_any (es := [b]) (by simp [hs.2]) X.env pos)).le fun _ _ _ q => tV2 (fun _ _ => rfl) q⟩
      else none
    else none
  else none
def stepName (P : Pl) (x : Str) (pos : Pos) : Option { y : E // IE P (.Name x pos) y } :=
  match h : ixOf x P.N with
  | some i => if h2 : (visB P.sc x && !reserved x) = true then some ⟨.var i, fun X C g => by
      rw [Bool.and_eq_true] at h2
      exact i_var (g.slot h) (g.vis h2.1) (not_reserved h2.2).1 (not_reserved h2.2).2⟩ else none
  | none => none
def stepConst (P : Pl) (v : Const) (k : Nat) (pos : Pos) : Option { y : E // IE P (.Constant v k pos) y } :=
  match v with
  | .none => some ⟨.non, fun X C g => i_non⟩
  | .bool b => some ⟨.bl b, fun X C g => i_bl⟩
  | .int i => some ⟨.int i, fun X C g => i_int⟩
  | .str s => some ⟨.str s, fun X C g => i_str⟩
  | _ => none
def stepAlloc (c : Cm) (P : Pl) (e : Expr) : Option { y : E // IE P e y } := do
  let ⟨qa, ha⟩ ← c.q P e
  return ⟨.alloc qa, fun X C g => i_alloc (ha X C g)⟩
def stepBin (c : Cm) (P : Pl) (a b : Expr) (o : Operator) (pos : Pos) : Option { y : E // IE P (.BinOp a o b pos) y } :=
  match h : opOf o with
  | some op => do
    let ⟨ea, ha⟩ ← c.e P a
    let ⟨eb, hb⟩ ← c.e P b
    return ⟨.bin op ea eb, fun X C g => i_bin h (ha X C g) (hb X C g)⟩
  | none => none
def isNone : Expr → Bool
  | .Constant .none _ _ => true | _ => false
def stepCmp1 (c : Cm) (P : Pl) (a b : Expr) (o : CmpOp) (pos : Pos) : Option { y : E // IE P (.Compare a [o] [b] pos) y ∧ IT P (.Compare a [o] [b] pos) y } :=
  match h : cpOf o with
  | some op => if hm : behindInMarks o b = false then do
      let ⟨ea, ha⟩ ← c.e P a
      let ⟨eb, hb⟩ ← c.e P b
      return ⟨.cmp op ea eb, fun X C g => i_cmp g.hu h hm (ha X C g) (hb X C g), fun X C g => t_cmp g.hu h hm (ha X C g) (hb X C g)⟩
    else none
  | none => match o, b with
    | .Is, .Constant .none j p => do
      let ⟨ea, ha⟩ ← c.e P a
      return ⟨.cmp .is_ ea .non, fun X C g => i_isN (ha X C g), fun X C g => t_isN (ha X C g)⟩
    | .IsNot, .Constant .none j p => do
      let ⟨ea, ha⟩ ← c.e P a
      return ⟨.cmp .isnot ea .non, fun X C g => i_notN (ha X C g), fun X C g => t_notN (ha X C g)⟩
    | _, _ => none
def stepCmp (c : Cm) (P : Pl) (a : Expr) (os : List CmpOp) (bs : List Expr) (pos : Pos) : Option { y : E // IE P (.Compare a os bs pos) y ∧ IT P (.Compare a os bs pos) y } :=
  match os, bs with
  | [o], [b] => stepCmp1 c P a b o pos
  | [o, o'], [b, d] => match h : cpOf o, h' : cpOf o' with
    | some op, some op' => if hm : lastMarks [o, o'] [b, d] = false then do
        let ⟨ea, ha⟩ ← c.e P a
        let ⟨eb, hb⟩ ← c.e P b
        let ⟨ed, hd⟩ ← c.e P d
        return ⟨.chain op op' ea eb ed, fun X C g => i_chain g.hu h h' hm (ha X C g) (hb X C g) (hd X C g), fun X C g => t_chain g.hu h h' hm (ha X C g) (hb X C g) (hd X C g)⟩
      else none
    | _, _ => none
  | [o, o', o''], [b, d, e] => match h : cpOf o, h' : cpOf o', h'' : cpOf o'' with
    | some op, some op', some op'' => if hm : lastMarks [o, o', o''] [b, d, e] = false then do
        let ⟨ea, ha⟩ ← c.e P a
        let ⟨eb, hb⟩ ← c.e P b
        let ⟨ed, hd⟩ ← c.e P d
        let ⟨ee, he⟩ ← c.e P e
        return ⟨.chain3 op op' op'' ea eb ed ee, fun X C g => i_chain3 g.hu h h' h'' hm (ha X C g) (hb X C g) (hd X C g) (he X C g), fun X C g => t_chain3 g.hu h h' h'' hm (ha X C g) (hb X C g) (hd X C g) (he X C g)⟩
      else none
    | _, _, _ => none
  | _, _ => none
def stepBool (c : Cm) (P : Pl) (op : BoolOp) (es : List Expr) (pos : Pos) : Option { y : E // IE P (.BoolOp op es pos) y } :=
  match es with
  | [a] => do
    let ⟨ea, ha⟩ ← c.e P a
    return ⟨ea, fun X C g => pe_one (ha X C g)⟩
  | a :: b :: rest => match op with
    | .And => do
      let ⟨ea, ha⟩ ← c.e P a
      let ⟨eb, hb⟩ ← c.e P (.BoolOp .And (b :: rest) pos)
      return ⟨.and ea eb, fun X C g => i_and (ha X C g) (hb X C g)⟩
    | .Or => do
      let ⟨ea, ha⟩ ← c.e P a
      let ⟨eb, hb⟩ ← c.e P (.BoolOp .Or (b :: rest) pos)
      return ⟨.or ea eb, fun X C g => i_or (ha X C g) (hb X C g)⟩
  | [] => none
def stepW (c : Cm) (P : Pl) (e : Expr) : Option { y : E // IW P e y } :=
  match e with
  | .BoolOp .And [a] pos => do
    let ⟨ea, ha⟩ ← c.t P a
    return ⟨ea, fun X C g => pw_and1 (ha X C g)⟩
  | .BoolOp .Or [a] pos => do
    let ⟨ea, ha⟩ ← c.t P a
    return ⟨ea, fun X C g => pw_or1 (ha X C g)⟩
  | .BoolOp .And (a :: b :: rest) pos => do
    let ⟨ea, ha⟩ ← c.t P a
    let ⟨eb, hb⟩ ← c.w P (.BoolOp .And (b :: rest) pos)
    return ⟨.and ea eb, fun X C g => w_and (ha X C g) (hb X C g)⟩
  | .BoolOp .Or (a :: b :: rest) pos => do
    let ⟨ea, ha⟩ ← c.t P a
    let ⟨eb, hb⟩ ← c.w P (.BoolOp .Or (b :: rest) pos)
    return ⟨.or ea eb, fun X C g => w_or (ha X C g) (hb X C g)⟩
  | _ => none
def stepT (c : Cm) (P : Pl) (e : Expr) : Option { y : E // IT P e y } :=
  match e with
  | .BoolOp op es pos => do
    let ⟨ea, ha⟩ ← c.w P (.BoolOp op es pos)
    return ⟨ea, fun X C g => (ha X C g).pt⟩
  | .UnaryOp .Not a pos => do
    let ⟨ea, ha⟩ ← c.t P a
    return ⟨.not ea, fun X C g => t_not (ha X C g)⟩
  | .Compare a os bs pos => do
    let ⟨ea, ha⟩ ← stepCmp c P a os bs pos
    return ⟨ea, fun X C g => ha.2 X C g⟩
  | .Call f as ks pos => do
    let ⟨ea, ha⟩ ← c.e P (.Call f as ks pos)
    return ⟨ea, fun X C g => t_val (ha X C g) fun _ => rfl⟩
  | .Name x pos => do
    let ⟨ea, ha⟩ ← c.e P (.Name x pos)
    return ⟨ea, fun X C g => t_val (ha X C g) fun _ => rfl⟩
  | .Subscript a b pos => do
    let ⟨ea, ha⟩ ← c.e P (.Subscript a b pos)
    return ⟨ea, fun X C g => t_val (ha X C g) fun _ => rfl⟩
  | _ => none
def stepEs (c : Cm) (P : Pl) (es : List Expr) : Option { y : Es // IEs P es y } :=
  match es with
  | [] => some ⟨.nil, fun X C g => a_nil⟩
  | a :: as => if hs : unstar a = true then do
      let ⟨ea, ha⟩ ← c.e P a
      let ⟨es, hes⟩ ← c.es P as
      return ⟨.cons ea es, fun X C g => a_cons hs (ha X C g) (hes X C g)⟩
    else none
def stepO (c : Cm) (P : Pl) (e : Option Expr) : Option { y : Oe // IO P e y } :=
  match e with
  | none => some ⟨.no, fun X C g => o_no⟩
  | some a => do
    let ⟨ea, ha⟩ ← c.e P a
    return ⟨.yes ea, fun X C g => o_yes (ha X C g)⟩
def stepSub (c : Cm) (P : Pl) (a b : Expr) (pos : Pos) : Option { y : E // IE P (.Subscript a b pos) y } :=
  match b with
  | .Slice lo hi none p2 => do
    let ⟨ea, ha⟩ ← c.e P a
    let ⟨el, hl⟩ ← stepO c P lo
    let ⟨eh, hh⟩ ← stepO c P hi
    return ⟨.cut ea el eh, fun X C g => i_cut (ha X C g) (hl X C g) (hh X C g)⟩
  | .Slice none none (some (.UnaryOp .USub (.Constant (.int 1) k p1) p2)) p3 => do
    let ⟨ea, ha⟩ ← c.e P a
    return ⟨.rev ea, fun X C g => i_rev (ha X C g)⟩
  | .Slice none (some b) (some (.UnaryOp .USub (.Constant (.int 1) k p1) p2)) p3 => do
    let ⟨ea, ha⟩ ← c.e P a
    let ⟨eb, hb⟩ ← c.e P b
    return ⟨.revTo ea eb, fun X C g => i_revTo (ha X C g) (hb X C g)⟩
  | .Slice .. => none
  | .Name x p => do
    let ⟨ea, ha⟩ ← c.e P a
    let ⟨eb, hb⟩ ← c.e P (.Name x p)
    return ⟨.idx ea eb, fun X C g => i_idx (ha X C g) (hb X C g) fun _ _ => rfl⟩
  | .Constant x k p => do
    let ⟨ea, ha⟩ ← c.e P a
    let ⟨eb, hb⟩ ← c.e P (.Constant x k p)
    return ⟨.idx ea eb, fun X C g => i_idx (ha X C g) (hb X C g) fun _ _ => rfl⟩
  | .BinOp x o y p => do
    let ⟨ea, ha⟩ ← c.e P a
    let ⟨eb, hb⟩ ← c.e P (.BinOp x o y p)
    return ⟨.idx ea eb, fun X C g => i_idx (ha X C g) (hb X C g) fun _ _ => rfl⟩
  | .UnaryOp o y p => do
    let ⟨ea, ha⟩ ← c.e P a
    let ⟨eb, hb⟩ ← c.e P (.UnaryOp o y p)
    return ⟨.idx ea eb, fun X C g => i_idx (ha X C g) (hb X C g) fun _ _ => rfl⟩
  | .Subscript x y p => do
    let ⟨ea, ha⟩ ← c.e P a
    let ⟨eb, hb⟩ ← c.e P (.Subscript x y p)
    return ⟨.idx ea eb, fun X C g => i_idx (ha X C g) (hb X C g) fun _ _ => rfl⟩
  | .Call x y z p => do
    let ⟨ea, ha⟩ ← c.e P a
    let ⟨eb, hb⟩ ← c.e P (.Call x y z p)
    return ⟨.idx ea eb, fun X C g => i_idx (ha X C g) (hb X C g) fun _ _ => rfl⟩
  | _ => none
def stepMeth (c : Cm) (P : Pl) (a : Expr) (m : Str) (apos : Pos) (es : List Expr) (pos : Pos) : Option { y : E // IE P (.Call (.Attribute a m apos) es [] pos) y } :=
  if hb : baseOk a = true then
    if hl : (apos.endLine == pos.line) = true then
      match es with
      | [] =>
        if h : m = ("pop" : Str) then do
          let ⟨ea, ha⟩ ← c.e P a
          return ⟨.pop ea, fun X C g => by subst h; exact i_pop hb hl (ha X C g)⟩
        else if h : m = ("reverse" : Str) then do
          let ⟨ea, ha⟩ ← c.e P a
          return ⟨.reverse ea, fun X C g => by subst h; exact i_reverse hb hl (ha X C g)⟩
        else none
      | [b] => if hs : unstar b = true then
          if h : m = ("pop" : Str) then do
            let ⟨ea, ha⟩ ← c.e P a
            let ⟨eb, hbb⟩ ← c.e P b
            return ⟨.popAt ea eb, fun X C g => by subst h; exact i_popAt hb hl hs (ha X C g) (hbb X C g)⟩
          else if h : m = ("append" : Str) then do
            let ⟨ea, ha⟩ ← c.e P a
            let ⟨eb, hbb⟩ ← c.e P b
            return ⟨.append ea eb, fun X C g => by subst h; exact i_append hb hl hs (ha X C g) (hbb X C g)⟩
          else if h : m = ("index" : Str) then do
            let ⟨ea, ha⟩ ← c.e P a
            let ⟨eb, hbb⟩ ← c.e P b
            return ⟨.index ea eb, fun X C g => by subst h; exact i_index hb hl hs (ha X C g) (hbb X C g)⟩
          else if h : m = ("count" : Str) then do
            let ⟨ea, ha⟩ ← c.e P a
            let ⟨eb, hbb⟩ ← c.e P b
            return ⟨.count ea eb, fun X C g => by subst h; exact i_count hb hl hs (ha X C g) (hbb X C g)⟩
          else none
        else none
      | [b, d] => if hs : unstar b = true ∧ unstar d = true then
          if h : m = ("index" : Str) then do
            let ⟨ea, ha⟩ ← c.e P a
            let ⟨eb, hbb⟩ ← c.e P b
            let ⟨ed, hd⟩ ← c.e P d
            return ⟨.index2 ea eb ed, fun X C g => by subst h; exact i_index2 hb hl hs.1 hs.2 (ha X C g) (hbb X C g) (hd X C g)⟩
          else none
        else none
      | _ => none
    else none
  else none
def stepCall (c : Cm) (P : Pl) (x : Str) (p : Pos) (es : List Expr) (pos : Pos) : Option { y : E // IE P (.Call (.Name x p) es [] pos) y } :=
  match h : P.fns.lookup x with
  | some f => if hg : (glB P.sc x && !reserved x) = true then
      match es with
      | [] => some ⟨.call f .nil, fun X C g => by
          rw [Bool.and_eq_true] at hg
          exact i_call0 (g.gl hg.1) (g.de x f h) (not_reserved hg.2).1⟩
      | e :: es => if hs : (e :: es).all unstar = true then do
          let ⟨ees, hes⟩ ← c.es P (e :: es)
          return ⟨.call f ees, fun X C g => by
            rw [Bool.and_eq_true] at hg
            exact i_call (g.gl hg.1) (g.de x f h) (hes X C g) hs (not_reserved hg.2).1⟩
        else none
    else none
  | none => match es with
    | [a] => call1 c P x a p pos
    | [a, b] => call2 c P x a b p pos
    | _ => none
def stepE (c : Cm) (P : Pl) (e : Expr) : Option { y : E // IE P e y } :=
  if listy e = true then stepAlloc c P e else
  match e with
  | .Name x pos => stepName P x pos
  | .Constant v k pos => stepConst P v k pos
  | .BinOp a o b pos => stepBin c P a b o pos
  | .UnaryOp .USub a pos => do
    let ⟨ea, ha⟩ ← c.e P a
    return ⟨.neg ea, fun X C g => i_neg (ha X C g)⟩
  | .UnaryOp .Not a pos => do
    let ⟨ea, ha⟩ ← c.e P a
    return ⟨.not ea, fun X C g => i_not (ha X C g)⟩
  | .Compare a os bs pos => do
    let ⟨ea, ha⟩ ← stepCmp c P a os bs pos
    return ⟨ea, fun X C g => ha.1 X C g⟩
  | .BoolOp op es pos => stepBool c P op es pos
  | .IfExp t a b pos => do
    let ⟨et, ht⟩ ← c.t P t
    let ⟨ea, ha⟩ ← c.e P a
    let ⟨eb, hb⟩ ← c.e P b
    return ⟨.ite et ea eb, fun X C g => i_ite (ht X C g) (ha X C g) (hb X C g)⟩
  | .Tuple es k pos => do
    let ⟨ees, hes⟩ ← c.es P es
    return ⟨.tup ees, fun X C g => i_tup (hes X C g)⟩
  | .Subscript a b pos => stepSub c P a b pos
  | .Call (.Attribute a m apos) es [] pos => stepMeth c P a m apos es pos
  | .Call (.Name x p) es [] pos => stepCall c P x p es pos
  | _ => none
end Ol
set_option Elab.async false
set_option linter.all false
set_option maxRecDepth 100000
set_option maxHeartbeats 4000000
namespace Ol
open PySem PySem.Spec PyProof.Rows L2
/-! ### loops' targets -/
def stepG1 (P : Pl) (e : Expr) : Option ((x : Str) × { i : Nat // IG P e (.one i) }) :=
  match e with
  | .Name x pos => match h : ixOf x P.N with
    | some i => if h2 : setB P x = true then some ⟨x, i, fun X C g => g_one g.nd (g.slot h) (g.set1 h2).1 (g.set1 h2).2⟩ else none
    | none => none
  | _ => none
theorem gName_of {P : Pl} {e : Expr} {i : Nat} (h : IG P e (.one i)) (X : Cx) (C : CT) (g : Gd P X C) : PG X e (gName i) := h X C g
def stepGs (P : Pl) : (es : List Expr) → Option ((own : List (Str × Nat)) ×' IGs P es (own.map (·.2)))
  | [] => some ⟨[], fun X C g => gs_nil⟩
  | e :: es => if hs : unstar e = true then do
      let ⟨x, i, h1⟩ ← stepG1 P e
      let ⟨own, h2⟩ ← stepGs P es
      return ⟨(x, i) :: own, fun X C g => gs_cons hs (gName_of h1 X C g) (h2 X C g)⟩
    else none
def stepG (P : Pl) (e : Expr) : Option ((l : Tgt) × { own : List (Str × Nat) // own.map (·.2) = l.slots ∧ IG P e l }) :=
  match e with
  | .Tuple es k pos => if hs : es.all unstar = true then do
      let ⟨own, h⟩ ← stepGs P es
      if hl : es.length = (own.map (·.2)).length then
        return ⟨.many (own.map (·.2)), own, rfl, fun X C g => g_many g.calm hs hl (h X C g)⟩
      else none
    else none
  | .Name x pos => do
    let ⟨x, i, h⟩ ← stepG1 P (.Name x pos)
    return ⟨.one i, [(x, i)], rfl, h⟩
  | _ => none
/-! ### blocks -/
def Pl.blk (P : Pl) (scope : Scope) : Pl := { P with sc := relS scope P.sc, fo := some scope }
theorem Gd.blk {P : Pl} {X : Cx} {C : CT} (g : Gd P X C) (scope : Scope) (s : Shared) (H : Hp) (Cc : Addr) (cl : List (Str × Addr)) (fp : List Addr) : Gd (P.blk scope) (X.blk s H scope (compEnvC scope cl Cc X.env) fp) C where
  hN := g.hN
  nd := g.nd
  sc := by show relS scope X.env.scope = relS scope P.sc; rw [g.sc]
  calm := g.calm
  xe := rfl
  hu := g.hu
  bl := g.bl
  de := fun x f h => ⟨(g.de x f h).ex⟩
  fn := fun x h => h
/-- the tests of a comprehension -/
def stepIfs (c : Cm) (P : Pl) (ifs : List Expr) : Option ((x : E) ×' ∃ tt : PySem.W.Frag → CT → TT, ∀ (X : Cx) (C : CT), TestOk X.K C x (tt X.K C) ∧ (Gd P X C → PTs X ifs (tt X.K C))) :=
  match ifs with
  | [] => some ⟨.bl true, fun _ _ => tYes, fun X C => ⟨test_yes, fun g => pts_nil⟩⟩
  | [a] => do
    let ⟨ea, ha⟩ ← c.t P a
    return ⟨ea, fun K C => tT K C ea, fun X C => ⟨fun _ _ _ h => h, fun g => pts_one (ha X C g)⟩⟩
  | _ => none
/-- a comprehension's parts -/
structure LcOk (P : Pl) (elt tg iter : Expr) (ifs : List Expr) (scope : Scope) (ea : E) (l : Tgt) (it : It) (ec : E) : Prop where
  own : ∃ own : List (Str × Nat), BlkOk P.N P.sc scope own ∧ own.map (·.2) = l.slots
  gTg : IG (P.blk scope) tg l
  gIt : II P tg iter it
  gElt : IE (P.blk scope) elt ea
  tt : ∃ tt : PySem.W.Frag → CT → TT, ∀ (X : Cx) (C : CT), TestOk X.K C ec (tt X.K C) ∧ (Gd (P.blk scope) X C → PTs X ifs (tt X.K C))
  fs : noSet iter = true
def stepLc (c : Cm) (P : Pl) (elt tg iter : Expr) (ifs : List Expr) (scope : Scope) : Option ((x : E × Tgt × It × E) ×' LcOk P elt tg iter ifs scope x.1 x.2.1 x.2.2.1 x.2.2.2) := do
  let ⟨l, own, ho, hg⟩ ← stepG (P.blk scope) tg
  let ⟨it, hi⟩ ← c.i P tg iter
  let ⟨ea, he⟩ ← c.e (P.blk scope) elt
  let ⟨ec, ht⟩ ← stepIfs c (P.blk scope) ifs
  if hb : blkC P.N P.sc scope own = true then
    if hf : noSet iter = true then
      return ⟨(ea, l, it, ec), ⟨own, blkOk_by hb, ho⟩, hg, hi, he, ht, hf⟩
    else none
  else none
theorem lc_q {P : Pl} {elt tg iter : Expr} {ifs : List Expr} {scope : Scope} {pos : Pos} {ea : E} {l : Tgt} {it : It} {ec : E} (h : LcOk P elt tg iter ifs scope ea l it ec) : IQ P (.ListComp elt [⟨tg, iter, ifs, 0⟩] scope pos) (.comp ea l it ec) := fun X C g => by
  obtain ⟨⟨own, hb, ho⟩, hg, hi, he, ⟨tt, ht⟩, hf⟩ := h
  exact q_comp (tt := tt X.K C) g.calm g.nd (hi X C g) (by rw [g.hN, g.sc]; exact hb) ho (ht X C).1 (fun s H Cc cl fp => hg _ C (g.blk scope s H Cc cl fp))
    (fun s H Cc cl fp => (ht (X.blk s H scope (compEnvC scope cl Cc X.env) fp) C).2 (g.blk scope s H Cc cl fp)) (fun s H Cc cl fp => he _ C (g.blk scope s H Cc cl fp)) (folded hf _)
/-! ### sequences -/
def stepQ (c : Cm) (P : Pl) (e : Expr) : Option { y : Q // IQ P e y } :=
  if listy e = true then
    match e with
    | .List es pos => do
      let ⟨ees, h⟩ ← c.es P es
      return ⟨.disp ees, fun X C g => q_disp (h X C g)⟩
    | .ListComp elt [⟨tg, iter, ifs, 0⟩] scope pos => do
      let ⟨x, h⟩ ← stepLc c P elt tg iter ifs scope
      return ⟨.comp x.1 x.2.1 x.2.2.1 x.2.2.2, lc_q h⟩
    | .Call (.Name x p) [a] [] pos => if hg : glB P.sc x = true then
        if h : x = ("list" : Str) then
          match a with
          | .Call (.Name y p2) [b] [] pos2 => if hy : y = ("range" : Str) then
              if hs : unstar b = true ∧ glB P.sc y = true then do
                let ⟨eb, hb⟩ ← c.e P b
                return ⟨.listRng (.rng1 eb), fun X C g => by subst h; subst hy; exact q_lr1 g.calm hs.1 (g.gl hg) (g.bl _ (by decide +kernel)) (g.gl hs.2) (g.bl _ (by decide +kernel)) (hb X C g)⟩
              else none
            else do
              let ⟨qa, ha⟩ ← c.q P (.Call (.Name y p2) [b] [] pos2)
              return ⟨.listOf qa, fun X C g => by subst h; exact q_list rfl (g.gl hg) (g.bl _ (by decide +kernel)) (ha X C g)⟩
          | a => if hs : unstar a = true then do
              let ⟨qa, ha⟩ ← c.q P a
              return ⟨.listOf qa, fun X C g => by subst h; exact q_list hs (g.gl hg) (g.bl _ (by decide +kernel)) (ha X C g)⟩
            else none
        else if h : x = ("sorted" : Str) then
          if hs : unstar a = true then do
            let ⟨qa, ha⟩ ← c.q P a
            return ⟨.sorted qa, fun X C g => by subst h; exact q_sorted g.hu hs (g.gl hg) (g.bl _ (by decide +kernel)) (ha X C g)⟩
          else none
        else none
      else none
    | .BinOp a .Add b pos => do
      let ⟨qa, ha⟩ ← c.q P a
      let ⟨qb, hb⟩ ← c.q P b
      return ⟨.cat qa qb, fun X C g => q_cat (ha X C g) (hb X C g)⟩
    | .BinOp a .Mult b pos => do
      let ⟨qa, ha⟩ ← c.q P a
      let ⟨eb, hb⟩ ← c.e P b
      return ⟨.rep qa eb, fun X C g => q_rep (ha X C g) (hb X C g)⟩
    | _ => none
  else do
    let ⟨ea, ha⟩ ← c.e P e
    return ⟨.ofE ea, fun X C g => q_of (ha X C g)⟩
def stepI0 (c : Cm) (P : Pl) (tg e : Expr) : Option { y : It // II P tg e y } := do
    let ⟨qa, ha⟩ ← c.q P e
    return ⟨.seq qa, fun X C g => n_seq (ha X C g)⟩
def stepI (c : Cm) (P : Pl) (tg e : Expr) : Option { y : It // II P tg e y } :=
  match e with
  | .Call (.Name x p) [a] [] pos => if h : x = ("range" : Str) then
      if hs : unstar a = true ∧ glB P.sc x = true then do
        let ⟨ea, ha⟩ ← c.e P a
        return ⟨.rng1 ea, fun X C g => by subst h; exact n_rng1 hs.1 (g.gl hs.2) (g.bl _ (by decide +kernel)) (ha X C g)⟩
      else none
    else stepI0 c P tg (.Call (.Name x p) [a] [] pos)
  | .Call (.Name x p) [a, b] [] pos => if h : x = ("range" : Str) then
      if hs : unstar a = true ∧ unstar b = true ∧ glB P.sc x = true then do
        let ⟨ea, ha⟩ ← c.e P a
        let ⟨eb, hb⟩ ← c.e P b
        return ⟨.rng2 ea eb, fun X C g => by subst h; exact n_rng2 hs.1 hs.2.1 (g.gl hs.2.2) (g.bl _ (by decide +kernel)) (ha X C g) (hb X C g)⟩
      else none
    else stepI0 c P tg (.Call (.Name x p) [a, b] [] pos)
  | e => stepI0 c P tg e
/-! ### targets -/
def stepL (c : Cm) (P : Pl) (e : Expr) : Option { y : Lh // IL P e y } :=
  match e with
  | .Name x pos => match h : ixOf x P.N with
    | some i => if h2 : setB P x = true then some ⟨.nm i, fun X C g => l_nm g.nd (g.slot h) (g.set1 h2).1 (g.set1 h2).2⟩ else none
    | none => none
  | .Tuple es k pos => if hs : es.all unstar = true then do
      let ⟨ls, h⟩ ← c.ls P es
      if hl : ls.len = es.length then
        return ⟨.tup ls, fun X C g => l_tup g.calm hs (h X C g) fun r => (runLs_len r).trans hl⟩
      else none
    else none
  | .Subscript a (.Name x p) pos => do
    let ⟨ea, ha⟩ ← c.e P a
    let ⟨eb, hb⟩ ← c.e P (.Name x p)
    return ⟨.sub ea eb, fun X C g => l_sub (ha X C g) (hb X C g) fun _ => rfl⟩
  | .Subscript a (.Constant x k p) pos => do
    let ⟨ea, ha⟩ ← c.e P a
    let ⟨eb, hb⟩ ← c.e P (.Constant x k p)
    return ⟨.sub ea eb, fun X C g => l_sub (ha X C g) (hb X C g) fun _ => rfl⟩
  | .Subscript a (.BinOp x o y p) pos => do
    let ⟨ea, ha⟩ ← c.e P a
    let ⟨eb, hb⟩ ← c.e P (.BinOp x o y p)
    return ⟨.sub ea eb, fun X C g => l_sub (ha X C g) (hb X C g) fun _ => rfl⟩
  | .Subscript a (.Subscript x y p) pos => do
    let ⟨ea, ha⟩ ← c.e P a
    let ⟨eb, hb⟩ ← c.e P (.Subscript x y p)
    return ⟨.sub ea eb, fun X C g => l_sub (ha X C g) (hb X C g) fun _ => rfl⟩
  | .Subscript a (.Call x y z p) pos => do
    let ⟨ea, ha⟩ ← c.e P a
    let ⟨eb, hb⟩ ← c.e P (.Call x y z p)
    return ⟨.sub ea eb, fun X C g => l_sub (ha X C g) (hb X C g) fun _ => rfl⟩
  | _ => none
def stepLs (c : Cm) (P : Pl) (es : List Expr) : Option { y : Lhs // ILs P es y } :=
  match es with
  | [] => some ⟨.nil, fun X C g => ls_nil⟩
  | e :: es => if hs : unstar e = true then do
      let ⟨l, h1⟩ ← c.l P e
      let ⟨ls, h2⟩ ← c.ls P es
      return ⟨.cons l ls, fun X C g => ls_cons hs (h1 X C g) (h2 X C g)⟩
    else none
/-! ### statements -/
/-- a frame that bears the names alone -/
def bare (sc : Scope) : Env := { scope := sc, locals := 0, globals := 0, cells := [] }
def pureOf {α : Type} : Sem α → Option α
  | .pure a => some a | _ => none
theorem pureOf_ok {α : Type} {t : Sem α} {a : α} (h : pureOf t = some a) : t = pure a := by
  cases t with
  | pure b => cases h; rfl
  | _ => cases h
theorem sole_bare (ts : List Expr) (e : Expr) (l : Nat) (env : Env) : swapsWithSole ts e l env = swapsWithSole ts e l (bare env.scope) := by
  match ts with
  | [] => rfl
  | [t] => rfl
  | _ :: _ :: _ => rfl
theorem swaps_bare (t : Option Expr) (e : Expr) (l : Nat) (env : Env) : swapsWith e t l env = swapsWith e t l (bare env.scope) := rfl
theorem swapped_bare (ts : List Expr) (e : Expr) (env : Env) : swappedStores ts e env = swappedStores ts e (bare env.scope) := rfl
def soleB (ts : List Expr) (e : Expr) (l : Nat) (sc : Scope) : Bool := match pureOf (swapsWithSole ts e l (bare sc)) with
  | some false => true | _ => false
theorem soleB_ok {ts : List Expr} {e : Expr} {l : Nat} {env : Env} {P : Pl} (hs : env.scope = P.sc) (h : soleB ts e l P.sc = true) : swapsWithSole ts e l env = pure false := by
  unfold soleB at h
  rw [sole_bare, hs]
  split at h
  · exact pureOf_ok (by assumption)
  · cases h
def swB (t e : Expr) (l : Nat) (sc : Scope) (b : Bool) : Bool := match pureOf (swapsWith e (some t) l (bare sc)) with
  | some c => c == b | _ => false
theorem swB_ok {t e : Expr} {l : Nat} {b : Bool} {env : Env} {P : Pl} (hs : env.scope = P.sc) (h : swB t e l P.sc b = true) : swapsWith e (some t) l env = pure b := by
  unfold swB at h
  rw [swaps_bare, hs]
  split at h
  · rename_i c hc
    rw [eq_of_beq h] at hc
    exact pureOf_ok hc
  · cases h
def storeB (ts : List Expr) (e : Expr) (sc : Scope) (r : Option (List Str)) : Bool := match pureOf (swappedStores ts e (bare sc)) with
  | some c => decide (c = r) | _ => false
theorem storeB_ok {ts : List Expr} {e : Expr} {r : Option (List Str)} {env : Env} {P : Pl} (hs : env.scope = P.sc) (h : storeB ts e P.sc r = true) : swappedStores ts e env = pure r := by
  unfold storeB at h
  rw [swapped_bare, hs]
  split at h
  · rename_i c hc
    rw [of_decide_eq_true h] at hc
    exact pureOf_ok hc
  · cases h
def stepSet (c : Cm) (P : Pl) (t e : Expr) (pos : Pos) : Option { y : St // IS P (.Assign [t] e pos) y } :=
  if h : (unstar t && soleB [t] e pos.line P.sc && storeB [t] e P.sc none) = true then do
    let ⟨l, hl⟩ ← c.l P t
    let ⟨ee, he⟩ ← c.e P e
    return ⟨.set l ee, fun X C g => by
      rw [Bool.and_eq_true, Bool.and_eq_true] at h
      exact s_set (he X C g) (hl X C g) h.1.1 (soleB_ok g.sc h.1.2) (storeB_ok g.sc h.2)⟩
  else none
def stepAsg (c : Cm) (P : Pl) (t e : Expr) (pos : Pos) : Option { y : St // IS P (.Assign [t] e pos) y } :=
  match t, e with
  | .Name y py, .ListComp elt [⟨tg, iter, ifs, 0⟩] scope p => match hi : ixOf y P.N with
    | some i =>
      if h : (swB (.Name y py) (.ListComp elt [⟨tg, iter, ifs, 0⟩] scope p) pos.line P.sc true && lclB P.sc y) = true then do
        let ⟨x, hx⟩ ← stepLc c P elt tg iter ifs scope
        return ⟨.set (.nm i) (.alloc (.comp x.1 x.2.1 x.2.2.1 x.2.2.2)), fun X C g => by
          rw [Bool.and_eq_true] at h
          obtain ⟨⟨own, hb, ho⟩, hg, hi2, he, ⟨tt, ht⟩, hf⟩ := hx
          exact s_comp (tt := tt X.K C) g.calm g.nd (g.slot hi) (g.lcl h.2) (swB_ok g.sc h.1) (hi2 X C g) (by rw [g.hN, g.sc]; exact hb) ho (ht X C).1 (fun s H Cc cl fp => hg _ C (g.blk scope s H Cc cl fp))
            (fun s H Cc cl fp => (ht (X.blk s H scope (compEnvC scope cl Cc X.env) fp) C).2 (g.blk scope s H Cc cl fp)) (fun s H Cc cl fp => he _ C (g.blk scope s H Cc cl fp)) (folded hf _)⟩
      else if h : (swB (.Name y py) (.ListComp elt [⟨tg, iter, ifs, 0⟩] scope p) pos.line P.sc false && setB P y) = true then do
        let ⟨ee, he⟩ ← c.e P (.ListComp elt [⟨tg, iter, ifs, 0⟩] scope p)
        return ⟨.set (.nm i) ee, fun X C g => by
          rw [Bool.and_eq_true] at h
          exact s_name g.nd (g.slot hi) (g.set1 h.2).1 (g.set1 h.2).2 (he X C g) (swB_ok g.sc h.1)⟩
      else none
    | none => none
  | .Name y py, e => match hi : ixOf y P.N with
    | some i => if h : (plainE e && setB P y) = true then do
        let ⟨ee, he⟩ ← c.e P e
        return ⟨.set (.nm i) ee, fun X C g => by
          rw [Bool.and_eq_true] at h
          exact s_name g.nd (g.slot hi) (g.set1 h.2).1 (g.set1 h.2).2 (he X C g) (sw_plain h.1 _ _ _)⟩
      else none
    | none => none
  | .Tuple [.Name x px, .Name y py] kt pt, .Tuple [a, b] k2 pt2 => match hi : ixOf x P.N, hj : ixOf y P.N with
    | some i, some j =>
      if h : (storeB [.Tuple [.Name x px, .Name y py] kt pt] (.Tuple [a, b] k2 pt2) P.sc (some [x, y]) && soleB [.Tuple [.Name x px, .Name y py] kt pt] (.Tuple [a, b] k2 pt2) pos.line P.sc && lclB P.sc x && lclB P.sc y && decide (i ≠ j)) = true then do
        let ⟨ees, he⟩ ← c.es P [a, b]
        return ⟨.set (.tup (.cons (.nm i) (.cons (.nm j) .nil))) (.tup ees), fun X C g => by
          simp only [Bool.and_eq_true] at h
          obtain ⟨⟨⟨⟨h1, h2⟩, h3⟩, h4⟩, h5⟩ := h
          exact s_par g.calm g.nd (g.slot hi) (g.slot hj) (of_decide_eq_true h5) (g.lcl h3) (g.lcl h4) (he X C g) (storeB_ok g.sc h1) (soleB_ok g.sc h2)⟩
      else stepSet c P (.Tuple [.Name x px, .Name y py] kt pt) (.Tuple [a, b] k2 pt2) pos
    | _, _ => none
  | t, e => stepSet c P t e pos
def augOf : (o : Operator) → Option { op : Op // o = .Add ∧ op = .add ∨ o = .Sub ∧ op = .sub ∨ o = .Mult ∧ op = .mul ∨ o = .FloorDiv ∧ op = .fdiv ∨ o = .Mod ∧ op = .mod ∨ o = .BitXor ∧ op = .bxor }
  | .Add => some ⟨.add, by simp⟩ | .Sub => some ⟨.sub, by simp⟩ | .Mult => some ⟨.mul, by simp⟩ | .FloorDiv => some ⟨.fdiv, by simp⟩ | .Mod => some ⟨.mod, by simp⟩ | .BitXor => some ⟨.bxor, by simp⟩ | _ => none
def stepAug (c : Cm) (P : Pl) (x : Str) (p' : Pos) (o : Operator) (e : Expr) (pos : Pos) : Option { y : St // IS P (.AugAssign (.Name x p') o e pos) y } :=
  match hi : ixOf x P.N with
  | some i => if h : setB P x = true then
      if listy e = true then
        match o with
        | .Add => do
          let ⟨qa, ha⟩ ← c.q P e
          return ⟨.augQ i qa, fun X C g => s_augQ g.nd (g.slot hi) (g.set1 h).1 (g.set1 h).2 (ha X C g)⟩
        | _ => none
      else match augOf o with
      | some ⟨op, ho⟩ => do
        let ⟨ee, he⟩ ← c.e P e
        return ⟨.aug i op ee, fun X C g => s_aug g.nd (g.slot hi) (g.set1 h).1 (g.set1 h).2 (he X C g) (ip_ok ho).1 (ip_ok (X := X) ho).2⟩
      | none => none
    else none
  | none => none
def stepS (c : Cm) (P : Pl) (s : Stmt) : Option { y : St // IS P s y } :=
  match s with
  | .Assign [t] e pos => stepAsg c P t e pos
  | .AugAssign (.Name x p') o e pos => stepAug c P x p' o e pos
  | .Expr e pos => if hp : plainE e = true then do
      let ⟨ee, he⟩ ← c.e P e
      return ⟨.expr ee, fun X C g => s_expr hp (he X C g)⟩
    else none
  | .Return (some e) pos => do
    let ⟨ee, he⟩ ← c.e P e
    return ⟨.ret ee, fun X C g => s_ret (he X C g)⟩
  | .Return none pos => some ⟨.retN, fun X C g => s_retN⟩
  | .Pass pos => some ⟨.pass, fun X C g => s_pass⟩
  | .Break pos => some ⟨.brk, fun X C g => s_brk⟩
  | .Continue pos => some ⟨.cont, fun X C g => s_cont⟩
  | .If t a b pos => do
    let ⟨et, ht⟩ ← c.t P t
    let ⟨ea, ha⟩ ← c.ss P a
    let ⟨eb, hb⟩ ← c.ss P b
    return ⟨.ite et ea eb, fun X C g => s_if (ht X C g) (ha X C g) (hb X C g)⟩
  | .For tg iter body [] pos => if hs : noSet iter = true then do
      let ⟨l, own, ho, hg⟩ ← stepG P tg
      let ⟨it, hi⟩ ← c.i P tg iter
      let ⟨ib, hb⟩ ← c.ss P body
      return ⟨.for_ l it ib, fun X C g => s_for g.calm g.xe (hi X C g) (hg X C g) (hb X C g) hs⟩
    else none
  | .While t body [] pos => do
    let ⟨et, ht⟩ ← c.t P t
    let ⟨ib, hb⟩ ← c.ss P body
    return ⟨.while_ et ib, fun X C g => s_while g.xe (ht X C g) (hb X C g)⟩
  | _ => none
def stepSs (c : Cm) (P : Pl) (s : List Stmt) : Option { y : Sts // ISs P s y } :=
  match s with
  | [] => some ⟨.nil, fun X C g => ss_nil⟩
  | st :: rest => do
    let ⟨s1, h1⟩ ← c.s P st
    let ⟨s2, h2⟩ ← c.ss P rest
    return ⟨.cons s1 s2, fun X C g => ss_cons (h1 X C g) (h2 X C g)⟩
def Cm.next (c : Cm) : Cm := ⟨stepE c, stepT c, stepW c, stepQ c, stepEs c, stepI c, stepL c, stepLs c, stepS c, stepSs c⟩
def cm : Nat → Cm
  | 0 => ⟨fun _ _ => none, fun _ _ => none, fun _ _ => none, fun _ _ => none, fun _ _ => none, fun _ _ _ => none, fun _ _ => none, fun _ _ => none, fun _ _ => none, fun _ _ => none⟩
  | k + 1 => (cm k).next
/-! ### a def -/
/-- a def's text: its name, parameters, names in their order, body and scope -/
structure Dt where
  nm : Str
  ps : List Str
  N : List Str
  body : List Stmt
  sc : Scope
def Dt.pl (d : Dt) (fns : List (Str × Nat)) : Pl := ⟨d.N, d.sc, fns, none⟩
def Dt.comp (d : Dt) (fns : List (Str × Nat)) : Option { y : Sts // ISs (d.pl fns) d.body y } := (cm 200).ss (d.pl fns) d.body
def Dt.fn (d : Dt) (fns : List (Str × Nat)) : Option Fn := (d.comp fns).map fun y => ⟨d.ps.length, d.N.length, y.1⟩
theorem Dt.fn_ok {d : Dt} {fns : List (Str × Nat)} {f : Fn} (h : d.fn fns = some f) : f.np = d.ps.length ∧ f.nl = d.N.length ∧ ISs (d.pl fns) d.body f.body := by
  unfold Dt.fn at h
  obtain ⟨y, _, h2⟩ := Option.map_eq_some_iff.mp h
  subst h2
  exact ⟨rfl, rfl, y.2⟩
end Ol
set_option Elab.async false
set_option linter.all false
set_option maxRecDepth 100000
set_option maxHeartbeats 2000000
namespace Ol
open PySem PySem.Spec PyProof.Rows L2
/-! ## the defs keep what the small language says -/
/-- each parameter is given, at any heap -/
def Ba (fd : FuncData) (ps : List Str) : Prop := ∀ (s : Shared) (us : List Value), us.length = ps.length → BindsTo s fd ⟨us, []⟩ (ps.zip us)
/-- the defs stand in the module -/
def gsOf (ds : List Dt) (ids : List Nat) : List (Str × Nat) := (ds.map Dt.nm).zip ids
structure Kn (ds : List Dt) (ids : List Nat) (P : Nat → Option Fn) (K : PySem.W.Frag) (mg : Str → Option Value) : Prop where
  fn : ∀ (i : Nat) (d : Dt), ds[i]? = some d → ∃ g f, ids[i]? = some g ∧ P g = some f ∧ d.fn (gsOf ds ids) = some f
  bl : ∀ x ∈ blNames, mg x = none
  de : ∀ (i : Nat) (d : Dt), ds[i]? = some d → FnScope d.N d.ps d.sc ∧ ∃ (fa : Addr) (fd : FuncData) (qual : Str) (params : Arguments), FunD K d.nm qual params d.body d.sc [] [] fa fd ∧ mg d.nm = some (.ref fa) ∧ Binds K fd d.ps [] ∧ Ba fd d.ps
theorem gs_of : ∀ {ds : List Dt} {ids : List Nat} {x : Str} {g : Nat}, (gsOf ds ids).lookup x = some g → ∃ (i : Nat) (d : Dt), ds[i]? = some d ∧ ids[i]? = some g ∧ d.nm = x
  | [], ids, x, g, h => by simp [gsOf] at h
  | d :: ds, [], x, g, h => by simp [gsOf] at h
  | d :: ds, j :: ids, x, g, h => by
    unfold gsOf at h
    rw [List.map_cons, List.zip_cons_cons, List.lookup_cons] at h
    cases e : x == d.nm with
    | true =>
      rw [e] at h
      cases h
      exact ⟨0, d, rfl, rfl, (eq_of_beq e).symm⟩
    | false =>
      rw [e] at h
      obtain ⟨i, d', h1, h2, h3⟩ := gs_of (ds := ds) (ids := ids) h
      exact ⟨i + 1, d', by rw [List.getElem?_cons_succ]; exact h1, by rw [List.getElem?_cons_succ]; exact h2, h3⟩
theorem start_re {K : PySem.W.Frag} {ρ : List Addr} {H : Hp} {ds : List D} {vs : List V} (r : RDs K ρ H ds vs) (N : List Str) {np nl : Nat} (h1 : ds.length = np) (h2 : nl = N.length) :
    RE K ρ H (L2.start N vs) (ds.map some ++ List.replicate (nl - np) none) := by
  have hl := r.length
  subst h1 h2
  refine ⟨by simp [L2.start, hl], fun i d e => ?_⟩
  by_cases hi : i < ds.length
  · rw [List.getElem?_append_left (by simpa using hi)] at e
    rw [List.getElem?_map] at e
    cases q : ds[i]? with
    | none => rw [q] at e; cases e
    | some d' =>
      rw [q] at e
      cases e
      obtain ⟨v, e1, e2⟩ := r.get q
      refine ⟨v, ?_, e2⟩
      unfold L2.start
      rw [List.getElem?_append_left (by simpa [← hl] using hi), List.getElem?_map, e1]; rfl
  · rw [List.getElem?_append_right (by simpa using Nat.le_of_not_lt hi)] at e
    have := List.mem_of_getElem? e
    rw [List.mem_replicate] at this
    cases this.2
section
variable {prog : Program} {w : World} {K : PySem.W.Frag} {mg : Str → Option Value} {base : Heap} {ds : List Dt} {ids : List Nat} {P : Nat → Option Fn}
theorem knot (k : Kn ds ids P K mg) : ∀ (n i : Nat) (d : Dt) (g : Nat), ds[i]? = some d → ids[i]? = some g → ∀ {qual : Str} {params : Arguments} {fa : Addr} {fd : FuncData}, FunD K d.nm qual params d.body d.sc [] [] fa fd → FnOk prog w K mg base CX0 n fa fd d.ps (spC K (callAt P n) g)
  | 0, i, d, g, h, hg, qual, params, fa, fd, F => by
    have no : ∀ vs H Q E, ¬ spC K (callAt P 0) g vs H Q E := fun vs H Q E ⟨_, _, _, _, _, _, _, e, _⟩ => by simp [callAt] at e
    exact ⟨fun vs H Q E h => absurd h (no _ _ _ _), fun A outer s H args us vs Q E _ _ _ _ h => absurd h (no _ _ _ _)⟩
  | n + 1, i, d, g, h, hg, qual, params, fa, fd, F => by
    obtain ⟨S, _⟩ := k.de i d h
    obtain ⟨g', f, hg', hf, hc⟩ := k.fn i d h
    rw [hg] at hg'
    cases hg'
    obtain ⟨h1, h2, h3⟩ := Dt.fn_ok hc
    refine F.ok S (fun vs H Q E ⟨ρ, St0, xs, r, S', so, rv, e, _⟩ => ?_) fun cdv A outer s H vs Q E hr ⟨ρ, St0, xs, r, S', so, rv, e, post⟩ => ⟨tSs K (callAt P n) f.body, PSs.nox (h3 _ _ ?_), ?_⟩
    · simp only [callAt, hf] at e
      split at e
      · rename_i hl
        rw [← rv.length, hl, h1]
      · cases e
    · refine ⟨rfl, S.nd, rfl, rfl, rfl, ?_, k.bl, fun x j hj => ?_, fun _ _ => rfl⟩
      · have := hr.un
        show (A.deeper _).units + 64 < cLine
        omega
      · obtain ⟨i2, d2, q, hg2, hn2⟩ := gs_of hj
        obtain ⟨_, fa2, fd2, q2, p2, F2, e1, e3, _⟩ := k.de i2 d2 q
        rw [hn2] at e1
        exact ⟨n, fa2, fd2, d2.ps, hr, e1, F2.kp, e3, knot k n i2 d2 _ q hg2 F2⟩
    · simp only [callAt, hf] at e
      split at e
      · rename_i hl
        obtain ⟨⟨fl, η', S1⟩, e1, e2⟩ := Option.bind_eq_some_iff.mp e
        refine ⟨ρ, St0, _, fl, η', S1, start_re rv d.N hl h2, so, e1, fun σ' H' ρ' st re so1 => ?_⟩
        cases fl with
        | nx => cases e2; exact post _ H' ρ' st (by simp [RD]) so1
        | rt d => cases e2; exact fun v r => post v H' ρ' st r so1
        | bk => cases e2
        | ct => cases e2
      · cases e
theorem knot_all (k : Kn ds ids P K mg) (n : Nat) {i g : Nat} {d : Dt} (h : ds[i]? = some d) (hg : ids[i]? = some g) : ∃ fd : FuncData, Ba fd d.ps ∧ ∀ (f : Addr) (base : Heap), mg d.nm = some (.ref f) → FnOk prog w K mg base CX0 n f fd d.ps (spC K (callAt P n) g) := by
  obtain ⟨S, fa, fd, qual, params, F, hm, hb, hba⟩ := k.de i d h
  refine ⟨fd, hba, fun f base hf => ?_⟩
  rw [hm] at hf
  cases hf
  exact knot k n i d g h hg F
/-- the law's def at its entry -/
theorem enter (k : Kn ds ids P K mg) {n i : Nat} {H : Hp} {a : Addr} {ns : List Int} {S' : Sto} (hl : ns.length ≤ sizeLine) (hO : Only H) (hS : SqL K H a (ns.map V.int)) (e : callAt P n i [.frl (ns.map D.int)] [] = some (.bl true, S')) :
    spC K (callAt P n) i [.ref a] H (fun v _ => v = .bl true) fun _ _ _ => False := by
  refine ⟨[], [], [.frl (ns.map D.int)], .bl true, S', ⟨rfl, List.nodup_nil, fun n ds h => by simp at h, fun n ds h => by simp at h⟩, .one ?_, e, fun v H' ρ' _ r _ => by simpa [RD] using r⟩
  simp only [RD]
  refine ⟨by simpa using hl, a, ns.map V.int, rfl, ?_, rds_ints ns⟩
  rcases hS with (h | ⟨o, h⟩) | h
  · rcases hO a with z | ⟨o, xs, z⟩
    · rw [z] at h; cases h
    · rw [z] at h; cases h
  · exact .inl ⟨o, h⟩
  · exact .inr h
end
/-! ## the head's pieces -/
/-- a row's def, i-th of its top -/
def topD (p : Program) (i : Nat) (N : List Str) : Dt := match p.main.body[i]? with
  | some (.FunctionDef n a b _ _ _ sc _ _ _) => ⟨n, a.args.map (·.arg), N, b, sc⟩
  | _ => ⟨"law", [], [], [], ⟨.function, [], false, false, []⟩⟩
def topA (p : Program) (i : Nat) : Arguments := match p.main.body[i]? with
  | some (.FunctionDef n a b _ _ _ sc _ _ _) => a
  | _ => ⟨[], [], none, [], [], none, []⟩
def heD (p : Program) (q : Nat × List Str) : He.DefD := ⟨((topD p q.1 q.2).nm, none), (topD p q.1 q.2).nm, (topD p q.1 q.2).nm, topA p q.1, (topD p q.1 q.2).body, (topD p q.1 q.2).sc, [], []⟩
def faOf (p : Program) (l : List (Nat × List Str)) : List He.Fa := l.map (fun q => .glo (topD p q.1 q.2).nm) ++ blNames.map .free
/-! ### the parameters of a plain def bind its arguments, one by one -/
theorem zip_some {α : Type} : ∀ {ns : List Str} {us : List α}, ns.length = us.length → ∀ n ∈ ns, ((ns.zip us).lookup n).isNone = false
  | [], _, _, n, h => by simp at h
  | m :: ns, [], h, _, _ => by simp at h
  | m :: ns, u :: us, h, n, hn => by
    rw [List.zip_cons_cons, List.lookup_cons]
    cases e : n == m with
    | true => rfl
    | false =>
      rcases List.mem_cons.mp hn with rfl | hn
      · simp at e
      · exact zip_some (by simpa using h) n hn
theorem fm_congr {α β : Type} {f g : α → Option β} : ∀ {l : List α}, (∀ x ∈ l, f x = g x) → l.filterMap f = l.filterMap g
  | [], _ => rfl
  | x :: l, h => by
    rw [List.filterMap_cons, List.filterMap_cons, h x List.mem_cons_self, fm_congr fun y hy => h y (List.mem_cons_of_mem _ hy)]
theorem zip_all {α : Type} : ∀ {ns : List Str} {us : List α}, ns.Nodup → ns.length = us.length → (ns.filterMap fun n => ((ns.zip us).lookup n).map fun v => (n, v)) = ns.zip us
  | [], _, _, _ => rfl
  | m :: ns, [], _, h => by simp at h
  | m :: ns, u :: us, hd, h => by
    rw [List.nodup_cons] at hd
    rw [List.zip_cons_cons, List.filterMap_cons, List.lookup_cons]
    simp only [beq_self_eq_true, Option.map_some]
    congr 1
    have e := zip_all (us := us) hd.2 (by simpa using h)
    refine Eq.trans (fm_congr fun n hn => ?_) e
    rw [List.lookup_cons]
    cases e : n == m with
    | true => rw [eq_of_beq e] at hn; exact absurd hn hd.1
    | false => rfl
theorem binds_plain {x qual : Str} {as : List Arg} {body : List Stmt} {scope : Scope} {kV doc pm cdv ct : Value} {an : Option Addr} {us : List Value} (hd : (as.map (·.arg)).Nodup) (hl : us.length = (as.map (·.arg)).length) :
    bindArgs (PySem.W.fnOf x qual ⟨[], as, none, [], [], none, []⟩ body scope .none kV doc pm an cdv ct) ⟨us, []⟩ = pure ((as.map (·.arg)).zip us) := by
  have h1 : ((as.map (·.arg)).take (as.map (·.arg)).length).filter (fun n => (((as.map (·.arg)).zip us).lookup n).isNone) = [] := by
    rw [List.take_length, List.filter_eq_nil_iff]
    intro n hn
    rw [zip_some hl.symm n hn]; simp
  have h2 := zip_all hd hl.symm
  have h3 : seqItems? Value.none = pure none := rfl
  have h4 : ¬ as.length < us.length := by simp at hl; omega
  have h5 : (List.filter (fun n => (List.lookup n ((as.map (·.arg)).zip us)).isNone) (as.map (·.arg))) = [] := by
    rw [List.take_length] at h1; exact h1
  have h6 : List.take as.length (as.map (·.arg)) = as.map (·.arg) := by rw [List.take_of_length_le (by simp)]
  have h7 : List.filterMap ((fun n => Option.map (fun x => (n, x)) (List.lookup n ((as.map (·.arg)).zip us))) ∘ fun x => x.arg) as = (as.map (·.arg)).zip us := by
    rw [← List.filterMap_map]; exact h2
  simp [bindArgs, PySem.W.fnOf, h3, h4, h5, h6, h7]
def plainA (a : Arguments) : Bool := a.posonlyargs.isEmpty && a.vararg.isNone && a.kwonlyargs.isEmpty && a.kw_defaults.isEmpty && a.kwarg.isNone && a.defaults.isEmpty && decide (a.args.map (·.arg)).Nodup
theorem binds_of {x qual : Str} {a : Arguments} {body : List Stmt} {scope : Scope} {ps : List Str} (h : plainA a = true) (hp : a.args.map (·.arg) = ps) (kV doc pm : Value) (an : Option Addr) (cdv ct : Value) (us : List Value) (hl : us.length = ps.length) :
    bindArgs (PySem.W.fnOf x qual a body scope .none kV doc pm an cdv ct) ⟨us, []⟩ = pure (ps.zip us) := by
  subst hp
  obtain ⟨po, as, va, ko, kd, kw, df⟩ := a
  simp only [plainA, Bool.and_eq_true, List.isEmpty_iff, Option.isNone_iff_eq_none, decide_eq_true_eq] at h
  obtain ⟨⟨⟨⟨⟨⟨h1, h2⟩, h3⟩, h4⟩, h5⟩, h6⟩, h7⟩ := h
  subst h1 h2 h3 h4 h5 h6
  exact binds_plain h7 hl
theorem top_ps (p : Program) (i : Nat) (N : List Str) : (topA p i).args.map (·.arg) = (topD p i N).ps := by
  unfold topA topD
  split <;> rfl
def defC (p : Program) (q : Nat × List Str) : Bool := C8.scC (topD p q.1 q.2).N (topD p q.1 q.2).ps (topD p q.1 q.2).sc && plainA (topA p q.1)
def dsOf (p : Program) (l : List (Nat × List Str)) : List Dt := l.map fun q => topD p q.1 q.2
section
variable {p : Program} {l : List (Nat × List Str)} {ids : List Nat} {P : Nat → Option Fn} {K : PySem.W.Frag} {h : Heap} {mg : Str → Option Value}
theorem fd_of (c : He.SaysD (faOf p l) (l.map (heD p)) K) {i : Nat} {q : Nat × List Str} (hq : l[i]? = some q) :
    ∃ fd, FunD K (topD p q.1 q.2).nm (topD p q.1 q.2).nm (topA p q.1) (topD p q.1 q.2).body (topD p q.1 q.2).sc [] [] (He.ga K (topD p q.1 q.2).nm) fd := by
  obtain ⟨fd, F⟩ := c.def_ i (d := heD p q) (by rw [List.getElem?_map, hq]; rfl)
  exact ⟨fd, F⟩
theorem kn_of (X : K.In h) (G : h.Ns mainGlobals mg) (c : He.SaysD (faOf p l) (l.map (heD p)) K) (hc : l.all (defC p) = true) (hP : ((dsOf p l).map fun d => d.fn (gsOf (dsOf p l) ids)) = ids.map P) (hs : (ids.all fun g => (P g).isSome) = true) : Kn (dsOf p l) ids P K mg where
  fn := fun i d hd => by
    have e : ((dsOf p l).map fun d => d.fn (gsOf (dsOf p l) ids))[i]? = (ids.map P)[i]? := by rw [hP]
    rw [List.getElem?_map, hd, List.getElem?_map] at e
    cases q : ids[i]? with
    | none => rw [q] at e; cases e
    | some g =>
      rw [q] at e
      obtain ⟨f, hf⟩ := Option.isSome_iff_exists.mp (List.all_eq_true.mp hs g (List.mem_of_getElem? q))
      exact ⟨g, f, rfl, hf, (Option.some.inj e).trans hf⟩
  bl := fun x hx => by
    obtain ⟨j, hj⟩ := List.mem_iff_getElem?.mp hx
    refine He.free_ok X G (c.fact ((l.map fun q => He.Fa.glo (topD p q.1 q.2).nm).length + j) ?_)
    unfold faOf
    rw [List.getElem?_append_right (Nat.le_add_right _ _), Nat.add_sub_cancel_left, List.getElem?_map, hj]
    rfl
  de := fun i d hd => by
    unfold dsOf at hd
    rw [List.getElem?_map] at hd
    cases q : l[i]? with
    | none => rw [q] at hd; cases hd
    | some u =>
      rw [q] at hd
      cases hd
      have hu := List.all_eq_true.mp hc u (List.mem_of_getElem? q)
      unfold defC at hu
      rw [Bool.and_eq_true] at hu
      obtain ⟨fd, F⟩ := fd_of c q
      refine ⟨C8.fnScope_by hu.1, _, fd, _, _, F, He.glo_ok X G (c.fact i ?_), F.bindsN fun kV doc pm an cdv ct us hl => binds_of hu.2 (top_ps _ _ _) kV doc pm an cdv ct us hl,
        fun s us hl => F.bindsA (fun kV doc pm an cdv ct us hl => binds_of hu.2 (top_ps _ _ _) kV doc pm an cdv ct us hl) s us hl⟩
      unfold faOf
      have hi := (List.getElem?_eq_some_iff.mp q).1
      rw [List.getElem?_append_left (by simpa using hi), List.getElem?_map, q]
      rfl
/-- all that a head wants -/
theorem facts {prog : Program} {w : World} {f : Addr} {n i g : Nat} {q : Nat × List Str} {x y : Str} (X : K.In h) (G : h.Ns mainGlobals mg) (c : He.SaysD (faOf p l) (l.map (heD p)) K) (hc : l.all (defC p) = true)
    (hP : ((dsOf p l).map fun d => d.fn (gsOf (dsOf p l) ids)) = ids.map P) (hs : (ids.all fun g => (P g).isSome) = true) (hq : l[i]? = some q) (hg : ids[i]? = some g) (hn : (topD p q.1 q.2).nm = y) (hp : (topD p q.1 q.2).ps = [x]) (hfa : mg y = some (.ref f)) :
    ∃ fd : FuncData, (∀ (s : Shared) (v : Value), BindsTo s fd ⟨[v], []⟩ [(x, v)]) ∧ ∀ base : Heap, K.In base → base.Ns mainGlobals mg → FnOk prog w K mg base CX0 n f fd [x] (spC K (callAt P n) g) := by
  have k := kn_of X G c hc hP hs
  have hd : (dsOf p l)[i]? = some (topD p q.1 q.2) := by unfold dsOf; rw [List.getElem?_map, hq]; rfl
  obtain ⟨fd, hb, hF⟩ := knot_all (prog := prog) (w := w) k n hd hg
  rw [hp] at hb hF
  refine ⟨fd, fun s v => hb s [v] rfl, fun base _ _ => hF f base (by rw [hn]; exact hfa)⟩
end
end Ol
set_option Elab.async false
set_option linter.all false
set_option maxRecDepth 100000
set_option maxHeartbeats 2000000
namespace Ol
open PySem PySem.Spec PyProof.Rows L2
/-! ## how one proves what the small language says -/
abbrev dn (n : Nat) : D := .int (n : Int)
abbrev wd (w : List Nat) : D := .tup (w.map dn)
theorem pures_map {α : Type} (e : α → D) (h : ∀ x, (e x).pure = true) : ∀ xs : List α, pures (xs.map e) = true
  | [] => rfl
  | x :: xs => by simp [pures, h, pures_map e h xs]
theorem pures_mapM {α : Type} (e : α → D) : ∀ xs : List α, (∀ x ∈ xs, (e x).pure = true) → pures (xs.map e) = true
  | [], _ => rfl
  | x :: xs, h => by simp [pures, h x List.mem_cons_self, pures_mapM e xs fun y hy => h y (List.mem_cons_of_mem _ hy)]
theorem pures_all : ∀ {xs : List D}, pures xs = true ↔ ∀ x ∈ xs, x.pure = true
  | [] => by simp [pures]
  | x :: xs => by simp [pures, pures_all (xs := xs)]
theorem pure_dn (n : Nat) : (dn n).pure = true := rfl
theorem pure_wd (w : List Nat) : (wd w).pure = true := by simp only [D.pure]; exact pures_map _ (fun _ => rfl) w
theorem flatA_of : ∀ {xs : List D}, pures xs = true → flatA xs = true ∧ refs1 xs = []
  | [], _ => ⟨rfl, rfl⟩
  | x :: xs, h => by
    simp only [pures, Bool.and_eq_true] at h
    obtain ⟨h1, h2⟩ := flatA_of h.2
    cases x <;> simp_all [flatA, refs1, D.pure]
theorem ren_id {rs : List Nat} : ∀ {xs : List D}, pures xs = true → xs.map (ren rs) = xs
  | [], _ => rfl
  | x :: xs, h => by
    simp only [pures, Bool.and_eq_true] at h
    rw [List.map_cons, ren_id h.2]
    cases x <;> first | rfl | (simp [D.pure] at h)
/-- a call with values alone -/
theorem callM_pure {C : Nat → List D → Sto → Option (D × Sto)} {f n : Nat} {ds : List D} {S S1 : Sto} {d : D} (hp : pures ds = true) (h : C f ds [] = some (d, S1)) (hd : d.pure = true) : callM C f ds n S = some (d, S) := by
  obtain ⟨h1, h2⟩ := flatA_of hp
  unfold callM callF
  rw [h1, h2, ren_id hp]
  simp [footS, h, putS, backR, hd]
/-- .. that gives a list -/
theorem callM_new {C : Nat → List D → Sto → Option (D × Sto)} {f n m : Nat} {ds : List D} {S S1 : Sto} {xs : List D} (hp : pures ds = true) (h : C f ds [] = some (.ref m, S1)) (hm : S1[m]? = some (.lst xs)) (hd : pures xs = true) : callM C f ds n S = some (.ref S.length, S ++ [.lst xs]) := by
  obtain ⟨h1, h2⟩ := flatA_of hp
  unfold callM callF
  rw [h1, h2, ren_id hp]
  simp [footS, h, putS, backR, D.pure, hm, hd]
/-- a call with one list, and values -/
theorem callM_one {C : Nat → List D → Sto → Option (D × Sto)} {f n r : Nat} {ds : List D} {S S1 : Sto} {d : D} {xs ys : List D} (hr : S[r]? = some (.lst xs)) (hx : pures xs = true) (hp : pures ds = true) (h : C f (.ref 0 :: ds) [.lst xs] = some (d, .lst ys :: S1)) (hy : pures ys = true) (hd : d.pure = true) :
    callM C f (.ref r :: ds) n S = some (d, S.set r (.lst ys)) := by
  obtain ⟨h1, h2⟩ := flatA_of hp
  unfold callM callF
  simp only [flatA, refs1, h1, h2]
  simp [footS, hr, hx, ren, ren_id hp, h, putS, hy, backR, hd, setN]
/-- .. that gives a list -/
theorem callM_one_new {C : Nat → List D → Sto → Option (D × Sto)} {f n r m : Nat} {ds : List D} {S S1 : Sto} {xs ys zs : List D} (hr : S[r]? = some (.lst xs)) (hx : pures xs = true) (hp : pures ds = true) (h : C f (.ref 0 :: ds) [.lst xs] = some (.ref (m + 1), .lst ys :: S1)) (hy : pures ys = true) (hm : S1[m]? = some (.lst zs)) (hz : pures zs = true) :
    callM C f (.ref r :: ds) n S = some (.ref S.length, S.set r (.lst ys) ++ [.lst zs]) := by
  obtain ⟨h1, h2⟩ := flatA_of hp
  unfold callM callF
  simp only [flatA, refs1, h1, h2]
  simp [footS, hr, hx, ren, ren_id hp, h, putS, hy, backR, D.pure, setN, hm, hz]
/-- a call with two lists, and values -/
theorem callM_two {C : Nat → List D → Sto → Option (D × Sto)} {f n r r' : Nat} {ds : List D} {S S1 : Sto} {d : D} {xs ys xs' ys' : List D} (hne : r ≠ r') (hr : S[r]? = some (.lst xs)) (hr' : S[r']? = some (.lst xs')) (hx : pures xs = true) (hx' : pures xs' = true) (hp : pures ds = true)
    (h : C f (.ref 0 :: .ref 1 :: ds) [.lst xs, .lst xs'] = some (d, .lst ys :: .lst ys' :: S1)) (hy : pures ys = true) (hy' : pures ys' = true) (hd : d.pure = true) :
    callM C f (.ref r :: .ref r' :: ds) n S = some (d, (S.set r (.lst ys)).set r' (.lst ys')) := by
  obtain ⟨h1, h2⟩ := flatA_of hp
  unfold callM callF
  simp only [flatA, refs1, h1, h2]
  have e : (r == r') = false := by simpa using hne
  have e2 : List.idxOf r' [r, r'] = 1 := by simp [List.idxOf_cons, e]
  simp [footS, hr, hr', hx, hx', ren, ren_id hp, h, putS, hy, hy', backR, hd, setN, hne, e2]
/-! ## comprehensions -/
theorem compL_map {α : Type} (e : α → D) (g : α → Option D) {f : D → Sto → Option (Option D × Sto)} {S : Sto} : ∀ {xs : List α}, (∀ x ∈ xs, f (e x) S = some (g x, S)) → compL f (xs.map e) S = some (xs.filterMap g, S)
  | [], _ => rfl
  | x :: xs, h => by
    rw [List.map_cons, compL, h x List.mem_cons_self]
    simp only [Option.bind_some]
    rw [compL_map e g fun y hy => h y (List.mem_cons_of_mem _ hy)]
    simp only [Option.bind_some, List.filterMap_cons]
    cases g x <;> rfl
/-- every item gives one -/
theorem compL_all {α : Type} (e : α → D) (g : α → D) {f : D → Sto → Option (Option D × Sto)} {S : Sto} {xs : List α} (h : ∀ x ∈ xs, f (e x) S = some (some (g x), S)) : compL f (xs.map e) S = some (xs.map g, S) := by
  rw [compL_map e (fun x => some (g x)) h]
  simp
/-- items of a kind, as they are -/
theorem compL_some {α : Type} (e : α → D) (p : α → Bool) (g : α → D) {f : D → Sto → Option (Option D × Sto)} {S : Sto} {xs : List α} (h : ∀ x ∈ xs, f (e x) S = some (if p x = true then some (g x) else none, S)) : compL f (xs.map e) S = some ((xs.filter p).map g, S) := by
  rw [compL_map e (fun x => if p x = true then some (g x) else none) h]
  congr 2
  rw [← List.filterMap_eq_map, List.filterMap_filter]
  rfl
theorem rangeD_nat (n : Nat) : rangeD 0 n = (List.range n).map dn := by
  unfold rangeD
  refine List.map_congr_left fun k _ => ?_
  simp [dn]
theorem rangeD_from (a n : Nat) : rangeD a n = (List.range' a n).map dn := by
  unfold rangeD
  rw [List.range'_eq_map_range, List.map_map]
  refine List.map_congr_left fun k _ => ?_
  simp [dn]
/-! ## loops -/
theorem loopL_inv {α : Type} (e : α → D) {f : D → En → Sto → Option (Fl × En × Sto)} (I : List α → En → Sto → Prop) : ∀ {xs : List α} {η : En} {S : Sto}, I xs η S → (∀ x ys η S, I (x :: ys) η S → ∃ η' S', f (e x) η S = some (.nx, η', S') ∧ I ys η' S') →
    ∃ η' S', loopL f (xs.map e) η S = some (.nx, η', S') ∧ I [] η' S'
  | [], η, S, h, _ => ⟨η, S, rfl, h⟩
  | x :: xs, η, S, h, st => by
    obtain ⟨η1, S1, e1, h1⟩ := st x xs η S h
    obtain ⟨η2, S2, e2, h2⟩ := loopL_inv e I h1 st
    exact ⟨η2, S2, by rw [List.map_cons, loopL, e1]; exact e2, h2⟩
/-- by places -/
theorem loop_at {α : Type} (e : α → D) {f : D → En → Sto → Option (Fl × En × Sto)} (I : Nat → En → Sto → Prop) {xs : List α} {η : En} {S : Sto} (h : I 0 η S) (st : ∀ p x η S, xs[p]? = some x → I p η S → ∃ η' S', f (e x) η S = some (.nx, η', S') ∧ I (p + 1) η' S') :
    ∃ η' S', loopL f (xs.map e) η S = some (.nx, η', S') ∧ I xs.length η' S' := by
  have := loopL_inv e (f := f) (xs := xs) (η := η) (S := S) (fun ys η S => ∃ p, ys = xs.drop p ∧ p + ys.length = xs.length ∧ I p η S) ⟨0, by simp, by simp, h⟩ (fun x ys η S ⟨p, e1, e2, hi⟩ => by
    have hp : xs[p]? = some x := by
      have e3 : (xs.drop p)[0]? = some x := by rw [← e1]; rfl
      rw [List.getElem?_drop] at e3
      exact e3
    obtain ⟨η', S', h1, h2⟩ := st p x η S hp hi
    refine ⟨η', S', h1, p + 1, ?_, ?_, h2⟩
    · have : ys = (xs.drop p).drop 1 := by rw [← e1]; rfl
      rw [this, List.drop_drop]
    · simp at e2; omega)
  obtain ⟨η', S', h1, p, h2, h3, h4⟩ := this
  simp at h3
  exact ⟨η', S', h1, h3 ▸ h4⟩
theorem loop_range {f : D → En → Sto → Option (Fl × En × Sto)} (I : Nat → En → Sto → Prop) {n : Nat} {η : En} {S : Sto} (h : I 0 η S) (st : ∀ p η S, p < n → I p η S → ∃ η' S', f (dn p) η S = some (.nx, η', S') ∧ I (p + 1) η' S') :
    ∃ η' S', loopL f ((List.range n).map dn) η S = some (.nx, η', S') ∧ I n η' S' := by
  have := loop_at dn (f := f) I (xs := List.range n) h (fun p x η S hp hi => by
    obtain ⟨hl, hx⟩ := List.getElem?_eq_some_iff.mp hp
    simp at hx hl
    subst hx
    exact st p η S hl hi)
  simpa using this
/-- with a way out -/
theorem loopL_out {α : Type} (e : α → D) {f : D → En → Sto → Option (Fl × En × Sto)} (I : List α → En → Sto → Prop) (R : D → Sto → Prop) : ∀ {xs : List α} {η : En} {S : Sto}, I xs η S →
    (∀ x ys η S, I (x :: ys) η S → ∃ fl η' S', f (e x) η S = some (fl, η', S') ∧ ((fl = .nx ∧ I ys η' S') ∨ ∃ d, fl = .rt d ∧ R d S')) →
    ∃ fl η' S', loopL f (xs.map e) η S = some (fl, η', S') ∧ ((fl = .nx ∧ I [] η' S') ∨ ∃ d, fl = .rt d ∧ R d S')
  | [], η, S, h, _ => ⟨.nx, η, S, rfl, .inl ⟨rfl, h⟩⟩
  | x :: xs, η, S, h, st => by
    obtain ⟨fl, η1, S1, e1, h1⟩ := st x xs η S h
    rcases h1 with ⟨rfl, h1⟩ | ⟨d, rfl, h1⟩
    · obtain ⟨fl2, η2, S2, e2, h2⟩ := loopL_out e I R h1 st
      exact ⟨fl2, η2, S2, by rw [List.map_cons, loopL, e1]; exact e2, h2⟩
    · exact ⟨.rt d, η1, S1, by rw [List.map_cons, loopL, e1]; rfl, .inr ⟨d, rfl, h1⟩⟩
/-- over a list that stays -/
theorem compDn_eq {f : D → Sto → Option (Option D × Sto)} {n : Nat} {ds : List D} {S : Sto} (hn : S[n]? = some (.lst ds)) (hf : ∀ x ∈ ds, ∃ r, f x S = some (r, S)) : ∀ (m i : Nat), ds.length - i < m → compDn f n m i S = compL f (ds.drop i) S
  | 0, i, h => by omega
  | m + 1, i, h => by
    rw [compDn, hn]
    simp only
    cases q : ds[i]? with
    | none =>
      rw [List.getElem?_eq_none_iff] at q
      rw [List.drop_eq_nil_of_le q]; rfl
    | some x =>
      obtain ⟨hi, hx⟩ := List.getElem?_eq_some_iff.mp q
      rw [List.drop_eq_getElem_cons hi, hx, compL]
      obtain ⟨r, hr⟩ := hf x (List.mem_of_getElem? q)
      simp only [hr, Option.bind_some]
      rw [compDn_eq hn hf m (i + 1) (by omega)]
theorem compDn_some {α : Type} (e : α → D) (p : α → Bool) (g : α → D) {f : D → Sto → Option (Option D × Sto)} {m : Nat} {S : Sto} {xs : List α} (hm : S[m]? = some (.lst (xs.map e))) (hl : xs.length < fuelN) (h : ∀ x ∈ xs, f (e x) S = some (if p x = true then some (g x) else none, S)) :
    compDn f m fuelN 0 S = some ((xs.filter p).map g, S) := by
  rw [compDn_eq hm (fun d hd => by
    obtain ⟨x, hx, rfl⟩ := List.mem_map.mp hd
    exact ⟨_, h x hx⟩) _ _ (by simpa using hl), List.drop_zero, compL_some e p g h]
theorem compDn_all {α : Type} (e : α → D) (g : α → D) {f : D → Sto → Option (Option D × Sto)} {m : Nat} {S : Sto} {xs : List α} (hm : S[m]? = some (.lst (xs.map e))) (hl : xs.length < fuelN) (h : ∀ x ∈ xs, f (e x) S = some (some (g x), S)) :
    compDn f m fuelN 0 S = some (xs.map g, S) := by
  rw [compDn_eq hm (fun d hd => by
    obtain ⟨x, hx, rfl⟩ := List.mem_map.mp hd
    exact ⟨_, h x hx⟩) _ _ (by simpa using hl), List.drop_zero, compL_all e g h]
/-- lists made one behind another -/
theorem compL_fresh {α : Type} (e : α → D) (ds : List D) {f : D → Sto → Option (Option D × Sto)} : ∀ {xs : List α} {S : Sto}, (∀ x ∈ xs, ∀ S : Sto, f (e x) S = some (some (.ref S.length), S ++ [.lst ds])) →
    compL f (xs.map e) S = some ((List.range xs.length).map fun i => D.ref (S.length + i), S ++ List.replicate xs.length (.lst ds))
  | [], S, _ => by simp [compL]
  | x :: xs, S, h => by
    rw [List.map_cons, compL, h x List.mem_cons_self]
    simp only [Option.bind_some]
    rw [compL_fresh e ds fun y hy => h y (List.mem_cons_of_mem _ hy)]
    simp [List.range_succ_eq_map, List.replicate_succ]
    omega
/-! ## running a def -/
def fin (r : Fl × En × Sto) : Option (D × Sto) := match r.1 with
  | .rt d => some (d, r.2.2) | .nx => some (.non, r.2.2) | _ => none
theorem call_eq {P : Nat → Option Fn} {k f : Nat} {fn : Fn} {ds : List D} {S : Sto} (h : P f = some fn) (hl : ds.length = fn.np) : callAt P (k + 1) f ds S = (runSs (callAt P k) fn.body (ds.map some ++ List.replicate (fn.nl - fn.np) none) S).bind fin := by
  rw [callAt, h]
  simp only [hl, if_true]
  congr
/-- (so that it is used as an equation, not by reduction) -/
theorem nr {α : Type} {x y : α} (h : x = y) : x = y := h
theorem bs {α β : Type} (a : α) (f : α → Option β) : (some a).bind f = f a := nr rfl
/-! ## its operations, case by case -/
section
variable (S : Sto) (i j : Int) (a b : Bool) (m n : Nat) (ds es : List D) (d e : D)
theorem b_add : binop .add (.int i) (.int j) = some (.int (i + j)) := nr rfl
theorem b_sub : binop .sub (.int i) (.int j) = some (.int (i - j)) := nr rfl
theorem b_fdiv : binop .fdiv (.int i) (.int j) = if 0 < j ∧ j < 1073741824 then some (.int (i / j)) else none := nr rfl
theorem b_mod : binop .mod (.int i) (.int j) = if 0 < j then some (.int (i % j)) else none := nr rfl
theorem b_mul : binop .mul (.int i) (.int j) = if (small64 i || small64 j) = true then some (.int (i * j)) else none := nr rfl
theorem b_cat : binop .add (.tup ds) (.tup es) = if ds.length + es.length ≤ sizeLine then some (.tup (ds ++ es)) else none := nr rfl
theorem c_lt : cmpop S .lt (.int i) (.int j) = some (decide (i < j)) := nr rfl
theorem c_le : cmpop S .le (.int i) (.int j) = some (decide (i ≤ j)) := nr rfl
theorem c_gt : cmpop S .gt (.int i) (.int j) = some (decide (j < i)) := nr rfl
theorem c_ge : cmpop S .ge (.int i) (.int j) = some (decide (j ≤ i)) := nr rfl
theorem c_eqi : cmpop S .eq (.int i) (.int j) = some (decide (i = j)) := by
  have h : ∀ i : Int, (D.int i).okPy = true := fun _ => rfl
  simp only [cmpop, eqd, h, Bool.and_self, if_true]
  show some (i == j) = _
  rw [show (i == j) = decide (i = j) from rfl]
theorem c_nei : cmpop S .ne (.int i) (.int j) = some (decide (i ≠ j)) := by
  have h := c_eqi S i j
  simp only [cmpop] at h
  simp [cmpop, h]
theorem c_isN : cmpop S .is_ .non .non = some true := nr rfl
theorem it_new : items S (.new ds) = some ds := nr rfl
theorem it_tup : items S (.val (.tup ds)) = some ds := nr rfl
theorem it_frl : items S (.val (.frl ds)) = some ds := nr rfl
theorem it_ref {ds : List D} {n : Nat} (h : S[n]? = some (.lst ds)) : items S (.val (.ref n)) = some ds := by simp [items, h]
theorem as_new : asL S (.new ds) = some ds := nr rfl
theorem as_ref {ds : List D} {n : Nat} (h : S[n]? = some (.lst ds)) : asL S (.val (.ref n)) = some ds := by simp [asL, h]
theorem atI_nat {α : Type} (xs : List α) : atI xs (n : Int) = xs[n]? := by
  unfold atI ixN
  rw [if_pos (Int.natCast_nonneg n)]
  split
  · simp
  · rw [List.getElem?_eq_none (by omega)]; rfl
theorem atI_0 {α : Type} (xs : List α) : atI xs 0 = xs[0]? := atI_nat 0 xs
theorem atI_1 {α : Type} (xs : List α) : atI xs 1 = xs[1]? := atI_nat 1 xs
theorem atI_2 {α : Type} (xs : List α) : atI xs 2 = xs[2]? := atI_nat 2 xs
theorem atI_3 {α : Type} (xs : List α) : atI xs 3 = xs[3]? := atI_nat 3 xs
theorem atI_4 {α : Type} (xs : List α) : atI xs 4 = xs[4]? := atI_nat 4 xs
theorem atI_5 {α : Type} (xs : List α) : atI xs 5 = xs[5]? := atI_nat 5 xs
theorem x_tup : idxD S (.tup ds) (.int i) = atI ds i := nr rfl
theorem x_frl : idxD S (.frl ds) (.int i) = atI ds i := nr rfl
theorem x_ref {ds : List D} {n : Nat} (h : S[n]? = some (.lst ds)) : idxD S (.ref n) (.int i) = atI ds i := by simp [idxD, h]
end
/-! ## its sentences, in a handy form -/
/-- a bind's first part goes first -/
theorem obind_left {α β : Type} {o o' : Option α} {f : α → Option β} (h : o = o') : o.bind f = o'.bind f := by rw [h]
theorem obind {α β : Type} {o : Option α} {f g : α → Option β} (h : ∀ r, f r = g r) : o.bind f = o.bind g := by rw [funext h]
def condD {α : Type} (d : D) (t f : Option α) : Option α := match d with
  | .bl true => t | .bl false => f | _ => none
theorem cond_bl {α : Type} (b : Bool) (t f : Option α) : condD (.bl b) t f = if b = true then t else f := by cases b <;> rfl
theorem cond_t {α : Type} (t f : Option α) : condD (.bl true) t f = t := nr rfl
theorem cond_f {α : Type} (t f : Option α) : condD (.bl false) t f = f := nr rfl
def nxt (r : Fl × En × Sto) (k : En → Sto → Option (Fl × En × Sto)) : Option (Fl × En × Sto) := match r.1 with
  | .nx => k r.2.1 r.2.2 | _ => some r
section
variable (C : Nat → List D → Sto → Option (D × Sto)) (η : En) (S : Sto) (k : En → Sto → Option (Fl × En × Sto)) (x : D) (a b c d : E) (i : Nat) (q : Q) (es : Es)
theorem nxt_nx : nxt (.nx, η, S) k = k η S := nr rfl
theorem nxt_rt : nxt (.rt x, η, S) k = some (.rt x, η, S) := nr rfl
theorem nxt_bk : nxt (.bk, η, S) k = some (.bk, η, S) := nr rfl
theorem nxt_ct : nxt (.ct, η, S) k = some (.ct, η, S) := nr rfl
theorem fin_rt : fin (.rt x, η, S) = some (x, S) := nr rfl
theorem fin_nx : fin (.nx, η, S) = some (.non, S) := nr rfl
theorem u_nil : runSs C .nil η S = some (.nx, η, S) := by simp only [runSs]
theorem u_cons (s : St) (ss : Sts) : runSs C (.cons s ss) η S = (runS C s η S).bind fun r => nxt r fun η S => runSs C ss η S := by
  simp only [runSs]
  refine obind fun r => ?_
  obtain ⟨fl, η', S'⟩ := r
  cases fl <;> rfl
def bool1 (r : D × Sto) : Option (Bool × Sto) := match r.1 with | .bl k => some (k, r.2) | _ => none
theorem bool1_bl (b : Bool) : bool1 (.bl b, S) = some (b, S) := nr rfl
def forR (f : D → En → Sto → Option (Fl × En × Sto)) (η : En) (r : Ir × Sto) : Option (Fl × En × Sto) := match r.1 with
  | .sta ds => loopL f ds η r.2
  | .dyn n => loopDn f n fuelN 0 η r.2
theorem for_sta (f : D → En → Sto → Option (Fl × En × Sto)) (ds : List D) : forR f η (.sta ds, S) = loopL f ds η S := nr rfl
theorem for_dyn (f : D → En → Sto → Option (Fl × En × Sto)) (n : Nat) : forR f η (.dyn n, S) = loopDn f n fuelN 0 η S := nr rfl
theorem v_ite (sa sb : Sts) : runS C (.ite c sa sb) η S = (runE C c η S).bind fun x => condD x.1 (runSs C sa η x.2) (runSs C sb η x.2) := by
  simp only [runS]
  refine obind fun r => ?_
  obtain ⟨r, S'⟩ := r
  cases r with
  | bl k => cases k <;> rfl
  | _ => rfl
def forB (l : Tgt) (sb : Sts) (x : D) (η : En) (S : Sto) : Option (Fl × En × Sto) := (bindT l x η).bind fun y => runSs C sb y S
theorem v_for (l : Tgt) (it : It) (sb : Sts) : runS C (.for_ l it sb) η S = (runI C it η S).bind fun r => forR (forB C l sb) η r := by
  simp only [runS]
  congr
def whC (c : E) (η : En) (S : Sto) : Option (Bool × Sto) := (runE C c η S).bind bool1
theorem v_while (sb : Sts) : runS C (.while_ c sb) η S = loopW (whC C c) (runSs C sb) fuelN η S := by
  simp only [runS]
  congr
def aug1 (i : Nat) (op : Op) (e : E) (η : En) (S : Sto) : D → Option (Fl × En × Sto)
  | .int d => (runE C e η S).bind fun x => match x.1 with
    | .int k => (binop op (.int d) (.int k)).bind fun r => some (.nx, η.set i (some r), x.2)
    | _ => none
  | _ => none
theorem v_aug (op : Op) (e : E) {n : Int} (h : η[i]? = some (some (.int n))) : runS C (.aug i op e) η S = (runE C e η S).bind fun x => match x.1 with
    | .int k => (binop op (.int n) (.int k)).bind fun r => some (.nx, η.set i (some r), x.2)
    | _ => none := by
  simp only [runS, h] <;> rfl
theorem v_set (l : Lh) (e : E) : runS C (.set l e) η S = (runE C e η S).bind fun x => (runL C l x.1 η x.2).bind fun y => some (.nx, y.1, y.2) := by simp only [runS]
theorem v_expr : runS C (.expr a) η S = (runE C a η S).bind fun x => some (.nx, η, x.2) := by simp only [runS]
theorem v_ret : runS C (.ret a) η S = (runE C a η S).bind fun x => some (.rt x.1, η, x.2) := by simp only [runS]
theorem v_retN : runS C .retN η S = some (.rt .non, η, S) := by simp only [runS]
theorem v_pass : runS C .pass η S = some (.nx, η, S) := by simp only [runS]
theorem v_brk : runS C .brk η S = some (.bk, η, S) := by simp only [runS]
theorem v_cont : runS C .cont η S = some (.ct, η, S) := by simp only [runS]
def augQ1 (r : Qv × Sto) (n : Nat) (η : En) : Option (Fl × En × Sto) := (asL r.2 r.1).bind fun es => match r.2[n]? with
  | some (.lst ds) => if ds.length + es.length ≤ sizeLine then some (.nx, η, setN r.2 n (ds ++ es)) else none
  | none => none
theorem v_augQ {n : Nat} (h : η[i]? = some (some (.ref n))) : runS C (.augQ i q) η S = (runQ C q η S).bind fun x => augQ1 x n η := by
  simp only [runS, h] <;> rfl
theorem augQ1_new {n : Nat} {ds es : List D} (h : S[n]? = some (.lst ds)) (hl : ds.length + es.length ≤ sizeLine) : augQ1 (.new es, S) n η = some (.nx, η, S.set n (.lst (ds ++ es))) := by simp [augQ1, asL, h, hl, setN]
def varD (η : En) (S : Sto) (i : Nat) : Option (D × Sto) := match η[i]? with | some (some d) => some (d, S) | _ => none
theorem e_var : runE C (.var i) η S = varD η S i := by simp only [runE] <;> rfl
theorem var_some {d : D} (h : η[i]? = some (some d)) : varD η S i = some (d, S) := by simp [varD, h]
theorem e_non : runE C .non η S = some (.non, S) := by simp only [runE]
theorem e_bl (b : Bool) : runE C (.bl b) η S = some (.bl b, S) := by simp only [runE]
theorem e_int (i : Int) : runE C (.int i) η S = some (.int i, S) := by simp only [runE]
theorem e_str (x : Str) : runE C (.str x) η S = some (.str x, S) := by simp only [runE]
theorem e_bin (op : Op) : runE C (.bin op a b) η S = (runE C a η S).bind fun x => (runE C b η x.2).bind fun y => (binop op x.1 y.1).bind fun d => some (d, y.2) := by
  simp only [runE, Option.map_eq_bind] <;> rfl
theorem e_cmp (op : Cp) : runE C (.cmp op a b) η S = (runE C a η S).bind fun x => (runE C b η x.2).bind fun y => (cmpop y.2 op x.1 y.1).bind fun k => some (.bl k, y.2) := by
  simp only [runE, Option.map_eq_bind] <;> rfl
theorem e_chain (op op' : Cp) : runE C (.chain op op' a b c) η S = (runE C a η S).bind fun x => (runE C b η x.2).bind fun y => (cmpop y.2 op x.1 y.1).bind fun k =>
    if k = true then (runE C c η y.2).bind fun z => (cmpop z.2 op' y.1 z.1).bind fun k => some (.bl k, z.2) else some (.bl false, y.2) := by
  simp only [runE, Option.map_eq_bind] <;> rfl
theorem e_chain3 (op op' op'' : Cp) : runE C (.chain3 op op' op'' a b c d) η S = (runE C a η S).bind fun x => (runE C b η x.2).bind fun y => (cmpop y.2 op x.1 y.1).bind fun k =>
    if k = true then (runE C c η y.2).bind fun z => (cmpop z.2 op' y.1 z.1).bind fun k =>
      if k = true then (runE C d η z.2).bind fun u => (cmpop u.2 op'' z.1 u.1).bind fun k => some (.bl k, u.2) else some (.bl false, z.2)
    else some (.bl false, y.2) := by
  simp only [runE, Option.map_eq_bind] <;> rfl
theorem e_and : runE C (.and a b) η S = (runE C a η S).bind fun x => condD x.1 (runE C b η x.2) (some (.bl false, x.2)) := by
  simp only [runE]
  refine obind fun r => ?_
  obtain ⟨r, S'⟩ := r
  cases r with
  | bl k => cases k <;> rfl
  | _ => rfl
theorem e_or : runE C (.or a b) η S = (runE C a η S).bind fun x => condD x.1 (some (.bl true, x.2)) (runE C b η x.2) := by
  simp only [runE]
  refine obind fun r => ?_
  obtain ⟨r, S'⟩ := r
  cases r with
  | bl k => cases k <;> rfl
  | _ => rfl
theorem e_ite : runE C (.ite c a b) η S = (runE C c η S).bind fun x => condD x.1 (runE C a η x.2) (runE C b η x.2) := by
  simp only [runE]
  refine obind fun r => ?_
  obtain ⟨r, S'⟩ := r
  cases r with
  | bl k => cases k <;> rfl
  | _ => rfl
def not1 (r : D × Sto) : Option (D × Sto) := match r.1 with | .bl b => some (.bl (!b), r.2) | _ => none
theorem not_bl (b : Bool) : not1 (.bl b, S) = some (.bl (!b), S) := nr rfl
theorem e_not : runE C (.not a) η S = (runE C a η S).bind not1 := by simp only [runE] <;> rfl
def neg1 (r : D × Sto) : Option (D × Sto) := match r.1 with | .int i => some (.int (-i), r.2) | _ => none
theorem neg_int (i : Int) : neg1 (.int i, S) = some (.int (-i), S) := nr rfl
theorem e_neg : runE C (.neg a) η S = (runE C a η S).bind neg1 := by simp only [runE] <;> rfl
theorem e_tup : runE C (.tup es) η S = (runEs C es η S).bind fun x => if x.1.length ≤ sizeLine then some (.tup x.1, x.2) else none := by simp only [runE]
theorem e_call (f : Nat) : runE C (.call f es) η S = (runEs C es η S).bind fun x => callM C f x.1 S.length x.2 := by simp only [runE]
theorem e_idx : runE C (.idx a b) η S = (runE C a η S).bind fun x => (runE C b η x.2).bind fun y => (idxD y.2 x.1 y.1).bind fun d => some (d, y.2) := by
  simp only [runE, Option.map_eq_bind] <;> rfl
def cut1 (d : D) (l h : Option Int) (S : Sto) : Option (D × Sto) := match d with | .tup ds => some (.tup (cutD ds l h), S) | _ => none
theorem cut_tup (ds : List D) (l h : Option Int) : cut1 (.tup ds) l h S = some (.tup (cutD ds l h), S) := nr rfl
theorem e_cut (lo hi : Oe) : runE C (.cut a lo hi) η S = (runE C a η S).bind fun x => (runOe C lo η x.2).bind fun l => (runOe C hi η l.2).bind fun h => cut1 x.1 l.1 h.1 h.2 := by
  simp only [runE] <;> rfl
def rev1 (r : D × Sto) : Option (D × Sto) := match r.1 with | .tup ds => some (.tup ds.reverse, r.2) | _ => none
theorem rev_tup (ds : List D) : rev1 (.tup ds, S) = some (.tup ds.reverse, S) := nr rfl
theorem e_rev : runE C (.rev a) η S = (runE C a η S).bind rev1 := by simp only [runE] <;> rfl
def revTo1 (d e : D) (S : Sto) : Option (D × Sto) := match d, e with | .tup ds, .int i => if i = 0 then some (.tup (ds.drop 1).reverse, S) else none | _, _ => none
theorem revTo_tup (ds : List D) : revTo1 (.tup ds) (.int 0) S = some (.tup (ds.drop 1).reverse, S) := nr rfl
theorem e_revTo : runE C (.revTo a b) η S = (runE C a η S).bind fun x => (runE C b η x.2).bind fun y => revTo1 x.1 y.1 y.2 := by simp only [runE] <;> rfl
theorem e_qtup : runE C (.qtup q) η S = (runQ C q η S).bind fun x => (items x.2 x.1).bind fun ds => some (.tup ds, x.2) := by simp only [runE]
theorem e_qlen : runE C (.qlen q) η S = (runQ C q η S).bind fun x => (items x.2 x.1).bind fun ds => some (.int ds.length, x.2) := by simp only [runE]
theorem e_qsum : runE C (.qsum q) η S = (runQ C q η S).bind fun x => (items x.2 x.1).bind fun ds => (toInts ds).bind fun ns => some (.int ns.sum, x.2) := by
  simp only [runE, Option.map_eq_bind] <;> rfl
theorem e_qall : runE C (.qall q) η S = (runQ C q η S).bind fun x => lists (fun ds S => (toBls ds).bind fun bs => some (.bl (bs.all id), S)) x.1 x.2 := by
  simp only [runE, Option.map_eq_bind] <;> rfl
theorem e_qany : runE C (.qany q) η S = (runQ C q η S).bind fun x => lists (fun ds S => (toBls ds).bind fun bs => some (.bl (bs.any id), S)) x.1 x.2 := by
  simp only [runE, Option.map_eq_bind] <;> rfl
theorem e_qmax : runE C (.qmax q) η S = (runQ C q η S).bind fun x => lists (fun ds S => (toInts ds).bind fun ns => if ns = [] then none else some (.int (maxI ns), S)) x.1 x.2 := by simp only [runE]
theorem e_qmin : runE C (.qmin q) η S = (runQ C q η S).bind fun x => lists (fun ds S => (toInts ds).bind fun ns => if ns = [] then none else some (.int (minI ns), S)) x.1 x.2 := by simp only [runE]
theorem lists_new (f : List D → Sto → Option (D × Sto)) (ds : List D) : lists f (.new ds) S = f ds S := nr rfl
theorem lists_frl (f : List D → Sto → Option (D × Sto)) (ds : List D) : lists f (.val (.frl ds)) S = f ds S := nr rfl
theorem lists_ref (f : List D → Sto → Option (D × Sto)) {n : Nat} {ds : List D} (h : S[n]? = some (.lst ds)) : lists f (.val (.ref n)) S = f ds S := by simp [lists, items, h]
def alloc1 (r : Qv × Sto) : Option (D × Sto) := match r.1 with | .new ds => some (.ref r.2.length, r.2 ++ [.lst ds]) | .val _ => none
theorem alloc_new (ds : List D) : alloc1 (.new ds, S) = some (.ref S.length, S ++ [.lst ds]) := nr rfl
theorem e_alloc : runE C (.alloc q) η S = (runQ C q η S).bind alloc1 := by simp only [runE] <;> rfl
theorem e_isin (t : Ty) : runE C (.isin a t) η S = (runE C a η S).bind fun x => some (.bl (isTy x.1 t), x.2) := by simp only [runE]
def int11 (r : D × Sto) : Option (D × Sto) := match r.1 with | .int i => some (.int i, r.2) | .bl b => some (.int (if b then 1 else 0), r.2) | _ => none
theorem int11_int (i : Int) : int11 (.int i, S) = some (.int i, S) := nr rfl
theorem int11_bl (b : Bool) : int11 (.bl b, S) = some (.int (if b then 1 else 0), S) := nr rfl
theorem e_int1 : runE C (.int1 a) η S = (runE C a η S).bind int11 := by simp only [runE] <;> rfl
def abs1 (r : D × Sto) : Option (D × Sto) := match r.1 with | .int i => some (.int (if i < 0 then -i else i), r.2) | _ => none
theorem abs1_int (i : Int) : abs1 (.int i, S) = some (.int (if i < 0 then -i else i), S) := nr rfl
theorem e_abs : runE C (.abs a) η S = (runE C a η S).bind abs1 := by simp only [runE] <;> rfl
def max21 (d e : D) (S : Sto) : Option (D × Sto) := match d, e with | .int i, .int j => some (.int (if j > i then j else i), S) | _, _ => none
theorem max21_int (i j : Int) : max21 (.int i) (.int j) S = some (.int (if j > i then j else i), S) := nr rfl
theorem e_max2 : runE C (.max2 a b) η S = (runE C a η S).bind fun x => (runE C b η x.2).bind fun y => max21 x.1 y.1 y.2 := by simp only [runE] <;> rfl
def min21 (d e : D) (S : Sto) : Option (D × Sto) := match d, e with | .int i, .int j => some (.int (if j < i then j else i), S) | _, _ => none
theorem min21_int (i j : Int) : min21 (.int i) (.int j) S = some (.int (if j < i then j else i), S) := nr rfl
theorem e_min2 : runE C (.min2 a b) η S = (runE C a η S).bind fun x => (runE C b η x.2).bind fun y => min21 x.1 y.1 y.2 := by simp only [runE] <;> rfl
def pop1 (r : D × Sto) : Option (D × Sto) := match r.1 with
  | .ref n => match r.2[n]? with
    | some (.lst ds) => (ds[ds.length - 1]?).map fun d => (d, setN r.2 n ds.dropLast)
    | none => none
  | _ => none
theorem e_pop : runE C (.pop a) η S = (runE C a η S).bind pop1 := by simp only [runE] <;> rfl
def popAt1 (x y : D) (S : Sto) : Option (D × Sto) := match x, y with
  | .ref n, .int i => match S[n]? with
    | some (.lst ds) => if 0 ≤ i ∧ i < 2 ^ 62 then (ds[i.toNat]?).map fun d => (d, setN S n (ds.eraseIdx i.toNat)) else none
    | none => none
  | _, _ => none
theorem e_popAt : runE C (.popAt a b) η S = (runE C a η S).bind fun x => (runE C b η x.2).bind fun y => popAt1 x.1 y.1 y.2 := by simp only [runE] <;> rfl
def app1 (x y : D) (S : Sto) : Option (D × Sto) := match x with
  | .ref n => match S[n]? with
    | some (.lst ds) => if ds.length < sizeLine then some (.non, setN S n (ds ++ [y])) else none
    | none => none
  | _ => none
theorem e_append : runE C (.append a b) η S = (runE C a η S).bind fun x => (runE C b η x.2).bind fun y => app1 x.1 y.1 y.2 := by simp only [runE] <;> rfl
theorem app1_ref {n : Nat} {ds : List D} {y : D} (h : S[n]? = some (.lst ds)) (hl : ds.length < sizeLine) : app1 (.ref n) y S = some (.non, S.set n (.lst (ds ++ [y]))) := by simp [app1, h, hl, setN]
def revs1 (r : D × Sto) : Option (D × Sto) := match r.1 with
  | .ref n => match r.2[n]? with
    | some (.lst ds) => some (.non, setN r.2 n ds.reverse)
    | none => none
  | _ => none
theorem e_reverse : runE C (.reverse a) η S = (runE C a η S).bind revs1 := by simp only [runE] <;> rfl
theorem revs1_ref {n : Nat} {ds : List D} (h : S[n]? = some (.lst ds)) : revs1 (.ref n, S) = some (.non, S.set n (.lst ds.reverse)) := by simp [revs1, h, setN]
theorem es_nil : runEs C .nil η S = some ([], S) := by simp only [runEs]
theorem es_cons : runEs C (.cons a es) η S = (runE C a η S).bind fun x => (runEs C es η x.2).bind fun r => some (x.1 :: r.1, r.2) := by simp only [runEs]
def oe1 (r : D × Sto) : Option (Option Int × Sto) := match r.1 with | .int i => some (some i, r.2) | _ => none
theorem oe1_int (i : Int) : oe1 (.int i, S) = some (some i, S) := nr rfl
theorem o_no' : runOe C .no η S = some (none, S) := by simp only [runOe]
theorem o_yes' : runOe C (.yes a) η S = (runE C a η S).bind oe1 := by simp only [runOe] <;> rfl
theorem q_of' : runQ C (.ofE a) η S = (runE C a η S).bind fun x => some (.val x.1, x.2) := by simp only [runQ]
theorem q_disp' : runQ C (.disp es) η S = (runEs C es η S).bind fun x => if x.1.length ≤ sizeLine then some (.new x.1, x.2) else none := by simp only [runQ]
def cond2 (d : D) (t f : Option (Option D × Sto)) : Option (Option D × Sto) := condD d t f
def turnF (C : Nat → List D → Sto → Option (D × Sto)) (elt : E) (l : Tgt) (c : E) (η : En) (x : D) (S : Sto) : Option (Option D × Sto) :=
  (bindT l x (wipeD η l.slots)).bind fun b => (runE C c b S).bind fun t => condD t.1 ((runE C elt b t.2).bind fun y => some (some y.1, y.2)) (some (none, t.2))
def compR (f : D → Sto → Option (Option D × Sto)) (r : Ir × Sto) : Option (Qv × Sto) := match r.1 with
  | .sta ds => (compL f ds r.2).bind fun r => some (.new r.1, r.2)
  | .dyn n => (compDn f n fuelN 0 r.2).bind fun r => some (.new r.1, r.2)
theorem comp_sta (f : D → Sto → Option (Option D × Sto)) (ds : List D) : compR f (.sta ds, S) = (compL f ds S).bind fun r => some (.new r.1, r.2) := nr rfl
theorem comp_dyn (f : D → Sto → Option (Option D × Sto)) (n : Nat) : compR f (.dyn n, S) = (compDn f n fuelN 0 S).bind fun r => some (.new r.1, r.2) := nr rfl
theorem q_comp' (elt : E) (l : Tgt) (it : It) : runQ C (.comp elt l it c) η S = (runI C it η S).bind fun r => compR (turnF C elt l c η) r := by
  simp only [runQ]
  refine obind fun r => ?_
  obtain ⟨r, S'⟩ := r
  have e : (fun (x : D) (S : Sto) => (bindT l x (wipeD η l.slots)).bind fun b => (runE C c b S).bind fun t => (match t.1 with
        | .bl true => (runE C elt b t.2).bind fun y => some (some y.1, y.2)
        | .bl false => some (none, t.2)
        | _ => none : Option (Option D × Sto))) = turnF C elt l c η := by
    funext x S
    unfold turnF
    refine obind fun b => ?_
    refine obind fun t => ?_
    obtain ⟨t, S2⟩ := t
    cases t with
    | bl k => cases k <;> rfl
    | _ => rfl
  cases r with
  | sta ds => simp only [compR]; rw [← e] <;> rfl
  | dyn n => simp only [compR]; rw [← e] <;> rfl
theorem q_listOf' : runQ C (.listOf q) η S = (runQ C q η S).bind fun x => (items x.2 x.1).bind fun ds => some (.new ds, x.2) := by
  simp only [runQ, Option.map_eq_bind] <;> rfl
def lr1 (r : Ir × Sto) : Option (Qv × Sto) := match r.1 with | .sta ds => some (.new ds, r.2) | .dyn _ => none
theorem lr1_sta (ds : List D) : lr1 (.sta ds, S) = some (.new ds, S) := nr rfl
theorem q_listRng' (it : It) : runQ C (.listRng it) η S = (runI C it η S).bind lr1 := by simp only [runQ] <;> rfl
theorem q_sorted' : runQ C (.sorted q) η S = (runQ C q η S).bind fun x => (items x.2 x.1).bind fun ds => (sortedD ds).bind fun es => some (.new es, x.2) := by
  simp only [runQ, Option.map_eq_bind] <;> rfl
theorem q_cat' (q' : Q) : runQ C (.cat q q') η S = (runQ C q η S).bind fun x => (runQ C q' η x.2).bind fun y => (asL y.2 x.1).bind fun ds => (asL y.2 y.1).bind fun es =>
    if ds.length + es.length ≤ sizeLine then some (.new (ds ++ es), y.2) else none := by simp only [runQ]
def rep1 (ds : List D) (e : D) (S : Sto) : Option (Qv × Sto) := match e with
  | .int k => if -(2 ^ 63) ≤ k ∧ k < 2 ^ 63 ∧ ds.length * k.toNat ≤ sizeLine then some (.new (List.replicate k.toNat ds).flatten, S) else none
  | _ => none
theorem q_rep' : runQ C (.rep q a) η S = (runQ C q η S).bind fun x => (runE C a η x.2).bind fun y => (asL y.2 x.1).bind fun ds => rep1 ds y.1 y.2 := by simp only [runQ] <;> rfl
def rng11 (r : D × Sto) : Option (Ir × Sto) := match r.1 with | .int j => if -(2 ^ 62) ≤ j ∧ j ≤ sizeLine then some (.sta (rangeD 0 j.toNat), r.2) else none | _ => none
theorem i_rng1' : runI C (.rng1 a) η S = (runE C a η S).bind rng11 := by simp only [runI] <;> rfl
theorem rng11_nat (n : Nat) (h : n ≤ 1000000) : rng11 (.int (n : Int), S) = some (.sta ((List.range n).map dn), S) := by
  have h2 : (n : Int) ≤ sizeLine := by
    show (n : Int) ≤ ((sizeLine : Nat) : Int)
    have : (1000000 : Nat) ≤ sizeLine := by decide
    omega
  simp only [rng11]
  rw [if_pos ⟨by omega, h2⟩, Int.toNat_natCast, rangeD_nat]
def rng21 (x y : D) (S : Sto) : Option (Ir × Sto) := match x, y with
  | .int i, .int j => if -(2 ^ 61) ≤ i ∧ i < 2 ^ 61 ∧ -(2 ^ 61) ≤ j ∧ j < 2 ^ 61 ∧ j - i ≤ sizeLine then some (.sta (rangeD i (j - i).toNat), S) else none
  | _, _ => none
theorem i_rng2' : runI C (.rng2 a b) η S = (runE C a η S).bind fun x => (runE C b η x.2).bind fun y => rng21 x.1 y.1 y.2 := by simp only [runI] <;> rfl
theorem rng21_nat (m n : Nat) (hm : m ≤ 1000000) (h : n ≤ 1000000) : rng21 (.int (m : Int)) (.int (n : Int)) S = some (.sta ((List.range' m (n - m)).map dn), S) := by
  have h2 : (n : Int) - m ≤ sizeLine := by
    show (n : Int) - m ≤ ((sizeLine : Nat) : Int)
    have : (1000000 : Nat) ≤ sizeLine := by decide
    omega
  simp only [rng21]
  rw [if_pos ⟨by omega, by omega, by omega, by omega, h2⟩, show ((n : Int) - m).toNat = n - m by omega, rangeD_from]
theorem rng21_succ (m n : Nat) (hm : m < 1000000) (h : n ≤ 1000000) : rng21 (.int ((m : Int) + 1)) (.int (n : Int)) S = some (.sta ((List.range' (m + 1) (n - (m + 1))).map dn), S) := by
  have := rng21_nat S (m + 1) n hm h
  rwa [Int.natCast_add] at this
def seq1 (r : Qv × Sto) : Option (Ir × Sto) := match r.1 with
  | .new ds => some (.sta ds, r.2) | .val (.tup ds) => some (.sta ds, r.2) | .val (.frl ds) => some (.sta ds, r.2) | .val (.ref n) => some (.dyn n, r.2) | _ => none
theorem i_seq' : runI C (.seq q) η S = (runQ C q η S).bind seq1 := by
  simp only [runI]
  refine obind fun r => ?_
  obtain ⟨r, S'⟩ := r
  cases r with
  | new ds => rfl
  | val d => cases d <;> rfl
theorem seq1_new (ds : List D) : seq1 (.new ds, S) = some (.sta ds, S) := nr rfl
theorem seq1_tup (ds : List D) : seq1 (.val (.tup ds), S) = some (.sta ds, S) := nr rfl
theorem seq1_frl (ds : List D) : seq1 (.val (.frl ds), S) = some (.sta ds, S) := nr rfl
theorem seq1_ref (n : Nat) : seq1 (.val (.ref n), S) = some (.dyn n, S) := nr rfl
theorem l_nm' : runL C (.nm i) x η S = some (η.set i (some x), S) := by simp only [runL]
def sub1 (x y : D) (d : D) (η : En) (S : Sto) : Option (En × Sto) := match x, y with
  | .ref n, .int k => match S[n]? with
    | some (.lst ds) => (ixN ds.length k).map fun j => (η, setN S n (ds.set j d))
    | none => none
  | _, _ => none
theorem l_sub' : runL C (.sub a b) x η S = (runE C a η S).bind fun u => (runE C b η u.2).bind fun y => sub1 u.1 y.1 x η y.2 := by simp only [runL] <;> rfl
theorem ixN_nat {m n : Nat} (h : n < m) : ixN m (n : Int) = some n := by
  unfold ixN
  rw [if_pos (Int.natCast_nonneg n), if_pos (by omega)]
  simp
theorem sub1_nat {n m : Nat} {ds : List D} {d : D} (h : S[n]? = some (.lst ds)) (hm : m < ds.length) : sub1 (.ref n) (.int (m : Int)) d η S = some (η, S.set n (.lst (ds.set m d))) := by
  simp [sub1, h, ixN_nat hm, setN]
theorem l_tup' (ls : Lhs) (ds : List D) : runL C (.tup ls) (.tup ds) η S = runLs C ls ds η S := by simp only [runL]
theorem ls_nil' : runLs C .nil [] η S = some (η, S) := by simp only [runLs]
theorem ls_cons' (l : Lh) (ls : Lhs) (ds : List D) : runLs C (.cons l ls) (x :: ds) η S = (runL C l x η S).bind fun y => runLs C ls ds y.1 y.2 := by simp only [runLs]
theorem bt_one : bindT (.one i) x η = some (η.set i (some x)) := nr rfl
theorem bt_many (is : List Nat) (ds : List D) : bindT (.many is) (.tup ds) η = setAll η is ds := nr rfl
theorem sa_nil : setAll η [] [] = some η := nr rfl
theorem sa_cons (is : List Nat) (ds : List D) : setAll η (i :: is) (x :: ds) = setAll (η.set i (some x)) is ds := nr rfl
theorem ti_nil : toInts [] = some [] := nr rfl
theorem ti_cons (i : Int) (ds : List D) : toInts (.int i :: ds) = (toInts ds).bind fun l => some (i :: l) := by
  simp only [toInts, Option.map_eq_bind]; rfl
theorem ti_ints : ∀ ns : List Int, toInts (ns.map D.int) = some ns
  | [] => rfl
  | n :: ns => by rw [List.map_cons, ti_cons, ti_ints ns]; rfl
theorem ti_nats : ∀ ns : List Nat, toInts (ns.map dn) = some (ns.map fun (n : Nat) => (n : Int))
  | [] => rfl
  | n :: ns => by rw [List.map_cons, ti_cons, ti_nats ns]; rfl
theorem tb_bls : ∀ bs : List Bool, toBls (bs.map D.bl) = some bs
  | [] => rfl
  | b :: bs => by simp [toBls, tb_bls bs]
end
/-! ### places in tuples -/
def index1 (x y : D) (S : Sto) : Option (D × Sto) := match x, y with
  | .tup ds, .int k => (toInts ds).bind fun ns => if k ∈ ns then some (.int (ns.idxOf k : Nat), S) else none
  | .ref n, .int k => match S[n]? with
    | some (.lst ds) => (toInts ds).bind fun ns => if k ∈ ns then some (.int (ns.idxOf k : Nat), S) else none
    | none => none
  | _, _ => none
theorem e_index (C : Nat → List D → Sto → Option (D × Sto)) (η : En) (S : Sto) (a b : E) : runE C (.index a b) η S = (runE C a η S).bind fun x => (runE C b η x.2).bind fun y => index1 x.1 y.1 y.2 := by simp only [runE] <;> rfl
theorem cast_mem {w : List Nat} {v : Nat} : (v : Int) ∈ (w.map fun (n : Nat) => (n : Int)) ↔ v ∈ w := by
  rw [List.mem_map]
  constructor
  · rintro ⟨u, hu, e⟩
    have : u = v := by omega
    exact this ▸ hu
  · exact fun h => ⟨v, h, rfl⟩
theorem cast_idx (v : Nat) : ∀ w : List Nat, (w.map fun (n : Nat) => (n : Int)).idxOf (v : Int) = w.idxOf v
  | [] => rfl
  | u :: w => by
    rw [List.map_cons, List.idxOf_cons, List.idxOf_cons, cast_idx v w]
    have : (((u : Int) == (v : Int)) : Bool) = (u == v) := by
      rw [Bool.eq_iff_iff, beq_iff_eq, beq_iff_eq]
      omega
    rw [this]
theorem cast_count (v : Nat) : ∀ w : List Nat, (w.map fun (n : Nat) => (n : Int)).count (v : Int) = w.count v
  | [] => rfl
  | u :: w => by
    rw [List.map_cons, List.count_cons, List.count_cons, cast_count v w]
    have : (((u : Int) == (v : Int)) : Bool) = (u == v) := by
      rw [Bool.eq_iff_iff, beq_iff_eq, beq_iff_eq]
      omega
    rw [this]
theorem index1_nat {w : List Nat} {v : Nat} (h : v ∈ w) (S : Sto) : index1 (.tup (w.map dn)) (.int (v : Int)) S = some (dn (w.idxOf v), S) := by
  simp only [index1, ti_nats, Option.bind_some]
  rw [if_pos (cast_mem.mpr h), cast_idx]
def index21 (x y z : D) (S : Sto) : Option (D × Sto) := match x, y, z with
  | .tup ds, .int k, .int m => (toInts ds).bind fun ns => if 0 ≤ m ∧ m < 2 ^ 62 ∧ k ∈ ns.drop m.toNat then some (.int ((m.toNat + (ns.drop m.toNat).idxOf k : Nat)), S) else none
  | _, _, _ => none
theorem e_index2 (C : Nat → List D → Sto → Option (D × Sto)) (η : En) (S : Sto) (a b c : E) : runE C (.index2 a b c) η S = (runE C a η S).bind fun x => (runE C b η x.2).bind fun y => (runE C c η y.2).bind fun z => index21 x.1 y.1 z.1 z.2 := by simp only [runE] <;> rfl
theorem idx_drop {w : List Nat} {v m : Nat} (h : v ∈ w.drop m) : (v : Int) ∈ (w.map fun (n : Nat) => (n : Int)).drop m ∧ ((w.map fun (n : Nat) => (n : Int)).drop m).idxOf (v : Int) = (w.drop m).idxOf v := by
  rw [← List.map_drop]
  exact ⟨cast_mem.mpr h, cast_idx _ _⟩
theorem index21_nat {w : List Nat} {v m : Nat} (hm : m ≤ 1000000) (h : v ∈ w.drop m) (S : Sto) : index21 (.tup (w.map dn)) (.int (v : Int)) (.int (m : Int)) S = some (dn (m + (w.drop m).idxOf v), S) := by
  have h1 : (0 : Int) ≤ (m : Int) := Int.natCast_nonneg m
  have h2 : (m : Int) < 2 ^ 62 := by omega
  obtain ⟨h3, h4⟩ := idx_drop h
  show ((toInts (w.map dn)).bind fun ns => if 0 ≤ (m : Int) ∧ (m : Int) < 2 ^ 62 ∧ (v : Int) ∈ ns.drop (m : Int).toNat then some (D.int (((m : Int).toNat + (ns.drop (m : Int).toNat).idxOf (v : Int) : Nat) : Int), S) else none) = _
  rw [ti_nats, Option.bind_some, Int.toNat_natCast]
  show (if 0 ≤ (m : Int) ∧ (m : Int) < 2 ^ 62 ∧ (v : Int) ∈ (w.map fun (n : Nat) => (n : Int)).drop m then some (D.int ((m + ((w.map fun (n : Nat) => (n : Int)).drop m).idxOf (v : Int) : Nat) : Int), S) else none) = _
  rw [if_pos ⟨h1, h2, h3⟩, h4]
def count1 (x y : D) (S : Sto) : Option (D × Sto) := match x, y with
  | .tup ds, .int k => (toInts ds).bind fun ns => some (.int (ns.count k : Nat), S)
  | .ref n, .int k => match S[n]? with
    | some (.lst ds) => (toInts ds).bind fun ns => some (.int (ns.count k : Nat), S)
    | none => none
  | _, _ => none
theorem e_count (C : Nat → List D → Sto → Option (D × Sto)) (η : En) (S : Sto) (a b : E) : runE C (.count a b) η S = (runE C a η S).bind fun x => (runE C b η x.2).bind fun y => count1 x.1 y.1 y.2 := by
  simp only [runE, Option.map_eq_bind] <;> rfl
theorem count1_nat (w : List Nat) (v : Nat) (S : Sto) : count1 (.tup (w.map dn)) (.int (v : Int)) S = some (dn (w.count v), S) := by
  simp only [count1, ti_nats, Option.bind_some, cast_count]
theorem cut_nn (ds : List D) (a b : Nat) : cutD ds (some (a : Int)) (some (b : Int)) = (ds.drop a).take (b - a) := by
  unfold cutD
  rw [HT.sIx_nat, HT.sIx_nat]
  refine List.ext_getElem? fun i => ?_
  rw [List.getElem?_take, List.getElem?_take, List.getElem?_drop, List.getElem?_drop]
  by_cases h : a ≤ ds.length
  · rw [Nat.min_eq_left h]
    by_cases hi : i < b - a
    · rw [if_pos hi]
      by_cases h2 : i < min b ds.length - a
      · rw [if_pos h2]
      · rw [if_neg h2, List.getElem?_eq_none (by omega)]
    · rw [if_neg hi, if_neg (by omega)]
  · rw [if_neg (by omega)]
    split
    · rw [List.getElem?_eq_none (by omega)]
    · rfl
theorem cut_n0 (ds : List D) (b : Nat) : cutD ds none (some (b : Int)) = ds.take b := by
  unfold cutD
  rw [HT.sIx_none, HT.sIx_nat, List.drop_zero, Nat.sub_zero]
  refine List.ext_getElem? fun i => ?_
  rw [List.getElem?_take, List.getElem?_take]
  by_cases hi : i < b
  · rw [if_pos hi]
    by_cases h2 : i < min b ds.length
    · rw [if_pos h2]
    · rw [if_neg h2, List.getElem?_eq_none (by omega)]
  · rw [if_neg hi, if_neg (by omega)]
theorem cut_0n (ds : List D) (a : Nat) : cutD ds (some (a : Int)) none = ds.drop a := by
  unfold cutD
  rw [HT.sIx_none, HT.sIx_nat]
  refine List.ext_getElem? fun i => ?_
  rw [List.getElem?_take, List.getElem?_drop, List.getElem?_drop]
  by_cases h : a ≤ ds.length
  · rw [Nat.min_eq_left h]
    by_cases h2 : i < ds.length - a
    · rw [if_pos h2]
    · rw [if_neg h2, List.getElem?_eq_none (by omega)]
  · rw [if_neg (by omega), List.getElem?_eq_none (by omega)]
theorem eqF_dn (u v : Nat) : eqF (dn u) (dn v) = decide (u = v) := by
  simp only [eqF]
  by_cases h : u = v
  · subst h; simp
  · have h2 : (u : Int) ≠ v := by omega
    simp [h, h2]
theorem flat_dn (w : List Nat) : (w.map dn).all D.isFlat = true := by
  rw [List.all_map]
  exact List.all_eq_true.mpr fun _ _ => rfl
theorem any_dn (w : List Nat) (v : Nat) : ((w.map dn).any fun y => eqF y (dn v)) = decide (v ∈ w) := by
  rw [List.any_map, Bool.eq_iff_iff, List.any_eq_true, decide_eq_true_eq]
  constructor
  · rintro ⟨u, hu, e⟩
    rw [Function.comp, eqF_dn, decide_eq_true_eq] at e
    exact e ▸ hu
  · exact fun h => ⟨v, h, by rw [Function.comp, eqF_dn]; simp⟩
theorem c_in (S : Sto) (w : List Nat) (v : Nat) : cmpop S .in_ (.int (v : Int)) (.tup (w.map dn)) = some (decide (v ∈ w)) := by
  show (if ((D.int (v : Int)).isFlat && (w.map dn).all D.isFlat) = true then some ((w.map dn).any fun y => eqF y (dn v)) else none) = _
  rw [flat_dn, any_dn]; rfl
theorem c_notin (S : Sto) (w : List Nat) (v : Nat) : cmpop S .notin (.int (v : Int)) (.tup (w.map dn)) = some (decide (v ∉ w)) := by
  show (if ((D.int (v : Int)).isFlat && (w.map dn).all D.isFlat) = true then some (!(w.map dn).any fun y => eqF y (dn v)) else none) = _
  rw [flat_dn, any_dn]
  by_cases h : v ∈ w <;> simp [h, D.isFlat]
theorem ite_bl {p : Prop} [Decidable p] (b : Bool) (S : Sto) : (if p then some (D.bl b, S) else some (D.bl false, S)) = some (D.bl (decide p && b), S) := by
  by_cases h : p <;> simp [h]
theorem ite_bl' {p : Prop} [Decidable p] (b : Bool) (S : Sto) : (if p then some (D.bl true, S) else some (D.bl b, S)) = some (D.bl (decide p || b), S) := by
  by_cases h : p <;> simp [h]
theorem million : 1000000 ≤ sizeLine := by decide
theorem sz {n : Nat} (h : n ≤ 1000) : n ≤ sizeLine := by have := million; omega
theorem tb_map {α : Type} (p : α → Bool) : ∀ l : List α, toBls (l.map fun v => .bl (p v)) = some (l.map p)
  | [] => rfl
  | a :: l => by simp [toBls, tb_map p l]
theorem ti_map {α : Type} (p : α → Int) : ∀ l : List α, toInts (l.map fun v => .int (p v)) = some (l.map p)
  | [] => rfl
  | a :: l => by simp [toInts, ti_map p l]
theorem c_eqb (S : Sto) (a b : Bool) : cmpop S .eq (.bl a) (.bl b) = some (a == b) := by
  have h : ∀ a : Bool, (D.bl a).okPy = true := fun a => by cases a <;> rfl
  simp only [cmpop, eqd, h, Bool.and_self, if_true]
  cases a <;> cases b <;> rfl
theorem c_neb (S : Sto) (a b : Bool) : cmpop S .ne (.bl a) (.bl b) = some (a != b) := by
  have h := c_eqb S a b
  simp only [cmpop] at h
  simp [cmpop, h, bne]
theorem pop1_ref {S : Sto} {n : Nat} {ds : List D} {d : D} (h : S[n]? = some (.lst (ds ++ [d]))) : pop1 (.ref n, S) = some (d, S.set n (.lst ds)) := by simp [pop1, h, setN]
theorem popAt1_nat {S : Sto} {n i : Nat} {ds : List D} {d : D} (h : S[n]? = some (.lst ds)) (hi : ds[i]? = some d) (hs : i ≤ 1000000) : popAt1 (.ref n) (.int (i : Int)) S = some (d, S.set n (.lst (ds.eraseIdx i))) := by
  have h1 : (0 : Int) ≤ (i : Int) ∧ (i : Int) < 2 ^ 62 := ⟨Int.natCast_nonneg i, by omega⟩
  unfold popAt1
  simp only [h]
  rw [if_pos h1, Int.toNat_natCast, hi]
  rfl
theorem pow18 : binop .pow (.int 10) (.int 18) = some (.int 1000000000000000000) := by
  have h : (0 : Int) ≤ 18 ∧ (18 : Int) ≤ 1000000 ∧ (10 : Int).natAbs < 2 ^ 64 := by decide
  show (if (0 : Int) ≤ 18 ∧ (18 : Int) ≤ 1000000 ∧ (10 : Int).natAbs < 2 ^ 64 then some (D.int ((10 : Int) ^ (18 : Int).toNat)) else none) = _
  rw [if_pos h]
  rfl
theorem sm_lit : small64 48271 = true ∧ small64 69621 = true ∧ small64 3 = true ∧ small64 2 = true := by decide
theorem sm_of {i : Int} (h1 : 0 ≤ i) (h2 : i < 4294967296) : small64 i = true := by
  unfold small64
  rw [decide_eq_true_eq]
  omega
/-! ### lists of the store -/
def O.its : O → List D | .lst ds => ds
section
variable (S : Sto) (n : Nat) (y d : D) (η : En)
theorem its_lst (ds : List D) : (O.lst ds).its = ds := nr rfl
theorem it_r : items S (.val (.ref n)) = (S[n]?).bind fun o => some o.its := by
  simp only [items]
  cases S[n]? with
  | none => rfl
  | some o => cases o; rfl
theorem as_r : asL S (.val (.ref n)) = (S[n]?).bind fun o => some o.its := by
  simp only [asL]
  cases S[n]? with
  | none => rfl
  | some o => cases o; rfl
theorem lists_r (f : List D → Sto → Option (D × Sto)) : lists f (.val (.ref n)) S = (S[n]?).bind fun o => f o.its S := by
  simp only [lists, it_r]
  cases S[n]? with
  | none => rfl
  | some o => cases o; rfl
theorem x_r (i : Int) : idxD S (.ref n) (.int i) = (S[n]?).bind fun o => atI o.its i := by
  simp only [idxD]
  cases S[n]? with
  | none => rfl
  | some o => cases o; rfl
def popL (ds : List D) (n : Nat) (S : Sto) : Option (D × Sto) := (ds[ds.length - 1]?).map fun d => (d, setN S n ds.dropLast)
theorem popL_app (ds : List D) : popL (ds ++ [d]) n S = some (d, S.set n (.lst ds)) := by simp [popL, setN]
theorem pop_r : pop1 (.ref n, S) = (S[n]?).bind fun o => popL o.its n S := by
  simp only [pop1]
  cases S[n]? with
  | none => rfl
  | some o => cases o; rfl
theorem app_r : app1 (.ref n) y S = (S[n]?).bind fun o => if o.its.length < sizeLine then some (.non, S.set n (.lst (o.its ++ [y]))) else none := by
  simp only [app1]
  cases S[n]? with
  | none => rfl
  | some o => cases o; rfl
theorem revs_r : revs1 (.ref n, S) = (S[n]?).bind fun o => some (.non, S.set n (.lst o.its.reverse)) := by
  simp only [revs1]
  cases S[n]? with
  | none => rfl
  | some o => cases o; rfl
theorem sub_r (m : Nat) : sub1 (.ref n) (.int (m : Int)) d η S = (S[n]?).bind fun o => if m < o.its.length then some (η, S.set n (.lst (o.its.set m d))) else none := by
  simp only [sub1]
  cases S[n]? with
  | none => rfl
  | some o =>
    cases o with
    | lst ds =>
      by_cases h : m < ds.length
      · simp [O.its, h, ixN_nat h, setN]
      · have : ixN ds.length (m : Int) = none := by
          unfold ixN
          rw [if_pos (Int.natCast_nonneg m), if_neg (by omega)]
        simp [O.its, h, this]
theorem augQ_r (es : List D) : augQ1 (.new es, S) n η = (S[n]?).bind fun o => if o.its.length + es.length ≤ sizeLine then some (.nx, η, S.set n (.lst (o.its ++ es))) else none := by
  simp only [augQ1, asL, Option.bind_some]
  cases S[n]? with
  | none => rfl
  | some o => cases o; rfl
theorem popAt_r {i : Nat} (hs : i ≤ 1000000) : popAt1 (.ref n) (.int (i : Int)) S = (S[n]?).bind fun o => (o.its[i]?).bind fun d => some (d, S.set n (.lst (o.its.eraseIdx i))) := by
  have h1 : (0 : Int) ≤ (i : Int) ∧ (i : Int) < 2 ^ 62 := ⟨Int.natCast_nonneg i, by omega⟩
  show (match S[n]? with
    | some (.lst ds) => if (0 : Int) ≤ (i : Int) ∧ (i : Int) < 2 ^ 62 then (ds[(i : Int).toNat]?).map fun d => (d, setN S n (ds.eraseIdx (i : Int).toNat)) else none
    | none => none : Option (D × Sto)) = _
  generalize S[n]? = z
  cases z with
  | none => rfl
  | some o =>
    cases o with
    | lst ds =>
      simp only [Option.bind_some]
      rw [if_pos h1, Int.toNat_natCast]
      simp only [O.its, setN]
      cases ds[i]? <;> rfl
end
section
variable (S : Sto) (b : Bool) (i : Int) (x : Str) (ds : List D) (n : Nat)
theorem ty_non_bool : isTy .non .bool = false := nr rfl
theorem ty_non_int : isTy .non .int = false := nr rfl
theorem ty_non_str : isTy .non .str = false := nr rfl
theorem ty_non_tup : isTy .non .tup = false := nr rfl
theorem ty_non_lst : isTy .non .lst = false := nr rfl
theorem ty_bl_bool : isTy (.bl b) .bool = true := nr rfl
theorem ty_bl_int : isTy (.bl b) .int = true := nr rfl
theorem ty_bl_str : isTy (.bl b) .str = false := nr rfl
theorem ty_bl_tup : isTy (.bl b) .tup = false := nr rfl
theorem ty_bl_lst : isTy (.bl b) .lst = false := nr rfl
theorem ty_int_bool : isTy (.int i) .bool = false := nr rfl
theorem ty_int_int : isTy (.int i) .int = true := nr rfl
theorem ty_int_str : isTy (.int i) .str = false := nr rfl
theorem ty_int_tup : isTy (.int i) .tup = false := nr rfl
theorem ty_int_lst : isTy (.int i) .lst = false := nr rfl
theorem ty_str_bool : isTy (.str x) .bool = false := nr rfl
theorem ty_str_int : isTy (.str x) .int = false := nr rfl
theorem ty_str_str : isTy (.str x) .str = true := nr rfl
theorem ty_str_tup : isTy (.str x) .tup = false := nr rfl
theorem ty_str_lst : isTy (.str x) .lst = false := nr rfl
theorem ty_tup_bool : isTy (.tup ds) .bool = false := nr rfl
theorem ty_tup_int : isTy (.tup ds) .int = false := nr rfl
theorem ty_tup_str : isTy (.tup ds) .str = false := nr rfl
theorem ty_tup_tup : isTy (.tup ds) .tup = true := nr rfl
theorem ty_tup_lst : isTy (.tup ds) .lst = false := nr rfl
theorem ty_frl_bool : isTy (.frl ds) .bool = false := nr rfl
theorem ty_frl_int : isTy (.frl ds) .int = false := nr rfl
theorem ty_frl_str : isTy (.frl ds) .str = false := nr rfl
theorem ty_frl_tup : isTy (.frl ds) .tup = false := nr rfl
theorem ty_frl_lst : isTy (.frl ds) .lst = true := nr rfl
theorem ty_ref_bool : isTy (.ref n) .bool = false := nr rfl
theorem ty_ref_int : isTy (.ref n) .int = false := nr rfl
theorem ty_ref_str : isTy (.ref n) .str = false := nr rfl
theorem ty_ref_tup : isTy (.ref n) .tup = false := nr rfl
theorem ty_ref_lst : isTy (.ref n) .lst = true := nr rfl
theorem is_non : cmpop S .is_ .non .non = some true := nr rfl
theorem isn_non : cmpop S .isnot .non .non = some false := nr rfl
theorem is_bl : cmpop S .is_ (.bl b) .non = some false := nr rfl
theorem isn_bl : cmpop S .isnot (.bl b) .non = some true := nr rfl
theorem is_int : cmpop S .is_ (.int i) .non = some false := nr rfl
theorem isn_int : cmpop S .isnot (.int i) .non = some true := nr rfl
theorem is_str : cmpop S .is_ (.str x) .non = some false := nr rfl
theorem isn_str : cmpop S .isnot (.str x) .non = some true := nr rfl
theorem is_tup : cmpop S .is_ (.tup ds) .non = some false := nr rfl
theorem isn_tup : cmpop S .isnot (.tup ds) .non = some true := nr rfl
theorem is_frl : cmpop S .is_ (.frl ds) .non = some false := nr rfl
theorem isn_frl : cmpop S .isnot (.frl ds) .non = some true := nr rfl
theorem is_ref : cmpop S .is_ (.ref n) .non = some false := nr rfl
theorem isn_ref : cmpop S .isnot (.ref n) .non = some true := nr rfl
end
theorem szl {n : Nat} (h : n < 1000) : n < sizeLine := by have := million; omega
theorem mod2 (m : Nat) : (((m : Int) % 2 = 1) ↔ m % 2 = 1) ∧ (((m : Int) % 2 = 0) ↔ m % 2 = 0) := by omega
/-- a def's body, step by step -/
local macro_rules
  | `(tactic| simp! [$ls,*]) => `(tactic| simp [-Option.bind_some, bs, u_nil, u_cons, nxt_nx, nxt_rt, nxt_bk, nxt_ct, fin_rt, fin_nx, cond_t, cond_f, cond_bl, bool1_bl, for_sta, for_dyn, v_ite, v_for, v_while, v_aug, v_set, v_expr, v_ret, v_retN, v_pass, v_brk, v_cont, v_augQ,
      e_var, var_some, e_non, e_bl, e_int, e_str, e_bin, e_cmp, e_chain, e_chain3, e_and, e_or, e_ite, not_bl, e_not, neg_int, e_neg, e_tup, e_call, e_idx, cut_tup, e_cut, rev_tup, e_rev, revTo_tup, e_revTo, e_qtup, e_qlen, e_qsum, e_qall, e_qany, e_qmax, e_qmin,
      lists_new, lists_frl, alloc_new, e_alloc, e_isin, ty_non_bool, ty_non_int, ty_non_str, ty_non_tup, ty_non_lst, ty_bl_bool, ty_bl_int, ty_bl_str, ty_bl_tup, ty_bl_lst, ty_int_bool, ty_int_int, ty_int_str, ty_int_tup, ty_int_lst, ty_str_bool, ty_str_int, ty_str_str, ty_str_tup, ty_str_lst, ty_tup_bool, ty_tup_int, ty_tup_str, ty_tup_tup, ty_tup_lst, ty_frl_bool, ty_frl_int, ty_frl_str, ty_frl_tup, ty_frl_lst, ty_ref_bool, ty_ref_int, ty_ref_str, ty_ref_tup, ty_ref_lst, is_non, isn_non, is_bl, isn_bl, is_int, isn_int, is_str, isn_str, is_tup, isn_tup, is_frl, isn_frl, is_ref, isn_ref, int11_int, int11_bl, e_int1, abs1_int, e_abs, max21_int, e_max2, min21_int, e_min2, e_pop, e_popAt, e_append, e_reverse, es_nil, es_cons, oe1_int, o_no', o_yes', q_of', q_disp', comp_sta, comp_dyn, q_comp',
      q_listOf', lr1_sta, q_listRng', q_sorted', q_cat', q_rep', i_rng1', i_rng2', i_seq', seq1_new, seq1_tup, seq1_frl, seq1_ref, l_nm', l_sub', l_tup', ls_nil', ls_cons', bt_one, bt_many, sa_nil, sa_cons, ti_nil, ti_cons, ti_ints, ti_nats, tb_bls, ite_bl, ite_bl', Tgt.slots, wipeD,
      b_add, b_sub, b_fdiv, b_mod, b_mul, b_cat, c_lt, c_le, c_gt, c_ge, c_eqi, c_nei,  it_new, it_tup, it_frl, as_new, atI_nat, atI_0, atI_1, atI_2, atI_3, atI_4, atI_5, x_tup, x_frl, e_index, index1_nat, e_index2, index21_nat, e_count, count1_nat, c_in, c_notin, cut_nn, cut_n0, cut_0n, sz, szl, its_lst, it_r, as_r, lists_r, x_r, popL_app, pop_r, app_r, revs_r, sub_r, augQ_r, Int.natCast_inj, c_eqb, c_neb, pow18, sm_lit, tb_map, ti_map, $ls,*])
def c_crossings_in : Nat := 9
def c_all_passes : Nat := 10
def c_passes_of : Nat := 44
def c_are_by_turns : Nat := 11
def c_interlacers_by : Nat := 12
def c_all_interlacers : Nat := 13
def c_pairs_of_crossings : Nat := 45
def c_between : Nat := 46
def c_is_even_between : Nat := 47
def c_odd_by : Nat := 48
def c_odd_crossings : Nat := 49
def c_count_common : Nat := 50
def c_is_odd_pair_by : Nat := 51
def c_odd_pairs : Nat := 52
def c_is_even_word : Nat := 53
def c_keeps_gauss : Nat := 54
def c__law_draws : Nat := 21
def c__law_take : Nat := 22
def c__law_same : Nat := 23
def c__law_mixed : Nat := 25
def c__law_put : Nat := 26
def c__law_drawn : Nat := 27
def c__law_brackets : Nat := 28
def c__law_word : Nat := 29
def c__law_passes : Nat := 30
def c__law_do_interlace : Nat := 31
def c__law_table : Nat := 32
def c__law_reading : Nat := 55
def c__law_odd : Nat := 56
def c__law_near : Nat := 57
def c__law_is_told : Nat := 58
def c_law : Nat := 59
/-- crossings_in, of ["word"] -/
def f_crossings_in : Fn := ⟨1, 1, (.cons (.ret (.bin .fdiv (.qlen (.ofE (.var 0))) (.int 2)))
      .nil)⟩
/-- all_passes, of ["word", "found", "place", "crossing", "places"] -/
def f_all_passes : Fn := ⟨1, 5, (.cons (.set (.nm 1) (.alloc (.comp (.alloc (.disp .nil)) (.one 3) (.rng1 (.call c_crossings_in (.cons (.var 0) .nil))) (.bl true))))
      (.cons (.for_ (.one 2) (.rng1 (.qlen (.ofE (.var 0)))) (.cons (.expr (.append (.idx (.var 1) (.idx (.var 0) (.var 2))) (.var 2)))
      .nil))
      (.cons (.ret (.qtup (.comp (.qtup (.ofE (.var 4))) (.one 4) (.seq (.ofE (.var 1))) (.bl true))))
      .nil)))⟩
/-- passes_of, of ["word", "v", "first"] -/
def f_passes_of : Fn := ⟨2, 3, (.cons (.set (.nm 2) (.index (.var 0) (.var 1)))
      (.cons (.ret (.tup (.cons (.var 2) (.cons (.index2 (.var 0) (.var 1) (.bin .add (.var 2) (.int 1))) .nil))))
      .nil))⟩
/-- are_by_turns, of ["one", "other"] -/
def f_are_by_turns : Fn := ⟨2, 2, (.cons (.ret (.or (.chain3 .lt .lt .lt (.idx (.var 0) (.int 0)) (.idx (.var 1) (.int 0)) (.idx (.var 0) (.int 1)) (.idx (.var 1) (.int 1))) (.chain3 .lt .lt .lt (.idx (.var 1) (.int 0)) (.idx (.var 0) (.int 0)) (.idx (.var 1) (.int 1)) (.idx (.var 0) (.int 1)))))
      .nil)⟩
/-- interlacers_by, of ["passes", "v", "w"] -/
def f_interlacers_by : Fn := ⟨2, 3, (.cons (.ret (.qtup (.comp (.var 2) (.one 2) (.rng1 (.qlen (.ofE (.var 0)))) (.and (.cmp .ne (.var 2) (.var 1)) (.call c_are_by_turns (.cons (.idx (.var 0) (.var 1)) (.cons (.idx (.var 0) (.var 2)) .nil)))))))
      .nil)⟩
/-- all_interlacers, of ["word", "passes", "v"] -/
def f_all_interlacers : Fn := ⟨1, 3, (.cons (.set (.nm 1) (.call c_all_passes (.cons (.var 0) .nil)))
      (.cons (.ret (.qtup (.comp (.call c_interlacers_by (.cons (.var 1) (.cons (.var 2) .nil))) (.one 2) (.rng1 (.qlen (.ofE (.var 1)))) (.bl true))))
      .nil))⟩
/-- pairs_of_crossings, of ["n", "found", "v", "w"] -/
def f_pairs_of_crossings : Fn := ⟨1, 4, (.cons (.set (.nm 1) (.alloc (.disp .nil)))
      (.cons (.for_ (.one 2) (.rng1 (.var 0)) (.cons (.augQ 1 (.comp (.tup (.cons (.var 2) (.cons (.var 3) .nil))) (.one 3) (.rng2 (.bin .add (.var 2) (.int 1)) (.var 0)) (.bl true)))
      .nil))
      (.cons (.ret (.var 1))
      .nil)))⟩
/-- between, of ["word", "v", "first", "second"] -/
def f_between : Fn := ⟨2, 4, (.cons (.set (.tup (.cons (.nm 2) (.cons (.nm 3) .nil))) (.call c_passes_of (.cons (.var 0) (.cons (.var 1) .nil))))
      (.cons (.ret (.cut (.var 0) (.yes (.bin .add (.var 2) (.int 1))) (.yes (.var 3))))
      .nil))⟩
/-- is_even_between, of ["word", "v"] -/
def f_is_even_between : Fn := ⟨2, 2, (.cons (.ret (.cmp .eq (.bin .mod (.qlen (.ofE (.call c_between (.cons (.var 0) (.cons (.var 1) .nil))))) (.int 2)) (.int 0)))
      .nil)⟩
/-- odd_by, of ["rows", "v"] -/
def f_odd_by : Fn := ⟨1, 2, (.cons (.ret (.qtup (.comp (.var 1) (.one 1) (.rng1 (.qlen (.ofE (.var 0)))) (.cmp .eq (.bin .mod (.qlen (.ofE (.idx (.var 0) (.var 1)))) (.int 2)) (.int 1)))))
      .nil)⟩
/-- odd_crossings, of ["word"] -/
def f_odd_crossings : Fn := ⟨1, 1, (.cons (.ret (.call c_odd_by (.cons (.call c_all_interlacers (.cons (.var 0) .nil)) .nil)))
      .nil)⟩
/-- count_common, of ["rows", "v", "w", "u"] -/
def f_count_common : Fn := ⟨3, 4, (.cons (.ret (.qlen (.comp (.var 3) (.one 3) (.seq (.ofE (.idx (.var 0) (.var 1)))) (.cmp .in_ (.var 3) (.idx (.var 0) (.var 2))))))
      .nil)⟩
/-- is_odd_pair_by, of ["rows", "v", "w"] -/
def f_is_odd_pair_by : Fn := ⟨3, 3, (.cons (.ret (.and (.cmp .notin (.var 2) (.idx (.var 0) (.var 1))) (.cmp .eq (.bin .mod (.call c_count_common (.cons (.var 0) (.cons (.var 1) (.cons (.var 2) .nil)))) (.int 2)) (.int 1))))
      .nil)⟩
/-- odd_pairs, of ["word", "rows", "v", "w"] -/
def f_odd_pairs : Fn := ⟨1, 4, (.cons (.set (.nm 1) (.call c_all_interlacers (.cons (.var 0) .nil)))
      (.cons (.ret (.qtup (.comp (.tup (.cons (.var 2) (.cons (.var 3) .nil))) (.many [2, 3]) (.seq (.ofE (.call c_pairs_of_crossings (.cons (.qlen (.ofE (.var 1))) .nil)))) (.call c_is_odd_pair_by (.cons (.var 1) (.cons (.var 2) (.cons (.var 3) .nil)))))))
      .nil))⟩
/-- is_even_word, of ["word"] -/
def f_is_even_word : Fn := ⟨1, 1, (.cons (.ret (.and (.cmp .eq (.qlen (.ofE (.call c_odd_crossings (.cons (.var 0) .nil)))) (.int 0)) (.cmp .eq (.qlen (.ofE (.call c_odd_pairs (.cons (.var 0) .nil)))) (.int 0))))
      .nil)⟩
/-- keeps_gauss, of ["word", "v"] -/
def f_keeps_gauss : Fn := ⟨1, 2, (.cons (.ret (.qall (.comp (.call c_is_even_between (.cons (.var 0) (.cons (.var 1) .nil))) (.one 1) (.rng1 (.call c_crossings_in (.cons (.var 0) .nil))) (.bl true))))
      .nil)⟩
/-- _law_draws, of ["script", "many", "cells", "rest", "draws", "k", "at", "once", "cell"] -/
def f__law_draws : Fn := ⟨2, 9, (.cons (.set (.nm 2) (.alloc (.comp (.int1 (.var 8)) (.one 8) (.seq (.ofE (.var 0))) (.bl true))))
      (.cons (.ite (.cmp .eq (.qlen (.ofE (.var 2))) (.int 0)) (.cons (.expr (.append (.var 2) (.int 0)))
      .nil) .nil)
      (.cons (.set (.nm 3) (.alloc (.listOf (.ofE (.var 2)))))
      (.cons (.set (.nm 4) (.alloc (.disp .nil)))
      (.cons (.for_ (.one 5) (.rng1 (.var 1)) (.cons (.set (.nm 6) (.bin .mod (.var 5) (.qlen (.ofE (.var 2)))))
      (.cons (.ite (.and (.cmp .ge (.idx (.var 2) (.var 6)) (.bin .pow (.int 10) (.int 18))) (.cmp .gt (.idx (.var 3) (.var 6)) (.int 0))) (.cons (.expr (.append (.var 4) (.bin .mod (.int1 (.idx (.var 3) (.var 6))) (.int 1000))))
      (.cons (.set (.sub (.var 3) (.var 6)) (.bin .fdiv (.idx (.var 3) (.var 6)) (.int 1000)))
      .nil)) (.cons (.set (.nm 7) (.bin .mod (.int1 (.bin .add (.bin .add (.bin .mul (.idx (.var 2) (.var 6)) (.int 48271)) (.bin .mul (.var 5) (.int 69621))) (.int 11))) (.int 2147483647)))
      (.cons (.expr (.append (.var 4) (.bin .mod (.int1 (.bin .add (.bin .add (.bin .mul (.var 7) (.var 7)) (.bin .mul (.int 3) (.var 7))) (.var 5))) (.int 1000003))))
      .nil)))
      .nil)))
      (.cons (.expr (.reverse (.var 4)))
      (.cons (.ret (.var 4))
      .nil)))))))⟩
/-- _law_take, of ["draws", "many"] -/
def f__law_take : Fn := ⟨2, 2, (.cons (.ite (.cmp .eq (.qlen (.ofE (.var 0))) (.int 0)) (.cons (.ret (.int 0))
      .nil) .nil)
      (.cons (.ret (.bin .mod (.int1 (.pop (.var 0))) (.var 1)))
      .nil))⟩
/-- _law_same, of ["actual", "due", "k"] -/
def f__law_same : Fn := ⟨2, 3, (.cons (.ite (.isin (.var 1) .bool) (.cons (.ret (.and (.isin (.var 0) .bool) (.cmp .eq (.var 0) (.var 1))))
      .nil) .nil)
      (.cons (.ite (.isin (.var 1) .int) (.cons (.ret (.and (.isin (.var 0) .int) (.and (.not (.isin (.var 0) .bool)) (.cmp .eq (.var 0) (.var 1)))))
      .nil) .nil)
      (.cons (.ite (.isin (.var 1) .str) (.cons (.ret (.and (.isin (.var 0) .str) (.cmp .eq (.var 0) (.var 1))))
      .nil) .nil)
      (.cons (.ite (.cmp .is_ (.var 1) .non) (.cons (.ret (.cmp .is_ (.var 0) .non))
      .nil) .nil)
      (.cons (.ite (.or (.not (.isin (.var 0) .tup)) (.cmp .ne (.qlen (.ofE (.var 0))) (.qlen (.ofE (.var 1))))) (.cons (.ret (.bl false))
      .nil) .nil)
      (.cons (.for_ (.one 2) (.rng1 (.qlen (.ofE (.var 1)))) (.cons (.ite (.not (.call c__law_same (.cons (.idx (.var 0) (.var 2)) (.cons (.idx (.var 1) (.var 2)) .nil)))) (.cons (.ret (.bl false))
      .nil) .nil)
      .nil))
      (.cons (.ret (.bl true))
      .nil)))))))⟩
/-- _law_mixed, of ["draws", "row", "left", "found", "k"] -/
def f__law_mixed : Fn := ⟨2, 5, (.cons (.set (.nm 2) (.alloc (.listOf (.ofE (.var 1)))))
      (.cons (.set (.nm 3) (.alloc (.disp .nil)))
      (.cons (.for_ (.one 4) (.rng1 (.qlen (.ofE (.var 1)))) (.cons (.expr (.append (.var 3) (.popAt (.var 2) (.call c__law_take (.cons (.var 0) (.cons (.qlen (.ofE (.var 2))) .nil))))))
      .nil))
      (.cons (.ret (.qtup (.ofE (.var 3))))
      .nil))))⟩
/-- _law_put, of ["word", "at", "block", "v"] -/
def f__law_put : Fn := ⟨3, 4, (.cons (.ret (.bin .add (.bin .add (.cut (.var 0) .no (.yes (.var 1))) (.qtup (.comp (.bin .add (.var 3) (.bin .fdiv (.qlen (.ofE (.var 0))) (.int 2))) (.one 3) (.seq (.ofE (.var 2))) (.bl true)))) (.cut (.var 0) (.yes (.var 1)) .no)))
      .nil)⟩
/-- _law_drawn, of ["draws", "n", "blocks", "word", "step", "block", "left", "by", "names", "v"] -/
def f__law_drawn : Fn := ⟨2, 10, (.cons (.set (.nm 2) (.alloc (.disp (.cons (.tup (.cons (.int 0) (.cons (.int 0) .nil))) (.cons (.tup (.cons (.int 0) (.cons (.int 0) .nil))) (.cons (.tup (.cons (.int 0) (.cons (.int 1) (.cons (.int 2) (.cons (.int 0) (.cons (.int 1) (.cons (.int 2) .nil))))))) (.cons (.tup (.cons (.int 0) (.cons (.int 1) (.cons (.int 2) (.cons (.int 0) (.cons (.int 3) (.cons (.int 2) (.cons (.int 1) (.cons (.int 3) .nil))))))))) (.cons (.tup (.cons (.int 0) (.cons (.int 1) (.cons (.int 2) (.cons (.int 0) (.cons (.int 3) (.cons (.int 4) (.cons (.int 1) (.cons (.int 2) (.cons (.int 4) (.cons (.int 3) .nil))))))))))) (.cons (.tup (.cons (.int 0) (.cons (.int 1) (.cons (.int 2) (.cons (.int 3) (.cons (.int 4) (.cons (.int 0) (.cons (.int 1) (.cons (.int 2) (.cons (.int 3) (.cons (.int 4) .nil))))))))))) .nil)))))))))
      (.cons (.set (.nm 3) (.tup .nil))
      (.cons (.for_ (.one 4) (.rng1 (.var 1)) (.cons (.set (.nm 6) (.alloc (.comp (.var 5) (.one 5) (.seq (.ofE (.var 2))) (.cmp .le (.bin .add (.qlen (.ofE (.var 5))) (.qlen (.ofE (.var 3)))) (.bin .mul (.int 2) (.var 1))))))
      (.cons (.ite (.cmp .gt (.qlen (.ofE (.var 6))) (.int 0)) (.cons (.set (.nm 5) (.idx (.var 6) (.bin .sub (.bin .sub (.qlen (.ofE (.var 6))) (.int 1)) (.call c__law_take (.cons (.var 0) (.cons (.qlen (.ofE (.var 6))) .nil))))))
      (.cons (.set (.nm 7) (.call c__law_take (.cons (.var 0) (.cons (.qlen (.ofE (.var 5))) .nil))))
      (.cons (.set (.nm 3) (.call c__law_put (.cons (.var 3) (.cons (.call c__law_take (.cons (.var 0) (.cons (.bin .add (.qlen (.ofE (.var 3))) (.int 1)) .nil))) (.cons (.bin .add (.cut (.var 5) (.yes (.var 7)) .no) (.cut (.var 5) .no (.yes (.var 7)))) .nil)))))
      .nil))) .nil)
      .nil)))
      (.cons (.set (.nm 8) (.call c__law_mixed (.cons (.var 0) (.cons (.alloc (.listRng (.rng1 (.var 1)))) .nil))))
      (.cons (.ret (.qtup (.comp (.idx (.var 8) (.var 9)) (.one 9) (.seq (.ofE (.var 3))) (.bl true))))
      .nil)))))⟩
/-- _law_brackets, of ["draws", "n", "word", "v"] -/
def f__law_brackets : Fn := ⟨2, 4, (.cons (.set (.nm 2) (.tup .nil))
      (.cons (.for_ (.one 3) (.rng1 (.var 1)) (.cons (.set (.nm 2) (.call c__law_put (.cons (.var 2) (.cons (.call c__law_take (.cons (.var 0) (.cons (.bin .add (.qlen (.ofE (.var 2))) (.int 1)) .nil))) (.cons (.tup (.cons (.int 0) (.cons (.int 0) .nil))) .nil)))))
      .nil))
      (.cons (.ret (.var 2))
      .nil)))⟩
/-- _law_word, of ["draws", "n", "pick", "row", "word", "v", "turn", "at"] -/
def f__law_word : Fn := ⟨2, 8, (.cons (.set (.nm 2) (.call c__law_take (.cons (.var 0) (.cons (.int 6) .nil))))
      (.cons (.ite (.and (.cmp .eq (.var 2) (.int 0)) (.cmp .gt (.var 1) (.int 0))) (.cons (.set (.nm 3) (.call c__law_mixed (.cons (.var 0) (.cons (.alloc (.listRng (.rng1 (.var 1)))) .nil))))
      (.cons (.ret (.bin .add (.var 3) (.idx (.alloc (.disp (.cons (.var 3) (.cons (.rev (.var 3)) (.cons (.call c__law_mixed (.cons (.var 0) (.cons (.var 3) .nil))) .nil))))) (.call c__law_take (.cons (.var 0) (.cons (.int 3) .nil))))))
      .nil)) .nil)
      (.cons (.ite (.cmp .eq (.var 2) (.int 1)) (.cons (.ret (.call c__law_brackets (.cons (.var 0) (.cons (.var 1) .nil))))
      .nil) .nil)
      (.cons (.ite (.cmp .eq (.var 2) (.int 2)) (.cons (.ret (.call c__law_drawn (.cons (.var 0) (.cons (.var 1) .nil))))
      .nil) .nil)
      (.cons (.set (.nm 4) (.tup .nil))
      (.cons (.for_ (.one 5) (.rng1 (.var 1)) (.cons (.for_ (.one 6) (.rng1 (.int 2)) (.cons (.set (.nm 7) (.call c__law_take (.cons (.var 0) (.cons (.bin .add (.qlen (.ofE (.var 4))) (.int 1)) .nil))))
      (.cons (.set (.nm 4) (.bin .add (.bin .add (.cut (.var 4) .no (.yes (.var 7))) (.tup (.cons (.var 5) .nil))) (.cut (.var 4) (.yes (.var 7)) .no)))
      .nil)))
      .nil))
      (.cons (.ret (.var 4))
      .nil)))))))⟩
/-- _law_passes, of ["word", "v", "first"] -/
def f__law_passes : Fn := ⟨2, 3, (.cons (.set (.nm 2) (.index (.var 0) (.var 1)))
      (.cons (.ret (.tup (.cons (.var 2) (.cons (.index2 (.var 0) (.var 1) (.bin .add (.var 2) (.int 1))) .nil))))
      .nil))⟩
/-- _law_do_interlace, of ["word", "v", "w", "first", "second"] -/
def f__law_do_interlace : Fn := ⟨3, 5, (.cons (.set (.tup (.cons (.nm 3) (.cons (.nm 4) .nil))) (.call c__law_passes (.cons (.var 0) (.cons (.var 1) .nil))))
      (.cons (.ret (.cmp .eq (.count (.cut (.var 0) (.yes (.bin .add (.var 3) (.int 1))) (.yes (.var 4))) (.var 2)) (.int 1)))
      .nil))⟩
/-- _law_table, of ["word", "v", "w"] -/
def f__law_table : Fn := ⟨1, 3, (.cons (.ret (.qtup (.comp (.qtup (.comp (.int1 (.call c__law_do_interlace (.cons (.var 0) (.cons (.var 1) (.cons (.var 2) .nil))))) (.one 2) (.rng1 (.bin .fdiv (.qlen (.ofE (.var 0))) (.int 2))) (.bl true))) (.one 1) (.rng1 (.bin .fdiv (.qlen (.ofE (.var 0))) (.int 2))) (.bl true))))
      .nil)⟩
/-- _law_reading, of ["word", "p", "turned", "row"] -/
def f__law_reading : Fn := ⟨3, 4, (.cons (.set (.nm 3) (.bin .add (.cut (.var 0) (.yes (.var 1)) .no) (.cut (.var 0) .no (.yes (.var 1)))))
      (.cons (.ret (.ite (.cmp .eq (.var 2) (.int 0)) (.var 3) (.bin .add (.cut (.var 3) .no (.yes (.int 1))) (.revTo (.var 3) (.int 0)))))
      .nil))⟩
/-- _law_odd, of ["word", "table", "n", "pairs", "v", "w", "both", "u"] -/
def f__law_odd : Fn := ⟨1, 8, (.cons (.set (.nm 1) (.call c__law_table (.cons (.var 0) .nil)))
      (.cons (.set (.nm 2) (.qlen (.ofE (.var 1))))
      (.cons (.set (.nm 3) (.alloc (.disp .nil)))
      (.cons (.for_ (.one 4) (.rng1 (.var 2)) (.cons (.for_ (.one 5) (.rng2 (.bin .add (.var 4) (.int 1)) (.var 2)) (.cons (.set (.nm 6) (.qsum (.comp (.bin .mul (.idx (.idx (.var 1) (.var 4)) (.var 7)) (.idx (.idx (.var 1) (.var 5)) (.var 7))) (.one 7) (.rng1 (.var 2)) (.bl true))))
      (.cons (.ite (.and (.cmp .eq (.idx (.idx (.var 1) (.var 4)) (.var 5)) (.int 0)) (.cmp .eq (.bin .mod (.var 6) (.int 2)) (.int 1))) (.cons (.expr (.append (.var 3) (.tup (.cons (.var 4) (.cons (.var 5) .nil)))))
      .nil) .nil)
      .nil)))
      .nil))
      (.cons (.ret (.tup (.cons (.qtup (.comp (.var 4) (.one 4) (.rng1 (.var 2)) (.cmp .eq (.bin .mod (.qsum (.ofE (.idx (.var 1) (.var 4)))) (.int 2)) (.int 1)))) (.cons (.qtup (.ofE (.var 3))) .nil))))
      .nil)))))⟩
/-- _law_near, of ["draws", "n", "word", "turn", "at", "p", "q"] -/
def f__law_near : Fn := ⟨2, 7, (.cons (.ite (.cmp .eq (.var 1) (.int 0)) (.cons (.ret (.tup .nil))
      .nil) .nil)
      (.cons (.ite (.cmp .eq (.call c__law_take (.cons (.var 0) (.cons (.int 2) .nil))) (.int 0)) (.cons (.set (.nm 2) (.call c__law_drawn (.cons (.var 0) (.cons (.bin .sub (.var 1) (.int 1)) .nil))))
      (.cons (.for_ (.one 3) (.rng1 (.int 2)) (.cons (.set (.nm 4) (.call c__law_take (.cons (.var 0) (.cons (.bin .add (.qlen (.ofE (.var 2))) (.int 1)) .nil))))
      (.cons (.set (.nm 2) (.bin .add (.bin .add (.cut (.var 2) .no (.yes (.var 4))) (.tup (.cons (.bin .sub (.var 1) (.int 1)) .nil))) (.cut (.var 2) (.yes (.var 4)) .no)))
      .nil)))
      (.cons (.ret (.var 2))
      .nil))) .nil)
      (.cons (.set (.nm 2) (.alloc (.listOf (.ofE (.call c__law_drawn (.cons (.var 0) (.cons (.var 1) .nil)))))))
      (.cons (.set (.tup (.cons (.nm 5) (.cons (.nm 6) .nil))) (.tup (.cons (.call c__law_take (.cons (.var 0) (.cons (.qlen (.ofE (.var 2))) .nil))) (.cons (.call c__law_take (.cons (.var 0) (.cons (.qlen (.ofE (.var 2))) .nil))) .nil))))
      (.cons (.set (.tup (.cons (.sub (.var 2) (.var 5)) (.cons (.sub (.var 2) (.var 6)) .nil))) (.tup (.cons (.idx (.var 2) (.var 6)) (.cons (.idx (.var 2) (.var 5)) .nil))))
      (.cons (.ret (.qtup (.ofE (.var 2))))
      .nil))))))⟩
/-- _law_is_told, of ["draws", "word", "odd", "pairs", "gauss", "v", "first", "second", "other", "names", "due", "w"] -/
def f__law_is_told : Fn := ⟨2, 12, (.cons (.set (.tup (.cons (.nm 2) (.cons (.nm 3) .nil))) (.call c__law_odd (.cons (.var 1) .nil)))
      (.cons (.ite (.not (.call c__law_same (.cons (.tup (.cons (.call c_odd_crossings (.cons (.var 1) .nil)) (.cons (.call c_odd_pairs (.cons (.var 1) .nil)) (.cons (.call c_is_even_word (.cons (.var 1) .nil)) .nil)))) (.cons (.tup (.cons (.var 2) (.cons (.var 3) (.cons (.cmp .eq (.bin .add (.qlen (.ofE (.var 2))) (.qlen (.ofE (.var 3)))) (.int 0)) .nil)))) .nil)))) (.cons (.ret (.bl false))
      .nil) .nil)
      (.cons (.set (.nm 4) (.bl true))
      (.cons (.for_ (.one 5) (.rng1 (.bin .fdiv (.qlen (.ofE (.var 1))) (.int 2))) (.cons (.set (.tup (.cons (.nm 6) (.cons (.nm 7) .nil))) (.call c__law_passes (.cons (.var 1) (.cons (.var 5) .nil))))
      (.cons (.set (.nm 4) (.and (.var 4) (.cmp .eq (.bin .mod (.bin .sub (.var 7) (.var 6)) (.int 2)) (.int 1))))
      .nil)))
      (.cons (.ite (.or (.not (.call c__law_same (.cons (.call c_keeps_gauss (.cons (.var 1) .nil)) (.cons (.var 4) .nil)))) (.cmp .ne (.var 4) (.cmp .eq (.qlen (.ofE (.var 2))) (.int 0)))) (.cons (.ret (.bl false))
      .nil) .nil)
      (.cons (.set (.nm 8) (.call c__law_reading (.cons (.var 1) (.cons (.call c__law_take (.cons (.var 0) (.cons (.max2 (.int 1) (.qlen (.ofE (.var 1)))) .nil))) (.cons (.call c__law_take (.cons (.var 0) (.cons (.int 2) .nil))) .nil)))))
      (.cons (.ite (.not (.call c__law_same (.cons (.tup (.cons (.call c_odd_crossings (.cons (.var 8) .nil)) (.cons (.call c_odd_pairs (.cons (.var 8) .nil)) .nil))) (.cons (.tup (.cons (.var 2) (.cons (.var 3) .nil))) .nil)))) (.cons (.ret (.bl false))
      .nil) .nil)
      (.cons (.set (.nm 9) (.call c__law_mixed (.cons (.var 0) (.cons (.alloc (.listRng (.rng1 (.bin .fdiv (.qlen (.ofE (.var 1))) (.int 2))))) .nil))))
      (.cons (.set (.nm 8) (.qtup (.comp (.idx (.var 9) (.var 5)) (.one 5) (.seq (.ofE (.var 1))) (.bl true))))
      (.cons (.set (.nm 10) (.tup (.cons (.qtup (.sorted (.comp (.idx (.var 9) (.var 5)) (.one 5) (.seq (.ofE (.var 2))) (.bl true)))) (.cons (.qtup (.sorted (.comp (.qtup (.sorted (.ofE (.tup (.cons (.idx (.var 9) (.var 5)) (.cons (.idx (.var 9) (.var 11)) .nil)))))) (.many [5, 11]) (.seq (.ofE (.var 3))) (.bl true)))) .nil))))
      (.cons (.ret (.call c__law_same (.cons (.tup (.cons (.call c_odd_crossings (.cons (.var 8) .nil)) (.cons (.call c_odd_pairs (.cons (.var 8) .nil)) .nil))) (.cons (.var 10) .nil))))
      .nil)))))))))))⟩
/-- law, of ["script", "draws", "n", "drawn", "word", "gauss"] -/
def f_law : Fn := ⟨1, 6, (.cons (.set (.nm 1) (.call c__law_draws (.cons (.var 0) (.cons (.int 160) .nil))))
      (.cons (.set (.nm 2) (.call c__law_take (.cons (.var 1) (.cons (.int 7) .nil))))
      (.cons (.set (.nm 3) (.call c__law_drawn (.cons (.var 1) (.cons (.var 2) .nil))))
      (.cons (.for_ (.one 4) (.seq (.ofE (.tup (.cons (.var 3) (.cons (.call c__law_near (.cons (.var 1) (.cons (.var 2) .nil))) (.cons (.call c__law_word (.cons (.var 1) (.cons (.call c__law_take (.cons (.var 1) (.cons (.int 7) .nil))) .nil))) .nil)))))) (.cons (.ite (.not (.call c__law_is_told (.cons (.var 1) (.cons (.var 4) .nil)))) (.cons (.ret (.bl false))
      .nil) .nil)
      .nil))
      (.cons (.ite (.not (.call c__law_same (.cons (.tup (.cons (.call c_is_even_word (.cons (.var 3) .nil)) (.cons (.call c_keeps_gauss (.cons (.var 3) .nil)) .nil))) (.cons (.tup (.cons (.bl true) (.cons (.bl true) .nil))) .nil)))) (.cons (.ret (.bl false))
      .nil) .nil)
      (.cons (.set (.nm 5) (.tup (.cons (.int 0) (.cons (.int 1) (.cons (.int 2) (.cons (.int 3) (.cons (.int 4) (.cons (.int 2) (.cons (.int 3) (.cons (.int 0) (.cons (.int 1) (.cons (.int 4) .nil))))))))))))
      (.cons (.ite (.not (.call c__law_same (.cons (.tup (.cons (.call c_keeps_gauss (.cons (.var 5) .nil)) (.cons (.call c_odd_crossings (.cons (.var 5) .nil)) (.cons (.call c_odd_pairs (.cons (.var 5) .nil)) (.cons (.call c_is_even_word (.cons (.var 5) .nil)) .nil))))) (.cons (.tup (.cons (.bl true) (.cons (.tup .nil) (.cons (.tup (.cons (.tup (.cons (.int 0) (.cons (.int 2) .nil))) (.cons (.tup (.cons (.int 0) (.cons (.int 3) .nil))) (.cons (.tup (.cons (.int 1) (.cons (.int 2) .nil))) (.cons (.tup (.cons (.int 1) (.cons (.int 3) .nil))) .nil))))) (.cons (.bl false) .nil))))) .nil)))) (.cons (.ret (.bl false))
      .nil) .nil)
      (.cons (.ite (.not (.call c__law_same (.cons (.tup (.cons (.call c_keeps_gauss (.cons (.tup .nil) .nil)) (.cons (.call c_keeps_gauss (.cons (.tup (.cons (.int 0) (.cons (.int 1) (.cons (.int 0) (.cons (.int 2) (.cons (.int 1) (.cons (.int 2) .nil))))))) .nil)) .nil))) (.cons (.tup (.cons (.bl true) (.cons (.bl false) .nil))) .nil)))) (.cons (.ret (.bl false))
      .nil) .nil)
      (.cons (.ret (.call c__law_same (.cons (.tup (.cons (.call c_odd_crossings (.cons (.tup (.cons (.int 0) (.cons (.int 1) (.cons (.int 0) (.cons (.int 1) .nil))))) .nil)) (.cons (.call c_odd_pairs (.cons (.tup (.cons (.int 0) (.cons (.int 1) (.cons (.int 0) (.cons (.int 2) (.cons (.int 1) (.cons (.int 2) .nil))))))) .nil)) (.cons (.call c_odd_crossings (.cons (.tup (.cons (.int 0) (.cons (.int 1) (.cons (.int 0) (.cons (.int 2) (.cons (.int 1) (.cons (.int 2) .nil))))))) .nil)) (.cons (.call c_is_even_word (.cons (.tup .nil) .nil)) .nil))))) (.cons (.tup (.cons (.tup (.cons (.int 0) (.cons (.int 1) .nil))) (.cons (.tup (.cons (.tup (.cons (.int 0) (.cons (.int 2) .nil))) .nil)) (.cons (.tup (.cons (.int 0) (.cons (.int 2) .nil))) (.cons (.bl true) .nil))))) .nil))))
      .nil)))))))))⟩
def tabG : List (Nat × Fn) := [(9, f_crossings_in), (10, f_all_passes), (44, f_passes_of), (11, f_are_by_turns), (12, f_interlacers_by), (13, f_all_interlacers), (45, f_pairs_of_crossings), (46, f_between), (47, f_is_even_between), (48, f_odd_by), (49, f_odd_crossings), (50, f_count_common), (51, f_is_odd_pair_by), (52, f_odd_pairs), (53, f_is_even_word), (54, f_keeps_gauss), (21, f__law_draws), (22, f__law_take), (23, f__law_same), (25, f__law_mixed), (26, f__law_put), (27, f__law_drawn), (28, f__law_brackets), (29, f__law_word), (30, f__law_passes), (31, f__law_do_interlace), (32, f__law_table), (55, f__law_reading), (56, f__law_odd), (57, f__law_near), (58, f__law_is_told), (59, f_law)]
def G (i : Nat) : Option Fn := tabG.lookup i
theorem g_crossings_in : G c_crossings_in = some f_crossings_in := by kernel_rfl
theorem g_all_passes : G c_all_passes = some f_all_passes := by kernel_rfl
theorem g_passes_of : G c_passes_of = some f_passes_of := by kernel_rfl
theorem g_are_by_turns : G c_are_by_turns = some f_are_by_turns := by kernel_rfl
theorem g_interlacers_by : G c_interlacers_by = some f_interlacers_by := by kernel_rfl
theorem g_all_interlacers : G c_all_interlacers = some f_all_interlacers := by kernel_rfl
theorem g_pairs_of_crossings : G c_pairs_of_crossings = some f_pairs_of_crossings := by kernel_rfl
theorem g_between : G c_between = some f_between := by kernel_rfl
theorem g_is_even_between : G c_is_even_between = some f_is_even_between := by kernel_rfl
theorem g_odd_by : G c_odd_by = some f_odd_by := by kernel_rfl
theorem g_odd_crossings : G c_odd_crossings = some f_odd_crossings := by kernel_rfl
theorem g_count_common : G c_count_common = some f_count_common := by kernel_rfl
theorem g_is_odd_pair_by : G c_is_odd_pair_by = some f_is_odd_pair_by := by kernel_rfl
theorem g_odd_pairs : G c_odd_pairs = some f_odd_pairs := by kernel_rfl
theorem g_is_even_word : G c_is_even_word = some f_is_even_word := by kernel_rfl
theorem g_keeps_gauss : G c_keeps_gauss = some f_keeps_gauss := by kernel_rfl
theorem g__law_draws : G c__law_draws = some f__law_draws := by kernel_rfl
theorem g__law_take : G c__law_take = some f__law_take := by kernel_rfl
theorem g__law_same : G c__law_same = some f__law_same := by kernel_rfl
theorem g__law_mixed : G c__law_mixed = some f__law_mixed := by kernel_rfl
theorem g__law_put : G c__law_put = some f__law_put := by kernel_rfl
theorem g__law_drawn : G c__law_drawn = some f__law_drawn := by kernel_rfl
theorem g__law_brackets : G c__law_brackets = some f__law_brackets := by kernel_rfl
theorem g__law_word : G c__law_word = some f__law_word := by kernel_rfl
theorem g__law_passes : G c__law_passes = some f__law_passes := by kernel_rfl
theorem g__law_do_interlace : G c__law_do_interlace = some f__law_do_interlace := by kernel_rfl
theorem g__law_table : G c__law_table = some f__law_table := by kernel_rfl
theorem g__law_reading : G c__law_reading = some f__law_reading := by kernel_rfl
theorem g__law_odd : G c__law_odd = some f__law_odd := by kernel_rfl
theorem g__law_near : G c__law_near = some f__law_near := by kernel_rfl
theorem g__law_is_told : G c__law_is_told = some f__law_is_told := by kernel_rfl
theorem g_law : G c_law = some f_law := by kernel_rfl
theorem r_crossings_in (k : Nat) (w : List Nat) : callAt G (k+1) c_crossings_in [wd w] [] = some (dn (w.length / 2), []) := by
  rw [call_eq g_crossings_in rfl]
  simp! [f_crossings_in]
theorem m_crossings_in (k n : Nat) (S : Sto) (w : List Nat) : callM (callAt G (k+1)) c_crossings_in [wd w] n S = some (dn (w.length / 2), S) := callM_pure (by simp [pures, pure_wd]) (r_crossings_in k w) rfl
/-- where v stands in w -/
def posTo (w : List Nat) (v m : Nat) : List Nat := (List.range m).filter fun p => w[p]? = some v
def pos (w : List Nat) (v : Nat) : List Nat := posTo w v w.length
theorem posTo_succ (w : List Nat) (v m : Nat) : posTo w v (m + 1) = posTo w v m ++ if w[m]? = some v then [m] else [] := by
  unfold posTo
  rw [List.range_succ, List.filter_append]
  congr 1
  by_cases h : w[m]? = some v <;> simp [h]
theorem r_are_by_turns (k : Nat) (a b c d : Nat) : callAt G (k+1) c_are_by_turns [wd [a, b], wd [c, d]] [] = some (.bl (decide (a < c ∧ c < b ∧ b < d ∨ c < a ∧ a < d ∧ d < b)), []) := by
  rw [call_eq g_are_by_turns rfl]
  simp! [f_are_by_turns]
/-- rows of places -/
abbrev rowsD (rs : List (List Nat)) : D := .tup (rs.map wd)
theorem posTo_len (w : List Nat) (v m : Nat) : (posTo w v m).length ≤ m := by
  unfold posTo
  exact Nat.le_trans (List.length_filter_le _ _) (by simp)
theorem r_all_passes (k : Nat) (w : List Nat) (hl : w.length ≤ 1000) (hw : ∀ v ∈ w, v < w.length / 2) : ∃ S, callAt G (k+2) c_all_passes [wd w] [] = some (rowsD ((List.range (w.length / 2)).map (pos w)), S) := by
  rw [call_eq g_all_passes rfl]
  generalize hn : w.length / 2 = n at *
  have h1 := million
  simp! [f_all_passes, m_crossings_in, hn, rng11_nat, show n ≤ 1000000 by omega]
  rw [compL_fresh dn [] (fun x _ S => by
    simp [turnF]
    simp! [])]
  simp! [rng11_nat, show w.length ≤ 1000000 by omega]
  obtain ⟨η', S', l1, x, l2, l3⟩ := loop_range (f := forB (callAt G (k+1)) (.one 2) (.cons (.expr (.append (.idx (.var 1) (.idx (.var 0) (.var 2))) (.var 2))) .nil))
    (fun p η S => ∃ x, η = [some (wd w), some (.ref n), x, none, none] ∧ S = ((List.range n).map fun v => O.lst ((posTo w v p).map dn)) ++ [.lst ((List.range n).map D.ref)]) (n := w.length)
    (η := [some (wd w), some (.ref n), none, none, none]) (S := ((List.range n).map fun v => O.lst ((posTo w v 0).map dn)) ++ [.lst ((List.range n).map D.ref)])
    ⟨none, rfl, rfl⟩ (fun p η S hp ⟨x, e1, e2⟩ => by
      subst e1
      have hS : S[n]? = some (.lst ((List.range n).map D.ref)) := by rw [e2]; simp
      have hv : w[p] < n := hw _ (List.getElem_mem hp)
      have hS2 : S[w[p]]? = some (.lst ((posTo w w[p] p).map dn)) := by rw [e2, List.getElem?_append_left (by simpa using hv)]; simp [hv]
      have hlen : (posTo w w[p] p).length < sizeLine := by have := posTo_len w w[p] p; omega
      refine ⟨[some (wd w), some (.ref n), some (dn p), none, none], S.set w[p] (.lst ((posTo w w[p] p).map dn ++ [dn p])), ?_, _, rfl, ?_⟩
      · simp! [forB, x_ref, hS, hp, hv, app1_ref, hS2, hlen]
      rw [e2]
      refine List.ext_getElem (by simp) fun i h1 h2 => ?_
      simp [List.getElem_set, List.getElem_append]
      try simp at h1
      by_cases hi : i < n
      · by_cases hq : w[p] = i
        · subst hq
          simp [hv, posTo_succ, hp]
        · simp [hq, hi, posTo_succ, hp]
      · simp [hi]
        intro hq; omega)
  subst l2
  have e0 : List.replicate n (O.lst []) ++ [O.lst (List.map (fun i => D.ref i) (List.range n))] = ((List.range n).map fun v => O.lst ((posTo w v 0).map dn)) ++ [.lst ((List.range n).map D.ref)] := by
    simp [posTo, List.map_const']
  rw [e0, l1]
  have hS : S'[n]? = some (.lst ((List.range n).map D.ref)) := by rw [l3]; simp
  simp! []
  rw [compDn_eq hS ?h _ _ (by simp [fuelN]; omega), List.drop_zero, compL_all D.ref (fun v => wd (pos w v)) ?h2]
  case h2 =>
    intro v hv
    simp at hv
    have hS2 : S'[v]? = some (.lst ((pos w v).map dn)) := by rw [l3, List.getElem?_append_left (by simpa using hv)]; simp [hv, pos]
    simp! [turnF, it_ref, hS2]
  case h =>
    intro d hd
    obtain ⟨v, hv, rfl⟩ := List.mem_map.mp hd
    simp at hv
    have hS2 : S'[v]? = some (.lst ((pos w v).map dn)) := by rw [l3, List.getElem?_append_left (by simpa using hv)]; simp [hv, pos]
    simp! [turnF, it_ref, hS2]
  simp! [Function.comp]
/-! ## double words -/
structure DW (w : List Nat) (n : Nat) : Prop where
  len : w.length = 2 * n
  lt : ∀ v ∈ w, v < n
  two : ∀ v, v < n → w.count v = 2
  sm : n ≤ 100
theorem pos_app (x y : List Nat) (v : Nat) : pos (x ++ y) v = pos x v ++ (pos y v).map (x.length + ·) := by
  unfold pos posTo
  rw [List.length_append, List.range_add, List.filter_append, List.filter_map]
  congr 1
  · refine List.filter_congr fun p hp => ?_
    rw [List.mem_range] at hp
    rw [List.getElem?_append_left hp]
  · congr 1
    refine List.filter_congr fun p hp => ?_
    simp only [Function.comp]
    rw [List.getElem?_append_right (Nat.le_add_right _ _), Nat.add_sub_cancel_left]
theorem pos_one (u v : Nat) : pos [u] v = if u = v then [0] else [] := by
  unfold pos posTo
  by_cases h : u = v <;> simp [List.range_succ, h]
theorem pos_cons (u : Nat) (w : List Nat) (v : Nat) : pos (u :: w) v = (if u = v then [0] else []) ++ (pos w v).map (1 + ·) := by
  have := pos_app [u] w v
  rw [pos_one] at this
  simpa using this
theorem pos_none {w : List Nat} {v : Nat} (h : v ∉ w) : pos w v = [] := by
  unfold pos posTo
  rw [List.filter_eq_nil_iff]
  intro p _ e
  simp at e
  exact h (List.mem_of_getElem? e)
theorem split_two {w : List Nat} {v : Nat} (h : w.count v = 2) : ∃ a b c, w = a ++ v :: (b ++ v :: c) ∧ v ∉ a ∧ v ∉ b ∧ v ∉ c := by
  have one : ∀ {w : List Nat} {k : Nat}, w.count v = k + 1 → ∃ a c, w = a ++ v :: c ∧ v ∉ a ∧ c.count v = k := by
    intro w
    induction w with
    | nil => intro k h; simp at h
    | cons u w ih =>
      intro k h
      by_cases e : u = v
      · subst e
        exact ⟨[], w, rfl, by simp, by simpa using h⟩
      · rw [List.count_cons_of_ne (by simpa using e)] at h
        obtain ⟨a, c, e1, e2, e3⟩ := ih h
        exact ⟨u :: a, c, by rw [e1]; rfl, by simp [e2, Ne.symm e], e3⟩
  obtain ⟨a, c1, e1, e2, e3⟩ := one h
  obtain ⟨b, c, e4, e5, e6⟩ := one e3
  exact ⟨a, b, c, by rw [e1, e4], e2, e5, List.count_eq_zero.mp e6⟩
/-- its two places -/
def pa (w : List Nat) (v : Nat) : Nat := w.idxOf v
def pb (w : List Nat) (v : Nat) : Nat := pa w v + 1 + (w.drop (pa w v + 1)).idxOf v
theorem places {a b c : List Nat} {v : Nat} (ha : v ∉ a) (hb : v ∉ b) (hc : v ∉ c) : pa (a ++ v :: (b ++ v :: c)) v = a.length ∧ pb (a ++ v :: (b ++ v :: c)) v = a.length + 1 + b.length ∧ pos (a ++ v :: (b ++ v :: c)) v = [a.length, a.length + 1 + b.length] := by
  have h1 : pa (a ++ v :: (b ++ v :: c)) v = a.length := by
    unfold pa
    rw [List.idxOf_append, if_neg ha]
    simp
  refine ⟨h1, ?_, ?_⟩
  · unfold pb
    rw [h1]
    have : (a ++ v :: (b ++ v :: c)).drop (a.length + 1) = b ++ v :: c := by
      rw [← List.drop_drop, List.drop_left]; rfl
    rw [this, List.idxOf_append, if_neg hb]
    simp
  · simp only [pos_app, pos_cons, pos_none ha, pos_none hb, pos_none hc, if_true]
    simp
    omega
section
variable {w : List Nat} {n v : Nat}
theorem DW.pp (h : DW w n) (hv : v < n) : pos w v = [pa w v, pb w v] ∧ pa w v < pb w v ∧ pb w v < 2 * n ∧ w[pa w v]? = some v ∧ w[pb w v]? = some v ∧ v ∈ w ∧ v ∈ w.drop (pa w v + 1) := by
  obtain ⟨a, b, c, e, ha, hb, hc⟩ := split_two (h.two v hv)
  have hl := h.len
  subst e
  obtain ⟨h1, h2, h3⟩ := places ha hb hc
  simp at hl
  refine ⟨by rw [h1, h2, h3], by omega, by omega, ?_, ?_, by simp, ?_⟩
  · rw [h1, List.getElem?_append_right (Nat.le_refl _)]; simp
  · rw [h2, List.getElem?_append_right (by omega), show a.length + 1 + b.length - a.length = b.length + 1 by omega, List.getElem?_cons_succ, List.getElem?_append_right (Nat.le_refl _)]; simp
  · rw [h1, ← List.drop_drop, List.drop_left]; simp
theorem r_passes_of (k : Nat) (h : DW w n) (hv : v < n) : callAt G (k+1) c_passes_of [wd w, dn v] [] = some (wd [pa w v, pb w v], []) := by
  obtain ⟨_, h1, h2, _, _, h3, h4⟩ := h.pp hv
  have hs := h.sm
  have m := million
  rw [call_eq g_passes_of rfl]
  have e : ((w.idxOf v : Nat) : Int) + 1 = ((w.idxOf v + 1 : Nat) : Int) := by simp
  simp! [f_passes_of, h3]
  have h5 : w.idxOf v + 1 ≤ 1000000 := by have : pa w v = w.idxOf v := rfl; omega
  have h6 : v ∈ w.drop (w.idxOf v + 1) := h4
  rw [e, show index21 (wd w) (dn v) (D.int ((w.idxOf v + 1 : Nat) : Int)) [] = _ from index21_nat h5 h6 []]
  simp! []
  exact ⟨rfl, by unfold pb pa; omega⟩
theorem m_passes_of (k nn : Nat) (S : Sto) (h : DW w n) (hv : v < n) : callM (callAt G (k+1)) c_passes_of [wd w, dn v] nn S = some (wd [pa w v, pb w v], S) := callM_pure (by simp [pures, pure_wd, pure_dn]) (r_passes_of k h hv) (pure_wd _)
theorem m_all_passes (k nn : Nat) (S : Sto) (h : DW w n) : callM (callAt G (k+2)) c_all_passes [wd w] nn S = some (rowsD ((List.range n).map fun v => [pa w v, pb w v]), S) := by
  have hn : w.length / 2 = n := by have := h.len; omega
  obtain ⟨S1, e⟩ := r_all_passes k w (by have := h.len; have := h.sm; omega) (fun v hv => by rw [hn]; exact h.lt v hv)
  rw [hn, List.map_congr_left (g := fun v => [pa w v, pb w v]) fun v hv => (h.pp (List.mem_range.mp hv)).1] at e
  refine callM_pure (by simp [pures, pure_wd]) e ?_
  simp only [D.pure]
  exact pures_map _ pure_wd _
/-- by turns -/
def tr (a b : Nat → Nat) (v u : Nat) : Bool := decide (a v < a u ∧ a u < b v ∧ b v < b u ∨ a u < a v ∧ a v < b u ∧ b u < b v)
/-- the crossings that interlace v -/
def inter (a b : Nat → Nat) (n v : Nat) : List Nat := (List.range n).filter fun u => decide (u ≠ v) && tr a b v u
theorem m_are_by_turns (k nn : Nat) (S : Sto) (a b c d : Nat) : callM (callAt G (k+1)) c_are_by_turns [wd [a, b], wd [c, d]] nn S = some (.bl (decide (a < c ∧ c < b ∧ b < d ∨ c < a ∧ a < d ∧ d < b)), S) := callM_pure (by simp [pures, pure_wd]) (r_are_by_turns k a b c d) rfl
theorem pure_rows (rs : List (List Nat)) : (rowsD rs).pure = true := by
  simp only [D.pure]
  exact pures_map _ pure_wd _
theorem r_interlacers_by (k : Nat) (a b : Nat → Nat) (hn : n ≤ 1000) (hv : v < n) : callAt G (k+2) c_interlacers_by [rowsD ((List.range n).map fun u => [a u, b u]), dn v] [] = some (wd (inter a b n v), []) := by
  rw [call_eq g_interlacers_by rfl]
  simp! [f_interlacers_by, rng11_nat, show n ≤ 1000000 by omega]
  rw [compL_some dn (fun u => decide (u ≠ v) && tr a b v u) dn fun u hu => by
    simp at hu
    by_cases e : u = v
    · subst e
      simp! [turnF, hu, hv]
    · simp! [turnF, hu, hv, e, m_are_by_turns, tr]
      split <;> rfl]
  simp! [inter]
theorem m_interlacers_by (k nn : Nat) (S : Sto) (a b : Nat → Nat) (hn : n ≤ 1000) (hv : v < n) : callM (callAt G (k+2)) c_interlacers_by [rowsD ((List.range n).map fun u => [a u, b u]), dn v] nn S = some (wd (inter a b n v), S) :=
  callM_pure (by simp only [pures, pure_rows, pure_dn]; rfl) (r_interlacers_by k a b hn hv) (pure_wd _)
theorem r_all_interlacers (k : Nat) (h : DW w n) : callAt G (k+3) c_all_interlacers [wd w] [] = some (rowsD ((List.range n).map (inter (pa w) (pb w) n)), []) := by
  have hs := h.sm
  rw [call_eq g_all_interlacers rfl]
  simp! [f_all_interlacers, m_all_passes _ _ _ h, rng11_nat, show n ≤ 1000000 by omega]
  rw [compL_all dn (fun v => wd (inter (pa w) (pb w) n v)) fun v hv => by
    simp at hv
    have := m_interlacers_by (n := n) (v := v) k 0 [] (pa w) (pb w) (by omega) hv
    simp! [turnF, this]]
  simp! [Function.comp]
theorem m_all_interlacers (k nn : Nat) (S : Sto) (h : DW w n) : callM (callAt G (k+3)) c_all_interlacers [wd w] nn S = some (rowsD ((List.range n).map (inter (pa w) (pb w) n)), S) :=
  callM_pure (by simp only [pures, pure_wd]; rfl) (r_all_interlacers k h) (pure_rows _)
end
section
variable {w : List Nat} {n v : Nat}
def oddBy (f : Nat → List Nat) (n : Nat) : List Nat := (List.range n).filter fun v => decide ((f v).length % 2 = 1)
theorem r_odd_by (k : Nat) (f : Nat → List Nat) (hn : n ≤ 1000) : callAt G (k+1) c_odd_by [rowsD ((List.range n).map f)] [] = some (wd (oddBy f n), []) := by
  rw [call_eq g_odd_by rfl]
  simp! [f_odd_by, rng11_nat, show n ≤ 1000000 by omega]
  rw [compL_some dn (fun v => decide ((f v).length % 2 = 1)) dn fun u hu => by
    simp at hu
    simp! [turnF, hu]
    have e : (((f u).length : Int) % 2 = 1) ↔ (f u).length % 2 = 1 := by omega
    by_cases h : (f u).length % 2 = 1
    · simp [h, e.mpr h]
    · simp [h, show ¬ (((f u).length : Int) % 2 = 1) from fun z => h (e.mp z)]]
  simp! [oddBy]
theorem m_odd_by (k nn : Nat) (S : Sto) (f : Nat → List Nat) (hn : n ≤ 1000) : callM (callAt G (k+1)) c_odd_by [rowsD ((List.range n).map f)] nn S = some (wd (oddBy f n), S) :=
  callM_pure (by simp only [pures, pure_rows]; rfl) (r_odd_by k f hn) (pure_wd _)
abbrev itl (w : List Nat) (n : Nat) : Nat → List Nat := inter (pa w) (pb w) n
abbrev odds (w : List Nat) (n : Nat) : List Nat := oddBy (itl w n) n
theorem m_odd_crossings (k nn : Nat) (S : Sto) (h : DW w n) : callM (callAt G (k+4)) c_odd_crossings [wd w] nn S = some (wd (odds w n), S) := by
  refine callM_pure (S1 := []) (by simp only [pures, pure_wd]; rfl) ?_ (pure_wd _)
  rw [call_eq g_odd_crossings rfl]
  have hs := h.sm
  simp! [f_odd_crossings, m_all_interlacers _ _ _ h]
  rw [m_odd_by (n := n) (k + 2) _ _ (inter (pa w) (pb w) n) (by omega)]
  simp! []
/-! pairs -/
def prsTo (n p : Nat) : List (Nat × Nat) := (List.range p).flatMap fun v => (List.range' (v + 1) (n - (v + 1))).map fun u => (v, u)
def prs (n : Nat) : List (Nat × Nat) := prsTo n n
abbrev prD (q : Nat × Nat) : D := wd [q.1, q.2]
theorem prsTo_succ (n p : Nat) : prsTo n (p + 1) = prsTo n p ++ (List.range' (p + 1) (n - (p + 1))).map fun u => (p, u) := by
  unfold prsTo
  rw [List.range_succ, List.flatMap_append]
  simp
theorem prsTo_len (n : Nat) : ∀ p, (prsTo n p).length ≤ p * n
  | 0 => by simp [prsTo]
  | p + 1 => by
    rw [prsTo_succ, List.length_append, List.length_map, List.length_range']
    have := prsTo_len n p
    rw [Nat.succ_mul]
    omega
theorem r_pairs (k : Nat) (hn : n ≤ 100) : callAt G (k+1) c_pairs_of_crossings [dn n] [] = some (.ref 0, [.lst ((prs n).map prD)]) := by
  rw [call_eq g_pairs_of_crossings rfl]
  simp! [f_pairs_of_crossings, rng11_nat, show n ≤ 1000000 by omega]
  generalize hb : (Sts.cons (St.augQ 1 _) .nil) = body
  obtain ⟨η', S', l1, x, l2, l3⟩ := loop_range (f := forB (callAt G k) (.one 2) body) (fun p η S => ∃ x, η = [some (dn n), some (.ref 0), x, none] ∧ S = [.lst ((prsTo n p).map prD)]) (n := n)
    (η := [some (dn n), some (.ref 0), none, none]) (S := [.lst []]) ⟨none, rfl, rfl⟩ (fun p η S hp ⟨x, e1, e2⟩ => by
      subst e1 e2
      refine ⟨[some (dn n), some (.ref 0), some (dn p), none], [.lst ((prsTo n (p + 1)).map prD)], ?_, _, rfl, rfl⟩
      rw [← hb]
      simp! [forB, rng21_succ, show p < 1000000 by omega, show n ≤ 1000000 by omega]
      rw [compL_all dn (fun u => prD (p, u)) fun u hu => by simp! [turnF]]
      have hl := prsTo_len n p
      have hl2 : p * n ≤ 100 * 100 := Nat.mul_le_mul (by omega) hn
      have hm := million
      rw [bs, bs, augQ1_new _ _ (ds := (prsTo n p).map prD) (by rfl) (by simp; omega)]
      simp! [prsTo_succ, Function.comp])
  subst l2 l3
  rw [l1]
  simp! [prs]
theorem m_pairs (k nn : Nat) (S : Sto) (hn : n ≤ 100) : callM (callAt G (k+1)) c_pairs_of_crossings [dn n] nn S = some (.ref S.length, S ++ [.lst ((prs n).map prD)]) :=
  callM_new (by simp only [pures, pure_dn]; rfl) (r_pairs k hn) rfl (pures_map _ (fun _ => pure_wd _) _)
end
section
variable {w : List Nat} {n v u : Nat}
def common (f : Nat → List Nat) (v u : Nat) : Nat := ((f v).filter fun x => decide (x ∈ f u)).length
theorem m_count_common (k nn : Nat) (S : Sto) (f : Nat → List Nat) (hv : v < n) (hu : u < n) : callM (callAt G (k+1)) c_count_common [rowsD ((List.range n).map f), dn v, dn u] nn S = some (dn (common f v u), S) := by
  refine callM_pure (S1 := []) (by simp only [pures, pure_rows, pure_dn]; rfl) ?_ rfl
  rw [call_eq g_count_common rfl]
  simp! [f_count_common, hv]
  rw [compL_some dn (fun x => decide (x ∈ f u)) dn fun x hx => by
    simp! [turnF, hu]
    split <;> rfl]
  simp! [common]
def oddP (f : Nat → List Nat) (v u : Nat) : Bool := decide (u ∉ f v) && decide (common f v u % 2 = 1)
theorem m_is_odd_pair_by (k nn : Nat) (S : Sto) (f : Nat → List Nat) (hv : v < n) (hu : u < n) : callM (callAt G (k+2)) c_is_odd_pair_by [rowsD ((List.range n).map f), dn v, dn u] nn S = some (.bl (oddP f v u), S) := by
  refine callM_pure (S1 := []) (by simp only [pures, pure_rows, pure_dn]; rfl) ?_ rfl
  rw [call_eq g_is_odd_pair_by rfl]
  simp! [f_is_odd_pair_by, hv, hu, oddP]
  have := m_count_common (k := k) (n := n) 0 [] f hv hu
  by_cases h : u ∈ f v
  · simp! [h]
  · simp! [h, this, mod2]
abbrev oddPs (w : List Nat) (n : Nat) : List (Nat × Nat) := (prs n).filter fun q => oddP (itl w n) q.1 q.2
theorem prs_mem {q : Nat × Nat} : q ∈ prs n ↔ q.1 < q.2 ∧ q.2 < n := by
  unfold prs prsTo
  rw [List.mem_flatMap]
  constructor
  · rintro ⟨a, ha, hb⟩
    obtain ⟨b, hb2, rfl⟩ := List.mem_map.mp hb
    rw [List.mem_range] at ha
    rw [List.mem_range'_1] at hb2
    exact ⟨by simp; omega, by simp; omega⟩
  · rintro ⟨h1, h2⟩
    exact ⟨q.1, List.mem_range.mpr (by omega), List.mem_map.mpr ⟨q.2, by rw [List.mem_range'_1]; omega, rfl⟩⟩
abbrev prsD (l : List (Nat × Nat)) : D := .tup (l.map prD)
theorem pure_prs (l : List (Nat × Nat)) : (prsD l).pure = true := by
  simp only [D.pure]
  exact pures_map _ (fun _ => pure_wd _) _
theorem m_odd_pairs (k nn : Nat) (S : Sto) (h : DW w n) : callM (callAt G (k+4)) c_odd_pairs [wd w] nn S = some (prsD (oddPs w n), S) := by
  have hs := h.sm
  have h1 : ∃ S1, callAt G (k+4) c_odd_pairs [wd w] [] = some (prsD (oddPs w n), S1) := by
    rw [call_eq g_odd_pairs rfl]
    simp! [f_odd_pairs, m_all_interlacers _ _ _ h, m_pairs, hs]
    rw [compDn_some prD (fun q => oddP (itl w n) q.1 q.2) prD (xs := prs n) (by rfl) (by
      have := prsTo_len n n
      have h2 : n * n ≤ 100 * 100 := Nat.mul_le_mul hs hs
      have h3 : (prs n).length = (prsTo n n).length := rfl
      unfold fuelN; omega) fun q hq => by
      obtain ⟨h1, h2⟩ := prs_mem.mp hq
      have := m_is_odd_pair_by (n := n) (v := q.1) (u := q.2) (k + 1) 1 [O.lst ((prs n).map prD)] (itl w n) (by omega) h2
      simp! [turnF, this]
      split <;> rfl]
    simp! [Function.comp]
  obtain ⟨S1, e⟩ := h1
  exact callM_pure (by simp only [pures, pure_wd]; rfl) e (pure_prs _)
theorem m_is_even_word (k nn : Nat) (S : Sto) (h : DW w n) : callM (callAt G (k+5)) c_is_even_word [wd w] nn S = some (.bl (decide (odds w n = []) && decide (oddPs w n = [])), S) := by
  refine callM_pure (S1 := []) (by simp only [pures, pure_wd]; rfl) ?_ rfl
  rw [call_eq g_is_even_word rfl]
  simp! [f_is_even_word, m_odd_crossings _ _ _ h, m_odd_pairs _ _ _ h]
  congr 1
  rw [decide_eq_decide, show ((oddPs w n).length : Int) = 0 ↔ (oddPs w n).length = 0 by omega, List.length_eq_zero_iff]
/-! between -/
def btw (w : List Nat) (v : Nat) : List Nat := (w.drop (pa w v + 1)).take (pb w v - (pa w v + 1))
theorem m_between (k nn : Nat) (S : Sto) (h : DW w n) (hv : v < n) : callM (callAt G (k+2)) c_between [wd w, dn v] nn S = some (wd (btw w v), S) := by
  refine callM_pure (S1 := []) (by simp only [pures, pure_wd, pure_dn]; rfl) ?_ (pure_wd _)
  rw [call_eq g_between rfl]
  simp! [f_between, m_passes_of _ _ _ h hv]
  rw [show ((pa w v : Nat) : Int) + 1 = ((pa w v + 1 : Nat) : Int) by simp, cut_nn, btw]
  simp
theorem m_is_even_between (k nn : Nat) (S : Sto) (h : DW w n) (hv : v < n) : callM (callAt G (k+3)) c_is_even_between [wd w, dn v] nn S = some (.bl (decide ((btw w v).length % 2 = 0)), S) := by
  refine callM_pure (S1 := []) (by simp only [pures, pure_wd, pure_dn]; rfl) ?_ rfl
  rw [call_eq g_is_even_between rfl]
  simp! [f_is_even_between, m_between _ _ _ h hv, mod2]
theorem m_keeps_gauss (k nn : Nat) (S : Sto) (h : DW w n) : callM (callAt G (k+4)) c_keeps_gauss [wd w] nn S = some (.bl ((List.range n).all fun v => decide ((btw w v).length % 2 = 0)), S) := by
  refine callM_pure (S1 := []) (by simp only [pures, pure_wd, pure_dn]; rfl) ?_ rfl
  have hs := h.sm
  have hn : w.length / 2 = n := by have := h.len; omega
  rw [call_eq g_keeps_gauss rfl]
  simp! [f_keeps_gauss, m_crossings_in, hn, rng11_nat, show n ≤ 1000000 by omega]
  rw [compL_all dn (fun v => .bl (decide ((btw w v).length % 2 = 0))) fun v hv => by
    simp at hv
    simp! [turnF, m_is_even_between _ _ _ h hv]]
  simp! []
end
/-! ## draws -/
theorem r_take (k m : Nat) (hm : 0 < m) (ds : List Nat) : ∃ (t : Nat) (ds' : List Nat), t < m ∧ callAt G (k+1) c__law_take [.ref 0, dn m] [.lst (ds.map dn)] = some (dn t, [.lst (ds'.map dn)]) := by
  rcases List.eq_nil_or_concat ds with rfl | ⟨l, a, rfl⟩
  · refine ⟨0, [], hm, ?_⟩
    rw [call_eq g__law_take rfl]
    simp! [f__law_take]
  · refine ⟨a % m, l, Nat.mod_lt _ hm, ?_⟩
    rw [call_eq g__law_take rfl]
    simp only [List.concat_eq_append, List.map_append, List.map_cons, List.map_nil]
    simp! [f__law_take, show ¬ ((l.length : Int) + 1 = 0) by omega, hm]
theorem pure_dns (ds : List Nat) : pures (ds.map dn) = true := pures_map _ pure_dn ds
theorem m_take (k nn m : Nat) (hm : 0 < m) {S : Sto} {r : Nat} {ds : List Nat} (hr : S[r]? = some (.lst (ds.map dn))) : ∃ (t : Nat) (ds' : List Nat), t < m ∧ callM (callAt G (k+1)) c__law_take [.ref r, dn m] nn S = some (dn t, S.set r (.lst (ds'.map dn))) := by
  obtain ⟨t, ds', h1, h2⟩ := r_take k m hm ds
  exact ⟨t, ds', h1, callM_one hr (pure_dns _) (by simp only [pures, pure_dn]; rfl) h2 (pure_dns _) rfl⟩
theorem m_take1 (k nn m : Nat) {S : Sto} {r : Nat} {ds : List Nat} (hr : S[r]? = some (.lst (ds.map dn))) : ∃ (t : Nat) (ds' : List Nat), t ≤ m ∧ callM (callAt G (k+1)) c__law_take [.ref r, .int ((m : Int) + 1)] nn S = some (dn t, S.set r (.lst (ds'.map dn))) := by
  obtain ⟨t, ds', h1, h2⟩ := m_take k nn (m + 1) (by omega) hr
  exact ⟨t, ds', by omega, h2⟩
theorem toNat_dn {i : Int} (h : 0 ≤ i) : D.int i = dn i.toNat := by
  show D.int i = D.int ((i.toNat : Nat) : Int)
  rw [Int.toNat_of_nonneg h]
def drawsB : Sts := match f__law_draws.body with
  | .cons _ (.cons _ (.cons _ (.cons _ (.cons (.for_ _ _ b) _)))) => b
  | _ => .nil
theorem draws_step (k m : Nat) (hm : m < 1000) (cells rest : List Int) (ds : List Nat) (hc : cells ≠ []) (hr : rest.length = cells.length) (hd : ds.length = m) (x0 x1 x5 x6 x7 : Option D) :
    ∃ (rest' : List Int) (d : Nat) (y6 y7 : Option D), rest'.length = cells.length ∧ forB (callAt G k) (.one 5) drawsB (dn m) [x0, x1, some (.ref 0), some (.ref 1), some (.ref 2), x5, x6, x7, none] [.lst (cells.map D.int), .lst (rest.map D.int), .lst (ds.map dn)] =
      some (.nx, [x0, x1, some (.ref 0), some (.ref 1), some (.ref 2), some (dn m), y6, y7, none], [.lst (cells.map D.int), .lst (rest'.map D.int), .lst ((ds ++ [d]).map dn)]) := by
  have hL : 0 < cells.length := List.length_pos_iff.mpr hc
  have hat : m % cells.length < cells.length := Nat.mod_lt _ hL
  have hLi : (0 : Int) < (cells.length : Int) := by omega
  have e : ((m : Int) % (cells.length : Int)) = ((m % cells.length : Nat) : Int) := by simp
  have hlen : ds.length < sizeLine := szl (by omega)
  generalize hq : m % cells.length = at_ at *
  obtain ⟨c, hcc⟩ : ∃ c, cells[at_]'hat = c := ⟨_, rfl⟩
  have hat2 : at_ < rest.length := by rw [hr]; exact hat
  obtain ⟨r, hrr⟩ : ∃ r, rest[at_]'hat2 = r := ⟨_, rfl⟩
  by_cases hc1 : 1000000000000000000 ≤ c ∧ 0 < r
  · refine ⟨rest.set at_ (r / 1000), (r % 1000).toNat, some (dn at_), x7, by simp [hr], ?_⟩
    simp! [forB, drawsB, f__law_draws, hL, hLi, e, hcc, hrr, hc1, hlen, hr, hat]
    exact (Int.max_eq_left (Int.emod_nonneg r (by decide : (1000 : Int) ≠ 0))).symm
  · generalize ho : (c * 48271 + (m : Int) * 69621 + 11) % 2147483647 = once
    have h0 : 0 ≤ once := by rw [← ho]; exact Int.emod_nonneg _ (by decide)
    have h1 : once < 2147483647 := by rw [← ho]; exact Int.emod_lt_of_pos _ (by decide)
    have h4 : (once * once + 3 * once + m) % 1000003 = max ((once * once + 3 * once + m) % 1000003) 0 := (Int.max_eq_left (Int.emod_nonneg _ (by decide))).symm
    refine ⟨rest, ((once * once + 3 * once + m) % 1000003).toNat, some (dn at_), some (.int once), hr, ?_⟩
    by_cases h2 : 1000000000000000000 ≤ c
    · have h3 : ¬ 0 < r := fun z => hc1 ⟨h2, z⟩
      simp! [forB, drawsB, f__law_draws, hL, hLi, e, hcc, hrr, h2, h3, hlen, hr, hat, ho, sm_of h0 (by omega)]
      exact h4
    · simp! [forB, drawsB, f__law_draws, hL, hLi, e, hcc, hrr, h2, hlen, hr, hat, ho, sm_of h0 (by omega)]
      exact h4
theorem draws_go (k : Nat) (cells : List Int) (x0 x1 : Option D) (hc : cells ≠ []) (n : Nat) (hn : n ≤ 1000) : ∃ (η' : En) (rest : List Int) (ds : List Nat), loopL (forB (callAt G k) (.one 5) drawsB) ((List.range n).map dn) [x0, x1, some (.ref 0), some (.ref 1), some (.ref 2), none, none, none, none] [.lst (cells.map D.int), .lst (cells.map D.int), .lst []] =
    some (.nx, η', [.lst (cells.map D.int), .lst (rest.map D.int), .lst (ds.map dn)]) ∧ (∃ x5 x6 x7, η' = [x0, x1, some (.ref 0), some (.ref 1), some (.ref 2), x5, x6, x7, none]) := by
  obtain ⟨η', S', l1, rest, ds, x5, x6, x7, e1, e2, e3, e4⟩ := loop_range (f := forB (callAt G k) (.one 5) drawsB) (fun p η S => ∃ (rest : List Int) (ds : List Nat) (x5 x6 x7 : Option D), rest.length = cells.length ∧ ds.length = p ∧
      η = [x0, x1, some (.ref 0), some (.ref 1), some (.ref 2), x5, x6, x7, none] ∧ S = [.lst (cells.map D.int), .lst (rest.map D.int), .lst (ds.map dn)]) (n := n)
    (η := [x0, x1, some (.ref 0), some (.ref 1), some (.ref 2), none, none, none, none]) (S := [.lst (cells.map D.int), .lst (cells.map D.int), .lst []]) ⟨cells, [], none, none, none, rfl, rfl, rfl, rfl⟩ (fun p η S hp ⟨rest, ds, x5, x6, x7, e1, e2, e3, e4⟩ => by
      subst e3 e4
      obtain ⟨rest', d, y6, y7, h1, h2⟩ := draws_step k p (by omega) cells rest ds hc e1 e2 x0 x1 x5 x6 x7
      exact ⟨_, _, h2, rest', ds ++ [d], some (dn p), y6, y7, h1, by simp [e2], rfl, rfl⟩)
  subst e4
  exact ⟨η', rest, ds, l1, x5, x6, x7, e3⟩
theorem r_draws (k : Nat) (ns : List Int) (hl : ns.length ≤ 100) (n : Nat) (hn : n ≤ 1000) : ∃ (S1 : Sto) (ds : List Nat), callAt G (k+1) c__law_draws [.frl (ns.map D.int), dn n] [] = some (.ref 2, S1) ∧ S1[2]? = some (.lst (ds.map dn)) := by
  rw [call_eq g__law_draws rfl]
  have hb : (Sts.cons (.set (.nm 6) _) _) = drawsB := rfl
  by_cases h0 : ns = []
  · subst h0
    obtain ⟨η', rest, ds, l1, x5, x6, x7, e⟩ := draws_go k [0] (some (.frl [])) (some (dn n)) (by simp) n hn
    subst e
    refine ⟨[.lst ([0].map D.int), .lst (rest.map D.int), .lst (ds.reverse.map dn)], ds.reverse, ?_, by simp⟩
    simp! [f__law_draws, compL, rng11_nat, show n ≤ 1000000 by omega]
    rw [hb]
    simp at l1
    rw [l1]
    simp! []
  · obtain ⟨η', rest, ds, l1, x5, x6, x7, e⟩ := draws_go k ns (some (.frl (ns.map D.int))) (some (dn n)) h0 n hn
    subst e
    refine ⟨[.lst (ns.map D.int), .lst (rest.map D.int), .lst (ds.reverse.map dn)], ds.reverse, ?_, by simp⟩
    simp! [f__law_draws]
    rw [compL_all D.int D.int fun x _ => by simp! [turnF]]
    simp! [h0, rng11_nat, show n ≤ 1000000 by omega]
    rw [hb, l1]
    simp! []
theorem m_draws (k nn : Nat) (S : Sto) (ns : List Int) (hl : ns.length ≤ 100) (n : Nat) (hn : n ≤ 1000) : ∃ ds : List Nat, callM (callAt G (k+1)) c__law_draws [.frl (ns.map D.int), dn n] nn S = some (.ref S.length, S ++ [.lst (ds.map dn)]) := by
  obtain ⟨S1, ds, h1, h2⟩ := r_draws k ns hl n hn
  exact ⟨ds, callM_new (by simp only [pures, D.pure, pures_map D.int (fun _ => rfl) ns]; rfl) h1 h2 (pure_dns _)⟩
/-! ## the same -/
mutual
def D.dep : D → Nat
  | .tup ds => deps ds + 1
  | .non => 0 | .bl _ => 0 | .int _ => 0 | .str _ => 0 | .frl _ => 0 | .ref _ => 0
def deps : List D → Nat
  | [] => 0 | d :: ds => max d.dep (deps ds)
end
mutual
/-- values of none, truths, integers and tuples -/
def D.nice : D → Bool
  | .tup ds => nices ds && decide (ds.length ≤ 1000)
  | .non => true | .bl _ => true | .int _ => true | .str _ => false | .frl _ => false | .ref _ => false
def nices : List D → Bool
  | [] => true | d :: ds => d.nice && nices ds
end
theorem nices_all : ∀ {ds : List D}, nices ds = true ↔ ∀ d ∈ ds, d.nice = true
  | [] => by simp [nices]
  | d :: ds => by simp [nices, nices_all (ds := ds)]
theorem deps_le : ∀ {ds : List D} {d : D}, d ∈ ds → d.dep ≤ deps ds
  | e :: ds, d, h => by
    rcases List.mem_cons.mp h with rfl | h
    · exact Nat.le_max_left _ _
    · exact Nat.le_trans (deps_le h) (Nat.le_max_right _ _)
mutual
theorem D.nice_pure : ∀ {d : D}, d.nice = true → d.pure = true
  | .tup ds, h => by
    simp only [D.nice, Bool.and_eq_true] at h
    simp only [D.pure]
    exact nices_pure h.1
  | .non, _ => rfl
  | .bl _, _ => rfl
  | .int _, _ => rfl
  | .str _, h => by simp [D.nice] at h
  | .frl _, h => by simp [D.nice] at h
  | .ref _, h => by simp [D.nice] at h
theorem nices_pure : ∀ {ds : List D}, nices ds = true → pures ds = true
  | [], _ => rfl
  | d :: ds, h => by
    simp only [nices, Bool.and_eq_true] at h
    simp only [pures, Bool.and_eq_true]
    exact ⟨D.nice_pure h.1, nices_pure h.2⟩
end
theorem r_same (k : Nat) : ∀ (m : Nat) (d : D), d.dep ≤ m → d.nice = true → callAt G (k + m + 1) c__law_same [d, d] [] = some (.bl true, [])
  | m, .non, _, _ => by
    rw [call_eq g__law_same rfl]
    simp! [f__law_same]
  | m, .bl b, _, _ => by
    rw [call_eq g__law_same rfl]
    simp! [f__law_same]
  | m, .int i, _, _ => by
    rw [call_eq g__law_same rfl]
    simp! [f__law_same]
  | m, .str _, _, h => by simp [D.nice] at h
  | m, .frl _, _, h => by simp [D.nice] at h
  | m, .ref _, _, h => by simp [D.nice] at h
  | 0, .tup ds, h, _ => by simp [D.dep] at h
  | m + 1, .tup ds, h, hn => by
    simp only [D.dep] at h
    simp only [D.nice, Bool.and_eq_true, decide_eq_true_eq] at hn
    rw [call_eq g__law_same rfl]
    have hl : ds.length ≤ 1000000 := by omega
    have loop := loop_range (f := forB (callAt G (k + (m + 1))) (.one 2) (.cons (.ite (.not (.call c__law_same (.cons (.idx (.var 0) (.var 2)) (.cons (.idx (.var 1) (.var 2)) .nil)))) (.cons (.ret (.bl false)) .nil) .nil) .nil))
      (fun p η S => S = [] ∧ ∃ x, η = [some (.tup ds), some (.tup ds), x]) (n := ds.length) (η := [some (.tup ds), some (.tup ds), none]) (S := []) ⟨rfl, none, rfl⟩ (fun p η S hp ⟨e1, x, e2⟩ => by
        subst e1 e2
        refine ⟨[some (.tup ds), some (.tup ds), some (dn p)], [], ?_, rfl, _, rfl⟩
        have hm : ds[p] ∈ ds := List.getElem_mem hp
        have hd := nices_all.mp hn.1 _ hm
        have e := r_same k m ds[p] (Nat.le_trans (deps_le hm) (by omega)) hd
        have e2 : callM (callAt G (k + (m + 1))) c__law_same [ds[p], ds[p]] 0 [] = some (.bl true, []) := callM_pure (by simp [pures, D.nice_pure hd]) e rfl
        simp! [forB, hp, e2])
    obtain ⟨η', S', l1, l2, x, l3⟩ := loop
    subst l2 l3
    simp! [f__law_same, rng11_nat, hl]
    rw [l1]
    simp! []
theorem m_same (k nn : Nat) (S : Sto) (d : D) (hd : d.nice = true) (h : d.dep ≤ 6) : callM (callAt G (k + 7)) c__law_same [d, d] nn S = some (.bl true, S) :=
  callM_pure (by simp [pures, D.nice_pure hd]) (r_same k 6 d h hd) rfl
/-! ## mixed rows -/
def mixedB : Sts := match f__law_mixed.body with
  | .cons _ (.cons _ (.cons (.for_ _ _ b) _)) => b
  | _ => .nil
theorem map_erase (f : Nat → D) (l : List Nat) (t : Nat) : (l.map f).eraseIdx t = (l.eraseIdx t).map f := by
  rw [List.eraseIdx_eq_take_drop_succ, List.eraseIdx_eq_take_drop_succ, List.map_append, List.map_take, List.map_drop]
theorem perm_erase : ∀ {l : List Nat} {t : Nat} (h : t < l.length), (l[t] :: l.eraseIdx t).Perm l
  | a :: l, 0, _ => by simp
  | a :: l, t + 1, h => by
    simp only [List.getElem_cons_succ, List.eraseIdx_cons_succ]
    exact (List.Perm.swap _ _ _).trans ((perm_erase (by simpa using h)).cons a)
theorem erase_perm {found left row : List Nat} {t : Nat} (ht : t < left.length) (h : (found ++ left).Perm row) : (found ++ [left[t]] ++ left.eraseIdx t).Perm row := by
  refine List.Perm.trans ?_ h
  rw [List.append_assoc]
  exact List.Perm.append_left found (by simpa using perm_erase ht)
theorem mixed_t (k : Nat) (row : List Nat) (hr : row.length ≤ 500) (ds : List Nat) : ∃ (η' : En) (ds' left found : List Nat), loopL (forB (callAt G (k+1)) (.one 4) mixedB) ((List.range row.length).map dn) [some (.ref 0), some (wd row), some (.ref 1), some (.ref 2), none] [.lst (ds.map dn), .lst (row.map dn), .lst []] =
    some (.nx, η', [.lst (ds'.map dn), .lst (left.map dn), .lst (found.map dn)]) ∧ found.Perm row ∧ ∃ x, η' = [some (.ref 0), some (wd row), some (.ref 1), some (.ref 2), x] := by
  obtain ⟨η', S', l1, ds', left, found, x, e1, e2, e3, e4⟩ := loop_range (f := forB (callAt G (k+1)) (.one 4) mixedB) (fun p η S => ∃ (ds left found : List Nat) (x : Option D), found.length = p ∧ (found ++ left).Perm row ∧
      η = [some (.ref 0), some (wd row), some (.ref 1), some (.ref 2), x] ∧ S = [.lst (ds.map dn), .lst (left.map dn), .lst (found.map dn)]) (n := row.length)
    (η := [some (.ref 0), some (wd row), some (.ref 1), some (.ref 2), none]) (S := [.lst (ds.map dn), .lst (row.map dn), .lst []]) ⟨ds, row, [], none, rfl, List.Perm.refl _, rfl, rfl⟩ (fun p η S hp ⟨ds, left, found, x, e1, e2, e3, e4⟩ => by
      subst e3 e4
      have hl := e2.length_eq
      simp at hl
      obtain ⟨t, ds', h1, h2⟩ := m_take k 3 left.length (by omega) (S := [.lst (ds.map dn), .lst (left.map dn), .lst (found.map dn)]) (r := 0) (ds := ds) (by rfl)
      refine ⟨[some (.ref 0), some (wd row), some (.ref 1), some (.ref 2), some (dn p)], [.lst (ds'.map dn), .lst ((left.eraseIdx t).map dn), .lst ((found ++ [left[t]]).map dn)], ?_, ds', left.eraseIdx t, found ++ [left[t]], _, by simp [e1], erase_perm h1 e2, rfl, rfl⟩
      have h3 : found.length < sizeLine := szl (by omega)
      simp! [forB, mixedB, f__law_mixed, h2, popAt_r, show t ≤ 1000000 by omega, h1, h3, map_erase])
  subst e4
  have : left = [] := by
    have := e2.length_eq
    simp at this
    exact List.length_eq_zero_iff.mp (by omega)
  subst this
  exact ⟨η', ds', [], found, l1, by simpa using e2, x, e3⟩
theorem mixed_l (k : Nat) (row : List Nat) (hr : row.length ≤ 500) (ds : List Nat) : ∃ (η' : En) (ds' left found : List Nat), loopL (forB (callAt G (k+1)) (.one 4) mixedB) ((List.range row.length).map dn) [some (.ref 0), some (.ref 1), some (.ref 2), some (.ref 3), none] [.lst (ds.map dn), .lst (row.map dn), .lst (row.map dn), .lst []] =
    some (.nx, η', [.lst (ds'.map dn), .lst (row.map dn), .lst (left.map dn), .lst (found.map dn)]) ∧ found.Perm row ∧ ∃ x, η' = [some (.ref 0), some (.ref 1), some (.ref 2), some (.ref 3), x] := by
  obtain ⟨η', S', l1, ds', left, found, x, e1, e2, e3, e4⟩ := loop_range (f := forB (callAt G (k+1)) (.one 4) mixedB) (fun p η S => ∃ (ds left found : List Nat) (x : Option D), found.length = p ∧ (found ++ left).Perm row ∧
      η = [some (.ref 0), some (.ref 1), some (.ref 2), some (.ref 3), x] ∧ S = [.lst (ds.map dn), .lst (row.map dn), .lst (left.map dn), .lst (found.map dn)]) (n := row.length)
    (η := [some (.ref 0), some (.ref 1), some (.ref 2), some (.ref 3), none]) (S := [.lst (ds.map dn), .lst (row.map dn), .lst (row.map dn), .lst []]) ⟨ds, row, [], none, rfl, List.Perm.refl _, rfl, rfl⟩ (fun p η S hp ⟨ds, left, found, x, e1, e2, e3, e4⟩ => by
      subst e3 e4
      have hl := e2.length_eq
      simp at hl
      obtain ⟨t, ds', h1, h2⟩ := m_take k 4 left.length (by omega) (S := [.lst (ds.map dn), .lst (row.map dn), .lst (left.map dn), .lst (found.map dn)]) (r := 0) (ds := ds) (by rfl)
      refine ⟨[some (.ref 0), some (.ref 1), some (.ref 2), some (.ref 3), some (dn p)], [.lst (ds'.map dn), .lst (row.map dn), .lst ((left.eraseIdx t).map dn), .lst ((found ++ [left[t]]).map dn)], ?_, ds', left.eraseIdx t, found ++ [left[t]], _, by simp [e1], erase_perm h1 e2, rfl, rfl⟩
      have h3 : found.length < sizeLine := szl (by omega)
      simp! [forB, mixedB, f__law_mixed, h2, popAt_r, show t ≤ 1000000 by omega, h1, h3, map_erase])
  subst e4
  have : left = [] := by
    have := e2.length_eq
    simp at this
    exact List.length_eq_zero_iff.mp (by omega)
  subst this
  exact ⟨η', ds', [], found, l1, by simpa using e2, x, e3⟩
theorem m_mixed_t (k nn : Nat) (row : List Nat) (hr : row.length ≤ 500) {S : Sto} {r : Nat} {ds : List Nat} (hS : S[r]? = some (.lst (ds.map dn))) : ∃ ds' found : List Nat, found.Perm row ∧ callM (callAt G (k+2)) c__law_mixed [.ref r, wd row] nn S = some (wd found, S.set r (.lst (ds'.map dn))) := by
  obtain ⟨η', ds', left, found, l1, l2, x, l3⟩ := mixed_t k row hr ds
  subst l3
  refine ⟨ds', found, l2, callM_one (S1 := [.lst (left.map dn), .lst (found.map dn)]) hS (pure_dns _) (by simp only [pures, pure_wd]; rfl) ?_ (pure_dns _) (pure_wd _)⟩
  rw [call_eq g__law_mixed rfl]
  have hb : (Sts.cons (.expr (.append _ _)) _) = mixedB := rfl
  simp! [f__law_mixed, rng11_nat, show row.length ≤ 1000000 by omega]
  rw [hb, l1]
  simp! []
theorem m_mixed_l (k nn : Nat) (row : List Nat) (hr : row.length ≤ 500) {S : Sto} {r r' : Nat} {ds : List Nat} (hne : r ≠ r') (hS : S[r]? = some (.lst (ds.map dn))) (hS' : S[r']? = some (.lst (row.map dn))) : ∃ ds' found : List Nat, found.Perm row ∧ callM (callAt G (k+2)) c__law_mixed [.ref r, .ref r'] nn S = some (wd found, (S.set r (.lst (ds'.map dn))).set r' (.lst (row.map dn))) := by
  obtain ⟨η', ds', left, found, l1, l2, x, l3⟩ := mixed_l k row hr ds
  subst l3
  refine ⟨ds', found, l2, callM_two (S1 := [.lst (left.map dn), .lst (found.map dn)]) hne hS hS' (pure_dns _) (pure_dns _) rfl ?_ (pure_dns _) (pure_dns _) (pure_wd _)⟩
  rw [call_eq g__law_mixed rfl]
  have hb : (Sts.cons (.expr (.append _ _)) _) = mixedB := rfl
  simp! [f__law_mixed, rng11_nat, show row.length ≤ 1000000 by omega]
  rw [hb, l1]
  simp! []
/-! ## words drawn -/
def putW (w : List Nat) (a : Nat) (B : List Nat) : List Nat := w.take a ++ B.map (fun v => v + w.length / 2) ++ w.drop a
theorem m_put (k nn : Nat) (S : Sto) (w B : List Nat) (a : Nat) (h : w.length + B.length ≤ 1000) : callM (callAt G (k+1)) c__law_put [wd w, dn a, wd B] nn S = some (wd (putW w a B), S) := by
  refine callM_pure (S1 := []) (by simp only [pures, pure_wd, pure_dn]; rfl) ?_ (pure_wd _)
  rw [call_eq g__law_put rfl]
  simp! [f__law_put]
  rw [compL_all dn (fun v => dn (v + w.length / 2)) fun v _ => by simp! [turnF]]
  have h1 : min a w.length + B.length ≤ sizeLine := sz (by omega)
  simp! [h1]
  have h2 : min a w.length + B.length + (w.length - a) ≤ sizeLine := sz (by omega)
  simp! [putW, h2, Function.comp]
def blocks : List (List Nat) := [[0, 0], [0, 0], [0, 1, 2, 0, 1, 2], [0, 1, 2, 0, 3, 2, 1, 3], [0, 1, 2, 0, 3, 4, 1, 2, 4, 3], [0, 1, 2, 3, 4, 0, 1, 2, 3, 4]]
/-- words put together of blocks -/
inductive Built : List Nat → Prop
  | nil : Built []
  | put {w B : List Nat} {a b : Nat} : Built w → a ≤ w.length → B ∈ blocks → b < B.length → Built (putW w a (B.drop b ++ B.take b))
def drawnB : Sts := match f__law_drawn.body with
  | .cons _ (.cons _ (.cons (.for_ _ _ b) _)) => b
  | _ => .nil
theorem blocks_ok : ∀ B ∈ blocks, 2 ≤ B.length ∧ B.length ≤ 10 ∧ B.length % 2 = 0 := by decide
theorem putW_len (w B : List Nat) (a : Nat) : (putW w a B).length = w.length + B.length := by
  unfold putW
  simp
  omega
theorem drawn_step (k n p : Nat) (hn : n ≤ 100) (w : List Nat) (hB : Built w) (hw : w.length ≤ 2 * n) (he : w.length % 2 = 0) (ds : List Nat) (g : Sto) (x4 x5 x6 x7 : Option D) :
    ∃ (w' ds' : List Nat) (g' : Sto) (y5 y6 y7 : Option D), Built w' ∧ w'.length ≤ 2 * n ∧ w'.length % 2 = 0 ∧ min (w.length + 2) (2 * n) ≤ w'.length ∧
      forB (callAt G (k+1)) (.one 4) drawnB (dn p) [some (.ref 0), some (dn n), some (.ref 1), some (wd w), x4, x5, x6, x7, none, none] (.lst (ds.map dn) :: .lst (blocks.map wd) :: g) =
        some (.nx, [some (.ref 0), some (dn n), some (.ref 1), some (wd w'), some (dn p), y5, y6, y7, none, none], .lst (ds'.map dn) :: .lst (blocks.map wd) :: g') := by
  have hcomp : ∀ (η : En) (S : Sto), η = [some (.ref 0), some (dn n), some (.ref 1), some (wd w), some (dn p), x5, x6, x7, none, none] → S[1]? = some (.lst (blocks.map wd)) →
      compDn (turnF (callAt G (k+1)) (.var 5) (.one 5) (.cmp .le (.bin .add (.qlen (.ofE (.var 5))) (.qlen (.ofE (.var 3)))) (.bin .mul (.int 2) (.var 1))) η) 1 fuelN 0 S = some ((blocks.filter fun B => decide (B.length + w.length ≤ 2 * n)).map wd, S) := by
    intro η S e1 e2
    subst e1
    refine compDn_some wd (fun B => decide (B.length + w.length ≤ 2 * n)) wd e2 (by decide) fun B _ => ?_
    have e3 : ((B.length : Int) + (w.length : Int) ≤ 2 * (n : Int)) ↔ B.length + w.length ≤ 2 * n := by omega
    simp! [turnF, e3]
    split <;> rfl
  generalize hf : (blocks.filter fun B => decide (B.length + w.length ≤ 2 * n)) = fits at hcomp
  have hfm : ∀ B ∈ fits, B ∈ blocks ∧ B.length + w.length ≤ 2 * n := fun B hB => by
    rw [← hf, List.mem_filter] at hB
    exact ⟨hB.1, of_decide_eq_true hB.2⟩
  by_cases h0 : fits = []
  · have hfull : w.length = 2 * n := by
      by_cases z : w.length = 2 * n
      · exact z
      · have : [0, 0] ∈ fits := by
          rw [← hf, List.mem_filter]
          exact ⟨by decide, decide_eq_true (by simp; omega)⟩
        rw [h0] at this; simp at this
    refine ⟨w, ds, g ++ [.lst []], x5, some (.ref (g.length + 2)), x7, hB, hw, he, by omega, ?_⟩
    simp! [forB, drawnB, f__law_drawn, hcomp, h0]
  · have hp : 0 < fits.length := List.length_pos_iff.mpr h0
    obtain ⟨t, ds1, t1, t2⟩ := m_take k (g.length + 3) fits.length hp (S := .lst (ds.map dn) :: .lst (blocks.map wd) :: (g ++ [.lst (fits.map wd)])) (r := 0) (ds := ds) (by rfl)
    have hi : fits.length - 1 - t < fits.length := by omega
    obtain ⟨B, hBe⟩ : ∃ B, fits[fits.length - 1 - t]'hi = B := ⟨_, rfl⟩
    have hBm : B ∈ fits := by rw [← hBe]; exact List.getElem_mem hi
    obtain ⟨b1, b2⟩ := hfm B hBm
    obtain ⟨b3, b4, b5⟩ := blocks_ok B b1
    obtain ⟨b, ds2, u1, u2⟩ := m_take k (g.length + 3) B.length (by omega) (S := .lst (ds1.map dn) :: .lst (blocks.map wd) :: (g ++ [.lst (fits.map wd)])) (r := 0) (ds := ds1) (by rfl)
    obtain ⟨a, ds3, v1, v2⟩ := m_take1 k (g.length + 3) w.length (S := .lst (ds2.map dn) :: .lst (blocks.map wd) :: (g ++ [.lst (fits.map wd)])) (r := 0) (ds := ds2) (by rfl)
    have hl : (B.drop b ++ B.take b).length = B.length := by simp; omega
    have hput := m_put k (g.length + 3) (.lst (ds3.map dn) :: .lst (blocks.map wd) :: (g ++ [.lst (fits.map wd)])) w (B.drop b ++ B.take b) a (by omega)
    refine ⟨putW w a (B.drop b ++ B.take b), ds3, g ++ [.lst (fits.map wd)], some (wd B), some (.ref (g.length + 2)), some (dn b), .put hB v1 b1 u1, by rw [putW_len, hl]; omega, by rw [putW_len, hl]; omega, by rw [putW_len, hl]; omega, ?_⟩
    have e1 : (fits.length : Int) - 1 - (t : Int) = ((fits.length - 1 - t : Nat) : Int) := by omega
    have e2 : (w.length : Int) + 1 = ((w.length + 1 : Nat) : Int) := by omega
    have e3 : min b B.length + (B.length - b) ≤ sizeLine := sz (by omega)
    have e4 : B.length - b + min b B.length ≤ sizeLine := sz (by omega)
    simp! [forB, drawnB, f__law_drawn, hcomp, hp, t2]
    rw [e1]
    simp! [hi, hBe, u2, v2, e3, e4]
    rw [show D.tup (List.drop b (List.map dn B) ++ List.take b (List.map dn B)) = wd (B.drop b ++ B.take b) by simp, show g.length + 1 + 1 + 1 = g.length + 3 from rfl, hput]
    simp! []
theorem drawn_go (k n : Nat) (hn : n ≤ 100) (ds : List Nat) : ∃ (w ds' : List Nat) (g' : Sto) (x4 x5 x6 x7 : Option D), Built w ∧ w.length = 2 * n ∧ loopL (forB (callAt G (k+1)) (.one 4) drawnB) ((List.range n).map dn) [some (.ref 0), some (dn n), some (.ref 1), some (.tup []), none, none, none, none, none, none] (.lst (ds.map dn) :: .lst (blocks.map wd) :: []) =
    some (.nx, [some (.ref 0), some (dn n), some (.ref 1), some (wd w), x4, x5, x6, x7, none, none], .lst (ds'.map dn) :: .lst (blocks.map wd) :: g') := by
  obtain ⟨η', S', l1, w, ds', g', x4, x5, x6, x7, h1, h2, h3, h4, h5, h6⟩ := loop_range (f := forB (callAt G (k+1)) (.one 4) drawnB) (fun p η S => ∃ (w ds' : List Nat) (g' : Sto) (x4 x5 x6 x7 : Option D), Built w ∧ w.length ≤ 2 * n ∧ w.length % 2 = 0 ∧ min (2 * p) (2 * n) ≤ w.length ∧
      η = [some (.ref 0), some (dn n), some (.ref 1), some (wd w), x4, x5, x6, x7, none, none] ∧ S = .lst (ds'.map dn) :: .lst (blocks.map wd) :: g') (n := n)
    (η := [some (.ref 0), some (dn n), some (.ref 1), some (.tup []), none, none, none, none, none, none]) (S := .lst (ds.map dn) :: .lst (blocks.map wd) :: []) ⟨[], ds, [], none, none, none, none, .nil, by simp, rfl, by simp, rfl, rfl⟩ (fun p η S hp ⟨w, ds', g', x4, x5, x6, x7, h1, h2, h3, h4, h5, h6⟩ => by
      subst h5 h6
      obtain ⟨w', ds2, g2, y5, y6, y7, r1, r2, r3, r4, r5⟩ := drawn_step k n p hn w h1 h2 h3 ds' g' x4 x5 x6 x7
      exact ⟨_, _, r5, w', ds2, g2, some (dn p), y5, y6, y7, r1, r2, r3, by omega, rfl, rfl⟩)
  subst h5 h6
  exact ⟨w, ds', g', x4, x5, x6, x7, h1, by omega, l1⟩
/-- a drawn word, renamed -/
def Drawn (n : Nat) (u : List Nat) : Prop := ∃ w names : List Nat, Built w ∧ w.length = 2 * n ∧ names.Perm (List.range n) ∧ (∀ v ∈ w, v < n) ∧ u = w.map fun v => names.getD v 0
theorem Built.lt {w : List Nat} (h : Built w) : w.length % 2 = 0 ∧ ∀ v ∈ w, v < w.length / 2 := by
  induction h with
  | nil => simp
  | put h1 h2 h3 h4 ih =>
    rename_i w B a b
    obtain ⟨b1, b2, b3⟩ := blocks_ok B h3
    have hB : ∀ v ∈ B, v < B.length / 2 := by
      have : ∀ B ∈ blocks, ∀ v ∈ B, v < B.length / 2 := by decide
      exact this B h3
    have hl : (B.drop b ++ B.take b).length = B.length := by simp; omega
    rw [putW_len, hl]
    refine ⟨by omega, fun v hv => ?_⟩
    unfold putW at hv
    simp only [List.mem_append, List.mem_map] at hv
    rcases hv with (hv | ⟨u, hu, rfl⟩) | hv
    · have := ih.2 v (List.mem_of_mem_take hv); omega
    · have : u ∈ B := by
        rcases hu with hu | hu
        · exact List.mem_of_mem_drop hu
        · exact List.mem_of_mem_take hu
      have := hB u this; omega
    · have := ih.2 v (List.mem_of_mem_drop hv); omega
theorem m_drawn (k nn n : Nat) (hn : n ≤ 100) {S : Sto} {r : Nat} {ds : List Nat} (hS : S[r]? = some (.lst (ds.map dn))) : ∃ ds' u : List Nat, Drawn n u ∧ callM (callAt G (k+3)) c__law_drawn [.ref r, dn n] nn S = some (wd u, S.set r (.lst (ds'.map dn))) := by
  obtain ⟨w, ds1, g', x4, x5, x6, x7, h1, h2, h3⟩ := drawn_go (k + 1) n hn ds
  have hb : (Sts.cons (.set (.nm 6) _) _) = drawnB := rfl
  obtain ⟨ds2, names, p1, p2⟩ := m_mixed_l k (g'.length + 2) (List.range n) (by simp; omega) (S := .lst (ds1.map dn) :: .lst (blocks.map wd) :: (g' ++ [.lst ((List.range n).map dn)])) (r := 0) (r' := g'.length + 1 + 1) (ds := ds1) (by omega) (by rfl) (by simp)
  obtain ⟨e1, e2⟩ := h1.lt
  have hlt : ∀ v ∈ w, v < n := fun v hv => by have := e2 v hv; omega
  have hnl : names.length = n := by rw [p1.length_eq]; simp
  refine ⟨ds2, w.map fun v => names.getD v 0, ⟨w, names, h1, h2, p1, hlt, rfl⟩, ?_⟩
  have run : ∃ S1, callAt G (k+3) c__law_drawn [.ref 0, dn n] [.lst (ds.map dn)] = some (wd (w.map fun v => names.getD v 0), .lst (ds2.map dn) :: S1) := by
    rw [call_eq g__law_drawn rfl]
    simp! [f__law_drawn, rng11_nat, show n ≤ 1000000 by omega]
    generalize hL : [D.tup [D.int 0, D.int 0], D.tup [D.int 0, D.int 0], _, _, _, _] = L
    have hL2 : L = blocks.map wd := by rw [← hL]; rfl
    rw [hL2, hb, h3]
    simp! [rng11_nat, show n ≤ 1000000 by omega, p2]
    rw [compL_all dn (fun v => dn (names.getD v 0)) fun v hv => by
      have hv2 : v < names.length := by rw [hnl]; exact hlt v hv
      simp! [turnF, hv2]]
    simp! [Function.comp]
  obtain ⟨S1, e⟩ := run
  exact callM_one hS (pure_dns _) (by simp only [pures, pure_dn]; rfl) e (pure_dns _) (pure_wd _)
/-! ## double words, by counting -/
theorem dw_of {w : List Nat} {n : Nat} (hl : w.length = 2 * n) (hc : ∀ v, w.count v = if v < n then 2 else 0) (hs : n ≤ 100) : DW w n where
  len := hl
  lt := fun v hv => by
    have := List.count_pos_iff.mpr hv
    rw [hc] at this
    split at this
    · assumption
    · omega
  two := fun v hv => by rw [hc, if_pos hv]
  sm := hs
theorem DW.cnt {w : List Nat} {n : Nat} (h : DW w n) (v : Nat) : w.count v = if v < n then 2 else 0 := by
  split
  · exact h.two v (by assumption)
  · rename_i hv
    exact List.count_eq_zero.mpr fun hm => hv (h.lt v hm)
theorem cnt_cut (w : List Nat) (a v : Nat) : (w.take a).count v + (w.drop a).count v = w.count v := by
  rw [← List.count_append, List.take_append_drop]
theorem cnt_ins (w : List Nat) (a x v : Nat) : (w.take a ++ [x] ++ w.drop a).count v = w.count v + if x = v then 1 else 0 := by
  have := cnt_cut w a v
  rw [List.count_append, List.count_append, List.count_singleton]
  simp only [beq_iff_eq]
  omega
theorem cnt_shift (B : List Nat) (m v : Nat) : (B.map fun x => x + m).count v = if m ≤ v then B.count (v - m) else 0 := by
  induction B with
  | nil => simp
  | cons b B ih =>
    rw [List.map_cons, List.count_cons, ih, List.count_cons]
    by_cases h : m ≤ v
    · have e : (b + m == v) = (b == v - m) := by
        rw [Bool.eq_iff_iff, beq_iff_eq, beq_iff_eq]; omega
      rw [if_pos h, if_pos h, e]
    · have e : (b + m == v) = false := by
        rw [beq_eq_false_iff_ne]; omega
      rw [if_neg h, if_neg h, e]; rfl
theorem blocks_cnt : ∀ B ∈ blocks, ∀ v, v < B.length / 2 → B.count v = 2 := by decide
theorem blocks_lt : ∀ B ∈ blocks, ∀ v ∈ B, v < B.length / 2 := by decide
theorem Built.cnt {w : List Nat} (h : Built w) : ∀ v, w.count v = if v < w.length / 2 then 2 else 0 := by
  induction h with
  | nil => simp
  | put h1 h2 h3 h4 ih =>
    rename_i w B a b
    intro v
    obtain ⟨b1, b2, b3⟩ := blocks_ok B h3
    have hl : (B.drop b ++ B.take b).length = B.length := by simp; omega
    have e1 := h1.lt.1
    have e2 : (B.drop b ++ B.take b).count (v - w.length / 2) = B.count (v - w.length / 2) := by
      rw [List.count_append, Nat.add_comm, cnt_cut]
    rw [putW_len, hl]
    unfold putW
    rw [List.count_append, List.count_append, cnt_shift, e2]
    have := cnt_cut w a v
    have h5 := ih v
    by_cases hv : w.length / 2 ≤ v
    · rw [if_pos hv]
      rw [if_neg (by omega)] at h5
      by_cases hu : v < (w.length + B.length) / 2
      · rw [if_pos hu, blocks_cnt B h3 (v - w.length / 2) (by omega)]
        omega
      · have hz : B.count (v - w.length / 2) = 0 := List.count_eq_zero.mpr fun hm => by
          have := blocks_lt B h3 _ hm
          omega
        rw [if_neg hu, hz]
        omega
    · rw [if_neg hv]
      rw [if_pos (by omega)] at h5
      rw [if_pos (by omega)]
      omega
theorem Built.dw {w : List Nat} {n : Nat} (h : Built w) (hl : w.length = 2 * n) (hs : n ≤ 100) : DW w n :=
  dw_of hl (fun v => by rw [h.cnt, hl, show 2 * n / 2 = n by omega]) hs
/-- renamed by a row of all names -/
def ren2 (names w : List Nat) : List Nat := w.map fun v => names.getD v 0
theorem names_ok {names : List Nat} {n : Nat} (h : names.Perm (List.range n)) : names.length = n ∧ names.Nodup ∧ (∀ x ∈ names, x < n) ∧ ∀ x, x < n → x ∈ names := by
  refine ⟨by rw [h.length_eq]; simp, h.symm.nodup List.nodup_range, fun x hx => ?_, fun x hx => ?_⟩
  · exact List.mem_range.mp (h.mem_iff.mp hx)
  · exact h.mem_iff.mpr (List.mem_range.mpr hx)
theorem getD_at {l : List Nat} {i : Nat} (h : i < l.length) : l.getD i 0 = l[i] := by
  rw [List.getD_eq_getElem?_getD, List.getElem?_eq_getElem h]; rfl
theorem getD_inj {names : List Nat} {n u v : Nat} (h : names.Perm (List.range n)) (hu : u < n) (hv : v < n) (e : names.getD u 0 = names.getD v 0) : u = v := by
  obtain ⟨h1, h2, _, _⟩ := names_ok h
  rw [getD_at (by omega), getD_at (by omega)] at e
  exact (List.getElem_inj h2).mp e
theorem getD_lt {names : List Nat} {n u : Nat} (h : names.Perm (List.range n)) (hu : u < n) : names.getD u 0 < n := by
  obtain ⟨h1, _, h3, _⟩ := names_ok h
  rw [getD_at (by omega)]
  exact h3 _ (List.getElem_mem _)
theorem cnt_ren {names : List Nat} {n : Nat} (h : names.Perm (List.range n)) {v : Nat} (hv : v < n) : ∀ {w : List Nat}, (∀ x ∈ w, x < n) → (ren2 names w).count (names.getD v 0) = w.count v
  | [], _ => rfl
  | x :: w, hw => by
    unfold ren2
    rw [List.map_cons, List.count_cons, List.count_cons]
    have := cnt_ren h hv (w := w) fun y hy => hw y (List.mem_cons_of_mem _ hy)
    unfold ren2 at this
    rw [this]
    have e : (names.getD x 0 == names.getD v 0) = (x == v) := by
      rw [Bool.eq_iff_iff, beq_iff_eq, beq_iff_eq]
      exact ⟨getD_inj h (hw x List.mem_cons_self) hv, fun e => by rw [e]⟩
    rw [e]
theorem surj {names : List Nat} {n x : Nat} (h : names.Perm (List.range n)) (hx : x < n) : ∃ v, v < n ∧ names.getD v 0 = x := by
  obtain ⟨h1, _, _, h4⟩ := names_ok h
  obtain ⟨v, hv, e⟩ := List.mem_iff_getElem.mp (h4 x hx)
  exact ⟨v, by omega, by rw [getD_at hv]; exact e⟩
theorem DW.ren {w names : List Nat} {n : Nat} (h : DW w n) (hp : names.Perm (List.range n)) : DW (ren2 names w) n where
  len := by unfold ren2; rw [List.length_map]; exact h.len
  lt := fun x hx => by
    unfold ren2 at hx
    obtain ⟨v, hv, rfl⟩ := List.mem_map.mp hx
    exact getD_lt hp (h.lt v hv)
  two := fun x hx => by
    obtain ⟨v, hv, rfl⟩ := surj hp hx
    rw [cnt_ren hp hv h.lt]
    exact h.two v hv
  sm := h.sm
theorem Drawn.dw {n : Nat} {u : List Nat} (h : Drawn n u) (hs : n ≤ 100) : DW u n := by
  obtain ⟨w, names, h1, h2, h3, _, rfl⟩ := h
  exact (h1.dw h2 hs).ren h3
def brB : Sts := match f__law_brackets.body with
  | .cons _ (.cons (.for_ _ _ b) _) => b
  | _ => .nil
theorem m_brackets (k nn n : Nat) (hn : n ≤ 100) {S : Sto} {r : Nat} {ds : List Nat} (hS : S[r]? = some (.lst (ds.map dn))) : ∃ ds' w : List Nat, DW w n ∧ callM (callAt G (k+2)) c__law_brackets [.ref r, dn n] nn S = some (wd w, S.set r (.lst (ds'.map dn))) := by
  obtain ⟨η', S', l1, w, ds', x, h1, h2, h3, h4⟩ := loop_range (f := forB (callAt G (k+1)) (.one 3) brB) (fun p η S => ∃ (w ds' : List Nat) (x : Option D), Built w ∧ w.length = 2 * p ∧ η = [some (.ref 0), some (dn n), some (wd w), x] ∧ S = [.lst (ds'.map dn)]) (n := n)
    (η := [some (.ref 0), some (dn n), some (.tup []), none]) (S := [.lst (ds.map dn)]) ⟨[], ds, none, .nil, rfl, rfl, rfl⟩ (fun p η S hp ⟨w, ds', x, h1, h2, h3, h4⟩ => by
      subst h3 h4
      obtain ⟨a, ds2, v1, v2⟩ := m_take1 k 1 w.length (S := [.lst (ds'.map dn)]) (r := 0) (ds := ds') (by rfl)
      have hput : callM (callAt G (k+1)) c__law_put [wd w, dn a, .tup [.int 0, .int 0]] 1 [.lst (ds2.map dn)] = some (wd (putW w a [0, 0]), [.lst (ds2.map dn)]) := m_put k 1 _ w [0, 0] a (by simp; omega)
      refine ⟨[some (.ref 0), some (dn n), some (wd (putW w a [0, 0])), some (dn p)], [.lst (ds2.map dn)], ?_, putW w a [0, 0], ds2, _, .put (B := [0, 0]) (b := 0) h1 v1 (by decide) (by decide), by rw [putW_len]; simp; omega, rfl, rfl⟩
      simp! [forB, brB, f__law_brackets, v2, hput])
  subst h3 h4
  refine ⟨ds', w, h1.dw h2 hn, callM_one (S1 := []) hS (pure_dns _) (by simp only [pures, pure_dn]; rfl) ?_ (pure_dns _) (pure_wd _)⟩
  have hb : (Sts.cons (.set (.nm 2) (.call c__law_put _)) _) = brB := rfl
  rw [call_eq g__law_brackets rfl]
  simp! [f__law_brackets, rng11_nat, show n ≤ 1000000 by omega]
  rw [hb, l1]
  simp! []
/-! any double word -/
def wIn : Sts := match f__law_word.body with
  | .cons _ (.cons _ (.cons _ (.cons _ (.cons _ (.cons (.for_ _ _ (.cons (.for_ _ _ b) _)) _))))) => b
  | _ => .nil
def wOut : Sts := match f__law_word.body with
  | .cons _ (.cons _ (.cons _ (.cons _ (.cons _ (.cons (.for_ _ _ b) _))))) => b
  | _ => .nil
theorem word_in (k n v : Nat) (hv : v ≤ 100) (x2 x3 x6 x7 : Option D) (w0 : List Nat) (hw : w0.length ≤ 200) (ds : List Nat) : ∃ (w ds' : List Nat) (y6 y7 : Option D), w.length = w0.length + 2 ∧ (∀ u, w.count u = w0.count u + if v = u then 2 else 0) ∧
    loopL (forB (callAt G (k+1)) (.one 6) wIn) ((List.range 2).map dn) [some (.ref 0), some (dn n), x2, x3, some (wd w0), some (dn v), x6, x7] [.lst (ds.map dn)] = some (.nx, [some (.ref 0), some (dn n), x2, x3, some (wd w), some (dn v), y6, y7], [.lst (ds'.map dn)]) := by
  obtain ⟨η', S', l1, w, ds', y6, y7, h1, h2, h3, h4⟩ := loop_range (f := forB (callAt G (k+1)) (.one 6) wIn) (fun p η S => ∃ (w ds' : List Nat) (y6 y7 : Option D), w.length = w0.length + p ∧ (∀ u, w.count u = w0.count u + if v = u then p else 0) ∧ η = [some (.ref 0), some (dn n), x2, x3, some (wd w), some (dn v), y6, y7] ∧ S = [.lst (ds'.map dn)]) (n := 2)
    (η := [some (.ref 0), some (dn n), x2, x3, some (wd w0), some (dn v), x6, x7]) (S := [.lst (ds.map dn)]) ⟨w0, ds, x6, x7, rfl, fun u => by simp, rfl, rfl⟩ (fun p η S hp ⟨w, ds', y6, y7, h1, h2, h3, h4⟩ => by
      subst h3 h4
      obtain ⟨a, ds2, v1, v2⟩ := m_take1 k 1 w.length (S := [.lst (ds'.map dn)]) (r := 0) (ds := ds') (by rfl)
      refine ⟨[some (.ref 0), some (dn n), x2, x3, some (wd (w.take a ++ [v] ++ w.drop a)), some (dn v), some (dn p), some (dn a)], [.lst (ds2.map dn)], ?_, w.take a ++ [v] ++ w.drop a, ds2, _, _, by simp; omega, fun u => by rw [cnt_ins, h2]; split <;> omega, rfl, rfl⟩
      have h5 : min a w.length + 1 ≤ sizeLine := sz (by omega)
      have h6 : min a w.length + 1 + (w.length - a) ≤ sizeLine := sz (by omega)
      simp! [forB, wIn, f__law_word, v2, h5, h6])
  subst h3 h4
  exact ⟨w, ds', y6, y7, h1, h2, l1⟩
theorem word_out (k n : Nat) (hn : n ≤ 90) (x2 : Option D) (ds : List Nat) : ∃ (w ds' : List Nat) (η' : En), DW w n ∧ (∃ x5 x6 x7, η' = [some (.ref 0), some (dn n), x2, none, some (wd w), x5, x6, x7]) ∧
    loopL (forB (callAt G (k+1)) (.one 5) wOut) ((List.range n).map dn) [some (.ref 0), some (dn n), x2, none, some (.tup []), none, none, none] [.lst (ds.map dn)] = some (.nx, η', [.lst (ds'.map dn)]) := by
  obtain ⟨η', S', l1, w, ds', y5, y6, y7, h1, h2, h3, h4⟩ := loop_range (f := forB (callAt G (k+1)) (.one 5) wOut) (fun p η S => ∃ (w ds' : List Nat) (y5 y6 y7 : Option D), w.length = 2 * p ∧ (∀ u, w.count u = if u < p then 2 else 0) ∧ η = [some (.ref 0), some (dn n), x2, none, some (wd w), y5, y6, y7] ∧ S = [.lst (ds'.map dn)]) (n := n)
    (η := [some (.ref 0), some (dn n), x2, none, some (.tup []), none, none, none]) (S := [.lst (ds.map dn)]) ⟨[], ds, none, none, none, rfl, fun u => by simp, rfl, rfl⟩ (fun p η S hp ⟨w, ds', y5, y6, y7, h1, h2, h3, h4⟩ => by
      subst h3 h4
      obtain ⟨w', ds2, z6, z7, r1, r2, r3⟩ := word_in k n p (by omega) x2 none y6 y7 w (by omega) ds'
      have hb : (Sts.cons (.set (.nm 7) _) _) = wIn := rfl
      refine ⟨_, _, ?_, w', ds2, some (dn p), z6, z7, by omega, fun u => ?_, rfl, rfl⟩
      · simp! [forB, wOut, f__law_word, rng11]
        have e : rangeD 0 2 = (List.range 2).map dn := rangeD_nat 2
        rw [if_pos (by decide), e, bs, for_sta, hb, r3]
        simp! []
      · rw [r2, h2]
        by_cases h : p = u
        · subst h; simp
        · by_cases h8 : u < p
          · simp [h, h8, show u < p + 1 by omega]
          · simp [h, h8, show ¬ u < p + 1 by omega])
  subst h4
  exact ⟨w, ds', η', dw_of h1 h2 (by omega), ⟨y5, y6, y7, h3⟩, l1⟩
theorem dw_two {n : Nat} {row other : List Nat} (h1 : row.Perm (List.range n)) (h2 : other.Perm row) (hs : n ≤ 100) : DW (row ++ other) n := by
  have hl := h1.length_eq
  have hl2 := h2.length_eq
  simp at hl
  refine dw_of (by simp; omega) (fun v => ?_) hs
  rw [List.count_append, h2.count_eq, h1.count_eq, List.count_range]
  split <;> omega
theorem m_word (k nn n : Nat) (hn : n ≤ 90) {S : Sto} {r : Nat} {ds : List Nat} (hS : S[r]? = some (.lst (ds.map dn))) : ∃ ds' w : List Nat, DW w n ∧ callM (callAt G (k+4)) c__law_word [.ref r, dn n] nn S = some (wd w, S.set r (.lst (ds'.map dn))) := by
  suffices run : ∃ (ds' w : List Nat) (S1 : Sto), DW w n ∧ callAt G (k+4) c__law_word [.ref 0, dn n] [.lst (ds.map dn)] = some (wd w, .lst (ds'.map dn) :: S1) by
    obtain ⟨ds', w, S1, h, e⟩ := run
    exact ⟨ds', w, h, callM_one hS (pure_dns _) (by simp only [pures, pure_dn]; rfl) e (pure_dns _) (pure_wd _)⟩
  obtain ⟨t, ds1, t1, t2⟩ := m_take (k + 2) 1 6 (by decide) (S := [.lst (ds.map dn)]) (r := 0) (ds := ds) (by rfl)
  have t3 : callM (callAt G (k+3)) c__law_take [.ref 0, .int 6] 1 [.lst (ds.map dn)] = some (dn t, [.lst (ds1.map dn)]) := t2
  have z0 : ((t : Int) = 0 ↔ t = 0) ∧ ((t : Int) = 1 ↔ t = 1) ∧ ((t : Int) = 2 ↔ t = 2) ∧ ((0 : Int) < (n : Int) ↔ 0 < n) := by omega
  rw [call_eq g__law_word rfl]
  by_cases hA : t = 0 ∧ 0 < n
  · obtain ⟨ds2, row, p1, p2⟩ := m_mixed_l (k + 1) 1 (List.range n) (by simp; omega) (S := [.lst (ds1.map dn), .lst ((List.range n).map dn)]) (r := 0) (r' := 1) (ds := ds1) (by omega) (by rfl) (by rfl)
    have hrl := p1.length_eq
    simp at hrl
    obtain ⟨ds3, row2, q1, q2⟩ := m_mixed_t (k + 1) 2 row (by omega) (S := [.lst (ds2.map dn), .lst ((List.range n).map dn)]) (r := 0) (ds := ds2) (by rfl)
    obtain ⟨u, ds4, u1, u2⟩ := m_take (k + 2) 3 3 (by decide) (S := [.lst (ds3.map dn), .lst ((List.range n).map dn), .lst [wd row, .tup (row.map dn).reverse, wd row2]]) (r := 0) (ds := ds3) (by rfl)
    have u3 : callM (callAt G (k+3)) c__law_take [.ref 0, .int 3] 3 [.lst (ds3.map dn), .lst ((List.range n).map dn), .lst [wd row, .tup (row.map dn).reverse, wd row2]] = some (dn u, [.lst (ds4.map dn), .lst ((List.range n).map dn), .lst [wd row, .tup (row.map dn).reverse, wd row2]]) := u2
    have hl2 := q1.length_eq
    have main : ∀ other : List Nat, other.Perm row → [wd row, D.tup (row.map dn).reverse, wd row2][u]? = some (wd other) → ∃ (ds' w : List Nat) (S1 : Sto), DW w n ∧
        (runSs (callAt G (k + 3)) f__law_word.body ([D.ref 0, dn n].map some ++ List.replicate (f__law_word.nl - f__law_word.np) none) [.lst (ds.map dn)]).bind fin = some (wd w, .lst (ds'.map dn) :: S1) := by
      intro other ho he
      have hol := ho.length_eq
      refine ⟨ds4, row ++ other, [.lst ((List.range n).map dn), .lst [wd row, .tup (row.map dn).reverse, wd row2]], dw_two p1 ho (by omega), ?_⟩
      have h5 : row.length + other.length ≤ sizeLine := sz (by omega)
      simp! [f__law_word, t3, z0, hA, rng11_nat, show n ≤ 1000000 by omega, p2, q2, u3, he, h5]
    have hu : u = 0 ∨ u = 1 ∨ u = 2 := by omega
    rcases hu with rfl | rfl | rfl
    · exact main row (List.Perm.refl _) rfl
    · exact main row.reverse (List.reverse_perm _) (by simp)
    · exact main row2 q1 rfl
  · by_cases hB : t = 1
    · subst hB
      obtain ⟨ds2, w, b1, b2⟩ := m_brackets (k + 1) 1 n (by omega) (S := [.lst (ds1.map dn)]) (r := 0) (ds := ds1) (by rfl)
      refine ⟨ds2, w, [], b1, ?_⟩
      simp! [f__law_word, t3, z0, b2]
    · by_cases hC : t = 2
      · subst hC
        obtain ⟨ds2, w, b1, b2⟩ := m_drawn k 1 n (by omega) (S := [.lst (ds1.map dn)]) (r := 0) (ds := ds1) (by rfl)
        refine ⟨ds2, w, [], b1.dw (by omega), ?_⟩
        simp! [f__law_word, t3, z0, b2]
      · obtain ⟨w, ds2, η', h1, ⟨x5, x6, x7, h2⟩, h3⟩ := word_out (k + 2) n hn (some (dn t)) ds1
        subst h2
        refine ⟨ds2, w, [], h1, ?_⟩
        have hb : (Sts.cons (.for_ (.one 6) _ _) _) = wOut := rfl
        have hA2 : t = 0 → ¬ 0 < n := fun e z => hA ⟨e, z⟩
        by_cases h0 : t = 0
        · have hn0 : ¬ 0 < n := hA2 h0
          simp! [f__law_word, t3, z0, h0, hn0, rng11_nat, show n ≤ 1000000 by omega]
          rw [hb]
          rw [h0] at h3
          first
            | rw [h3]; simp! []
            | (rw [show dn 0 = D.int 0 from rfl] at h3; rw [h3]; simp! [])
        · simp! [f__law_word, t3, z0, h0, hB, hC, rng11_nat, show n ≤ 1000000 by omega]
          rw [hb, h3]
          simp! []
def nearB : Sts := match f__law_near.body with
  | .cons _ (.cons (.ite _ (.cons _ (.cons (.for_ _ _ b) _)) _) _) => b
  | _ => .nil
theorem near_in (k v : Nat) (hv : v ≤ 100) (w0 : List Nat) (hw : w0.length ≤ 200) (ds : List Nat) : ∃ (w ds' : List Nat) (y6 y7 : Option D), w.length = w0.length + 2 ∧ (∀ u, w.count u = w0.count u + if v = u then 2 else 0) ∧
    loopL (forB (callAt G (k+1)) (.one 3) nearB) ((List.range 2).map dn) [some (.ref 0), some (.int ((v : Int) + 1)), some (wd w0), none, none, none, none] [.lst (ds.map dn)] = some (.nx, [some (.ref 0), some (.int ((v : Int) + 1)), some (wd w), y6, y7, none, none], [.lst (ds'.map dn)]) := by
  obtain ⟨η', S', l1, w, ds', y6, y7, h1, h2, h3, h4⟩ := loop_range (f := forB (callAt G (k+1)) (.one 3) nearB) (fun p η S => ∃ (w ds' : List Nat) (y6 y7 : Option D), w.length = w0.length + p ∧ (∀ u, w.count u = w0.count u + if v = u then p else 0) ∧ η = [some (.ref 0), some (.int ((v : Int) + 1)), some (wd w), y6, y7, none, none] ∧ S = [.lst (ds'.map dn)]) (n := 2)
    (η := [some (.ref 0), some (.int ((v : Int) + 1)), some (wd w0), none, none, none, none]) (S := [.lst (ds.map dn)]) ⟨w0, ds, none, none, rfl, fun u => by simp, rfl, rfl⟩ (fun p η S hp ⟨w, ds', y6, y7, h1, h2, h3, h4⟩ => by
      subst h3 h4
      obtain ⟨a, ds2, v1, v2⟩ := m_take1 k 1 w.length (S := [.lst (ds'.map dn)]) (r := 0) (ds := ds') (by rfl)
      refine ⟨[some (.ref 0), some (.int ((v : Int) + 1)), some (wd (w.take a ++ [v] ++ w.drop a)), some (dn p), some (dn a), none, none], [.lst (ds2.map dn)], ?_, w.take a ++ [v] ++ w.drop a, ds2, _, _, by simp; omega, fun u => by rw [cnt_ins, h2]; split <;> omega, rfl, rfl⟩
      have h5 : min a w.length + 1 ≤ sizeLine := sz (by omega)
      have h6 : min a w.length + 1 + (w.length - a) ≤ sizeLine := sz (by omega)
      simp! [forB, nearB, f__law_near, v2, h5, h6])
  subst h3 h4
  exact ⟨w, ds', y6, y7, h1, h2, l1⟩
theorem cnt_set : ∀ (l : List Nat) (i x v : Nat) (h : i < l.length), (l.set i x).count v + (if l[i] = v then 1 else 0) = l.count v + (if x = v then 1 else 0)
  | a :: l, 0, x, v, _ => by
    simp only [List.set_cons_zero, List.count_cons, List.getElem_cons_zero, beq_iff_eq]
    omega
  | a :: l, i + 1, x, v, h => by
    have := cnt_set l i x v (by simpa using h)
    simp only [List.set_cons_succ, List.count_cons, List.getElem_cons_succ, beq_iff_eq]
    omega
theorem cnt_swap (l : List Nat) (i j v : Nat) (hi : i < l.length) (hj : j < l.length) : ((l.set i l[j]).set j l[i]).count v = l.count v := by
  have h1 := cnt_set l i l[j] v hi
  have h2 := cnt_set (l.set i l[j]) j l[i] v (by simpa using hj)
  rw [List.getElem_set] at h2
  by_cases h : i = j
  · subst h
    simp at h1 h2 ⊢
  · rw [if_neg h] at h2
    omega
theorem m_near (k nn n : Nat) (hn : n ≤ 90) {S : Sto} {r : Nat} {ds : List Nat} (hS : S[r]? = some (.lst (ds.map dn))) : ∃ ds' w : List Nat, DW w n ∧ callM (callAt G (k+4)) c__law_near [.ref r, dn n] nn S = some (wd w, S.set r (.lst (ds'.map dn))) := by
  suffices run : ∃ (ds' w : List Nat) (S1 : Sto), DW w n ∧ callAt G (k+4) c__law_near [.ref 0, dn n] [.lst (ds.map dn)] = some (wd w, .lst (ds'.map dn) :: S1) by
    obtain ⟨ds', w, S1, h, e⟩ := run
    exact ⟨ds', w, h, callM_one hS (pure_dns _) (by simp only [pures, pure_dn]; rfl) e (pure_dns _) (pure_wd _)⟩
  rw [call_eq g__law_near rfl]
  cases n with
  | zero =>
    refine ⟨ds, [], [], dw_of rfl (fun v => by simp) (by omega), ?_⟩
    simp! [f__law_near]
  | succ m =>
    obtain ⟨t, ds1, t1, t2⟩ := m_take (k + 2) 1 2 (by decide) (S := [.lst (ds.map dn)]) (r := 0) (ds := ds) (by rfl)
    have t3 : callM (callAt G (k+3)) c__law_take [.ref 0, .int 2] 1 [.lst (ds.map dn)] = some (dn t, [.lst (ds1.map dn)]) := t2
    have z0 : ¬ ((m : Int) + 1 = 0) := by omega
    have z1 : ((t : Int) = 0 ↔ t = 0) := by omega
    by_cases h0 : t = 0
    · subst h0
      obtain ⟨ds2, w0, b1, b2⟩ := m_drawn k 1 m (by omega) (S := [.lst (ds1.map dn)]) (r := 0) (ds := ds1) (by rfl)
      have hw0 := b1.dw (by omega)
      obtain ⟨w, ds3, y6, y7, r1, r2, r3⟩ := near_in (k + 2) m (by omega) w0 (by have := hw0.len; omega) ds2
      have hb : (Sts.cons (.set (.nm 4) _) _) = nearB := rfl
      refine ⟨ds3, w, [], dw_of (by have := hw0.len; omega) (fun u => ?_) (by omega), ?_⟩
      · rw [r2, hw0.cnt]
        by_cases h : m = u
        · subst h; simp
        · by_cases h8 : u < m
          · simp [h, h8, show u < m + 1 by omega]
          · simp [h, h8, show ¬ u < m + 1 by omega]
      · simp! [f__law_near, z0, t3, b2, rng11]
        have e : rangeD 0 2 = (List.range 2).map dn := rangeD_nat 2
        rw [show D.int ((m : Int) + 1) = dn (m + 1) from rfl] at r3
        rw [if_pos (by decide), e, bs, for_sta, hb, r3]
        simp! []
    · obtain ⟨ds2, w0, b1, b2⟩ := m_drawn k 1 (m + 1) (by omega) (S := [.lst (ds1.map dn)]) (r := 0) (ds := ds1) (by rfl)
      have hw0 := b1.dw (by omega)
      have hl := hw0.len
      obtain ⟨p, ds3, p1, p2⟩ := m_take (k + 2) 2 w0.length (by omega) (S := [.lst (ds2.map dn), .lst (w0.map dn)]) (r := 0) (ds := ds2) (by rfl)
      obtain ⟨q, ds4, q1, q2⟩ := m_take (k + 2) 2 w0.length (by omega) (S := [.lst (ds3.map dn), .lst (w0.map dn)]) (r := 0) (ds := ds3) (by rfl)
      have b3 : callM (callAt G (k+3)) c__law_drawn [.ref 0, .int ((m : Int) + 1)] 1 [.lst (ds1.map dn)] = some (wd w0, [.lst (ds2.map dn)]) := b2
      refine ⟨ds4, (w0.set p w0[q]).set q w0[p], [.lst (((w0.set p w0[q]).set q w0[p]).map dn)], dw_of (by simp; omega) (fun u => by rw [cnt_swap, hw0.cnt]) (by omega), ?_⟩
      simp! [f__law_near, z0, t3, h0, b2, p2, q2, p1, q1]
/-! ## interlacing by counting -/
theorem posTo_count (w : List Nat) (u : Nat) : ∀ m, (posTo w u m).length = (w.take m).count u
  | 0 => by simp [posTo]
  | m + 1 => by
    rw [posTo_succ, List.length_append, posTo_count w u m, List.take_succ, List.count_append]
    congr 1
    cases q : w[m]? with
    | none => simp
    | some x =>
      by_cases h : x = u
      · subst h; simp
      · have : ¬ (some x = some u) := fun z => h (Option.some.inj z)
        simp [h]
theorem posTo_cut (w : List Nat) (u m : Nat) (hm : m ≤ w.length) : posTo w u m = (pos w u).filter fun p => decide (p < m) := by
  unfold pos posTo
  rw [List.filter_filter]
  have : List.range m = (List.range w.length).filter fun p => decide (p < m) := by
    obtain ⟨d, h⟩ : ∃ d, w.length = m + d := ⟨w.length - m, by omega⟩
    rw [h, List.range_add, List.filter_append]
    have e1 : (List.range m).filter (fun p => decide (p < m)) = List.range m := List.filter_eq_self.mpr fun p hp => by simpa using hp
    have e2 : ((List.range d).map (m + ·)).filter (fun p => decide (p < m)) = [] := List.filter_eq_nil_iff.mpr fun p hp => by
      obtain ⟨q, _, rfl⟩ := List.mem_map.mp hp
      simp
    rw [e1, e2, List.append_nil]
  rw [this, List.filter_filter]
  refine List.filter_congr fun p _ => ?_
  rw [Bool.and_comm]
section
variable {w : List Nat} {n v u : Nat}
theorem cnt_take (h : DW w n) (hu : u < n) (m : Nat) (hm : m ≤ w.length) : (w.take m).count u = (if pa w u < m then 1 else 0) + (if pb w u < m then 1 else 0) := by
  rw [← posTo_count, posTo_cut w u m hm, (h.pp hu).1]
  by_cases h1 : pa w u < m <;> by_cases h2 : pb w u < m <;> simp [h1, h2]
theorem cnt_btw (h : DW w n) (hv : v < n) (hu : u < n) : (btw w v).count u + ((if pa w u < pa w v + 1 then 1 else 0) + (if pb w u < pa w v + 1 then 1 else 0)) = (if pa w u < pb w v then 1 else 0) + (if pb w u < pb w v then 1 else 0) := by
  obtain ⟨_, h1, h2, _⟩ := h.pp hv
  have hl := h.len
  rw [← cnt_take h hu (pa w v + 1) (by omega), ← cnt_take h hu (pb w v) (by omega)]
  have e : w.take (pb w v) = w.take (pa w v + 1) ++ btw w v := by
    unfold btw
    rw [← List.take_add]
    congr 1; omega
  rw [e, List.count_append]
  omega
theorem apart (h : DW w n) (hv : v < n) (hu : u < n) (hne : u ≠ v) : pa w u ≠ pa w v ∧ pa w u ≠ pb w v ∧ pb w u ≠ pa w v ∧ pb w u ≠ pb w v := by
  obtain ⟨_, _, _, a1, a2, _⟩ := h.pp hv
  obtain ⟨_, _, _, b1, b2, _⟩ := h.pp hu
  refine ⟨fun e => ?_, fun e => ?_, fun e => ?_, fun e => ?_⟩
  · rw [e, a1] at b1; exact hne (Option.some.inj b1).symm
  · rw [e, a2] at b1; exact hne (Option.some.inj b1).symm
  · rw [e, a1] at b2; exact hne (Option.some.inj b2).symm
  · rw [e, a2] at b2; exact hne (Option.some.inj b2).symm
/-- that two crossings interlace -/
def il (w : List Nat) (v u : Nat) : Bool := decide (u ≠ v) && tr (pa w) (pb w) v u
theorem il_count (h : DW w n) (hv : v < n) (hu : u < n) : decide ((btw w v).count u = 1) = il w v u := by
  have hc := cnt_btw h hv hu
  obtain ⟨_, h1, _⟩ := h.pp hv
  obtain ⟨_, h2, _⟩ := h.pp hu
  unfold il tr
  rw [Bool.eq_iff_iff, Bool.and_eq_true, decide_eq_true_eq, decide_eq_true_eq, decide_eq_true_eq]
  by_cases e : u = v
  · subst e
    simp only [ne_eq, not_true_eq_false, false_and, iff_false]
    rw [if_pos (by omega), if_neg (by omega), if_pos (by omega), if_neg (by omega)] at hc
    omega
  · obtain ⟨a1, a2, a3, a4⟩ := apart h hv hu e
    simp only [ne_eq, e, not_false_eq_true, true_and]
    by_cases c1 : pa w u < pa w v + 1 <;> by_cases c2 : pb w u < pa w v + 1 <;> by_cases c3 : pa w u < pb w v <;> by_cases c4 : pb w u < pb w v <;> simp only [c1, c2, c3, c4, if_true, if_false] at hc <;> omega
theorem itl_eq (w : List Nat) (n v : Nat) : itl w n v = (List.range n).filter (il w v) := rfl
theorem sum_ind (p : Nat → Bool) : ∀ l : List Nat, ((l.map fun x => if p x = true then (1 : Int) else 0).sum) = ((l.filter p).length : Int)
  | [] => rfl
  | x :: l => by
    rw [List.map_cons, List.sum_cons, sum_ind p l]
    by_cases h : p x = true
    · rw [List.filter_cons_of_pos h, if_pos h, List.length_cons]; omega
    · rw [List.filter_cons_of_neg h, if_neg h]; omega
theorem common_eq (f : Nat → Nat → Bool) (n v u : Nat) : common (fun v => (List.range n).filter (f v)) v u = ((List.range n).filter fun x => f v x && f u x).length := by
  unfold common
  rw [List.filter_filter]
  congr 1
  refine List.filter_congr fun x hx => ?_
  rw [List.mem_range] at hx
  simp [List.mem_filter, hx, Bool.and_comm]
/-- parity between -/
theorem len_counts : ∀ (n : Nat) (l : List Nat), (∀ x ∈ l, x < n) → l.length = ((List.range n).map fun u => l.count u).sum
  | n, [], _ => by
    simp only [List.length_nil, List.count_nil]
    induction n with
    | zero => rfl
    | succ n ih => rw [List.range_succ, List.map_append, List.sum_append, ← ih fun x hx => by simp at hx]; rfl
  | n, x :: l, h => by
    have hx := h x List.mem_cons_self
    have ih := len_counts n l fun y hy => h y (List.mem_cons_of_mem _ hy)
    have key : ∀ m, ((List.range m).map fun u => (x :: l).count u).sum = ((List.range m).map fun u => l.count u).sum + if x < m then 1 else 0 := by
      intro m
      induction m with
      | zero => simp
      | succ m ihm =>
        rw [List.range_succ, List.map_append, List.map_append, List.sum_append, List.sum_append, ihm]
        simp only [List.map_cons, List.map_nil, List.sum_cons, List.sum_nil, List.count_cons, beq_iff_eq]
        split <;> split <;> split <;> omega
    rw [key n, if_pos hx, List.length_cons, ← ih]
theorem par_sum (f : Nat → Nat) (p : Nat → Bool) : ∀ l : List Nat, (∀ x ∈ l, f x % 2 = if p x = true then 1 else 0) → (l.map f).sum % 2 = (l.filter p).length % 2
  | [], _ => rfl
  | x :: l, h => by
    have ih := par_sum f p l fun y hy => h y (List.mem_cons_of_mem _ hy)
    have hx := h x List.mem_cons_self
    rw [List.map_cons, List.sum_cons]
    by_cases e : p x = true
    · rw [List.filter_cons_of_pos e, List.length_cons]; rw [if_pos e] at hx; omega
    · rw [List.filter_cons_of_neg e]; rw [if_neg e] at hx; omega
theorem btw_par (h : DW w n) (hv : v < n) : (btw w v).length % 2 = (itl w n v).length % 2 := by
  have hlt : ∀ x ∈ btw w v, x < n := fun x hx => h.lt x (List.mem_of_mem_drop (List.mem_of_mem_take hx))
  rw [len_counts n _ hlt, itl_eq]
  refine par_sum _ _ _ fun u hu => ?_
  rw [List.mem_range] at hu
  have hc := cnt_btw h hv hu
  have hi := il_count h hv hu
  obtain ⟨_, h1, _⟩ := h.pp hv
  obtain ⟨_, h2, _⟩ := h.pp hu
  cases q : il w v u with
  | true =>
    rw [q, decide_eq_true_eq] at hi
    rw [hi]; rfl
  | false =>
    rw [q, decide_eq_false_iff_not] at hi
    have : (btw w v).count u ≤ 2 := by split at hc <;> split at hc <;> split at hc <;> split at hc <;> omega
    simp only [Bool.false_eq_true, if_false]
    omega
end
section
variable {w : List Nat} {n v u : Nat}
theorem m_lpasses (k nn : Nat) (S : Sto) (h : DW w n) (hv : v < n) : callM (callAt G (k+1)) c__law_passes [wd w, dn v] nn S = some (wd [pa w v, pb w v], S) := by
  refine callM_pure (S1 := []) (by simp only [pures, pure_wd, pure_dn]; rfl) ?_ (pure_wd _)
  have e := r_passes_of k h hv
  rw [call_eq g_passes_of rfl] at e
  rw [call_eq g__law_passes rfl]
  exact e
theorem m_do_interlace (k nn : Nat) (S : Sto) (h : DW w n) (hv : v < n) (hu : u < n) : callM (callAt G (k+2)) c__law_do_interlace [wd w, dn v, dn u] nn S = some (.bl (il w v u), S) := by
  refine callM_pure (S1 := []) (by simp only [pures, pure_wd, pure_dn]; rfl) ?_ rfl
  rw [call_eq g__law_do_interlace rfl]
  simp! [f__law_do_interlace, m_lpasses _ _ _ h hv]
  rw [show ((pa w v : Nat) : Int) + 1 = ((pa w v + 1 : Nat) : Int) by simp, cut_nn, ← List.map_drop, ← List.map_take, count1_nat]
  simp! []
  rw [← il_count h hv hu]
  have e : (((btw w v).count u : Nat) : Int) = 1 ↔ (btw w v).count u = 1 := by omega
  exact decide_eq_decide.mpr e
/-- a row of the table -/
def rowT (w : List Nat) (n v : Nat) : List Nat := (List.range n).map fun u => if il w v u = true then 1 else 0
theorem m_table (k nn : Nat) (S : Sto) (h : DW w n) : callM (callAt G (k+3)) c__law_table [wd w] nn S = some (rowsD ((List.range n).map (rowT w n)), S) := by
  refine callM_pure (S1 := []) (by simp only [pures, pure_wd, pure_dn]; rfl) ?_ (pure_rows _)
  have hs := h.sm
  have hn : w.length / 2 = n := by have := h.len; omega
  have hn2 : (w.length : Int) / 2 = (n : Int) := by have := h.len; omega
  rw [call_eq g__law_table rfl]
  simp! [f__law_table, hn, hn2, rng11_nat, show n ≤ 1000000 by omega]
  rw [compL_all dn (fun v => wd (rowT w n v)) fun v hv => by
    rw [List.mem_range] at hv
    simp! [turnF, hn, hn2, rng11_nat, show n ≤ 1000000 by omega]
    rw [compL_all dn (fun u => dn (if il w v u = true then 1 else 0)) fun u hu => by
      rw [List.mem_range] at hu
      simp! [turnF, m_do_interlace _ _ _ h hv hu]
      split <;> rfl]
    simp! [rowT, Function.comp]]
  simp! [Function.comp]
/-- a reading -/
def reading (w : List Nat) (p t : Nat) : List Nat := let row := w.drop p ++ w.take p
  if t = 0 then row else row.take 1 ++ (row.drop 1).reverse
theorem m_reading (k nn p t : Nat) (S : Sto) (h : w.length ≤ 500) : callM (callAt G (k+1)) c__law_reading [wd w, dn p, dn t] nn S = some (wd (reading w p t), S) := by
  refine callM_pure (S1 := []) (by simp only [pures, pure_wd, pure_dn]; rfl) ?_ (pure_wd _)
  rw [call_eq g__law_reading rfl]
  have h1 : w.length - p + min p w.length ≤ sizeLine := sz (by omega)
  have z : ((t : Int) = 0 ↔ t = 0) := by omega
  by_cases h0 : t = 0
  · simp! [f__law_reading, h1, z, h0, reading]
  · have c1 : ∀ ds : List D, cutD ds none (some 1) = ds.take 1 := fun ds => cut_n0 ds 1
    have h2 : min 1 (w.length - p + min p w.length) + (w.length - p + min p w.length - 1) ≤ sizeLine := sz (by omega)
    simp! [f__law_reading, h1, z, h0, reading, c1, revTo_tup, h2]
/-! what is odd, by the table -/
def oddIn : Sts := match f__law_odd.body with
  | .cons _ (.cons _ (.cons _ (.cons (.for_ _ _ (.cons (.for_ _ _ b) _)) _))) => b
  | _ => .nil
def oddOut : Sts := match f__law_odd.body with
  | .cons _ (.cons _ (.cons _ (.cons (.for_ _ _ b) _))) => b
  | _ => .nil
def bit (w : List Nat) (v x : Nat) : Nat := if il w v x = true then 1 else 0
theorem row_at {x : Nat} (hx : x < n) : (rowT w n v)[x]? = some (bit w v x) := by
  rw [rowT, List.getElem?_map, List.getElem?_range hx]; rfl
theorem bit_le (w : List Nat) (v x : Nat) : bit w v x ≤ 1 := by unfold bit; split <;> omega
theorem both_sum (w : List Nat) (n v u : Nat) : ((List.range n).map fun x => ((bit w v x : Nat) : Int) * ((bit w u x : Nat) : Int)).sum = (common (itl w n) v u : Int) := by
  have e : itl w n = fun v => (List.range n).filter (il w v) := rfl
  rw [e, common_eq (il w) n v u, ← sum_ind]
  congr 1
  refine List.map_congr_left fun x _ => ?_
  unfold bit
  cases il w v x <;> cases il w u x <;> rfl
theorem odd_turn (k : Nat) (h : DW w n) (hv : v < n) (hu : u < n) (ps : List (Nat × Nat)) (hp : ps.length ≤ 100000) (x5 x6 : Option D) : ∃ y6 : Option D,
    forB (callAt G k) (.one 5) oddIn (dn u) [some (wd w), some (rowsD ((List.range n).map (rowT w n))), some (dn n), some (.ref 0), some (dn v), x5, x6, none] [.lst (ps.map prD)] =
      some (.nx, [some (wd w), some (rowsD ((List.range n).map (rowT w n))), some (dn n), some (.ref 0), some (dn v), some (dn u), y6, none], [.lst ((ps ++ if oddP (itl w n) v u = true then [(v, u)] else []).map prD)]) := by
  have hs := h.sm
  refine ⟨some (dn (common (itl w n) v u)), ?_⟩
  have hsm : ∀ v x, small64 ((bit w v x : Nat) : Int) = true := fun v x => by
    have := bit_le w v x
    exact sm_of (by omega) (by omega)
  simp! [forB, oddIn, f__law_odd, rng11_nat, show n ≤ 1000000 by omega]
  rw [compL_all dn (fun x => .int (((bit w v x : Nat) : Int) * ((bit w u x : Nat) : Int))) fun x hx => by
    rw [List.mem_range] at hx
    simp! [turnF, hv, hu, row_at hx, hsm]]
  simp! [both_sum, hv, hu, row_at hu, mod2]
  have hz : bit w v u = 0 ↔ u ∉ itl w n v := by
    rw [itl_eq, List.mem_filter, List.mem_range]
    unfold bit
    cases q : il w v u <;> simp [hu]
  have hlt : ps.length < sizeLine := by have := million; omega
  unfold oddP
  by_cases h1 : u ∈ itl w n v
  · have h2 : ¬ bit w v u = 0 := fun z => hz.mp z h1
    simp! [h1, h2]
  · have h2 : bit w v u = 0 := hz.mpr h1
    by_cases h3 : common (itl w n) v u % 2 = 1
    · simp! [h1, h2, h3, hlt]
    · simp! [h1, h2, h3]
theorem odd_in (k : Nat) (h : DW w n) (hv : v < n) (ps : List (Nat × Nat)) (hp : ps.length ≤ 10000) (x5 x6 : Option D) : ∃ (y5 y6 : Option D),
    loopL (forB (callAt G k) (.one 5) oddIn) ((List.range' (v + 1) (n - (v + 1))).map dn) [some (wd w), some (rowsD ((List.range n).map (rowT w n))), some (dn n), some (.ref 0), some (dn v), x5, x6, none] [.lst (ps.map prD)] =
      some (.nx, [some (wd w), some (rowsD ((List.range n).map (rowT w n))), some (dn n), some (.ref 0), some (dn v), y5, y6, none], [.lst ((ps ++ ((List.range' (v + 1) (n - (v + 1))).map fun u => (v, u)).filter fun q => oddP (itl w n) q.1 q.2).map prD)]) := by
  have hs := h.sm
  obtain ⟨η', S', l1, y5, y6, e1, e2⟩ := loop_at dn (f := forB (callAt G k) (.one 5) oddIn) (fun p η S => ∃ y5 y6 : Option D, η = [some (wd w), some (rowsD ((List.range n).map (rowT w n))), some (dn n), some (.ref 0), some (dn v), y5, y6, none] ∧
      S = [.lst ((ps ++ (((List.range' (v + 1) (n - (v + 1))).take p).map fun u => (v, u)).filter fun q => oddP (itl w n) q.1 q.2).map prD)]) (xs := List.range' (v + 1) (n - (v + 1)))
    (η := [some (wd w), some (rowsD ((List.range n).map (rowT w n))), some (dn n), some (.ref 0), some (dn v), x5, x6, none]) (S := [.lst (ps.map prD)]) ⟨x5, x6, rfl, by simp⟩ (fun p x η S hx ⟨y5, y6, e1, e2⟩ => by
      subst e1 e2
      have hxl : x < n := by
        have := List.mem_of_getElem? hx
        rw [List.mem_range'_1] at this; omega
      obtain ⟨z6, r⟩ := odd_turn k h hv hxl (ps ++ (((List.range' (v + 1) (n - (v + 1))).take p).map fun u => (v, u)).filter fun q => oddP (itl w n) q.1 q.2) (by
        rw [List.length_append]
        have h1 := List.length_filter_le (fun q : Nat × Nat => oddP (itl w n) q.1 q.2) (((List.range' (v + 1) (n - (v + 1))).take p).map fun u => (v, u))
        rw [List.length_map, List.length_take, List.length_range'] at h1
        omega) y5 y6
      refine ⟨_, _, r, some (dn x), z6, rfl, ?_⟩
      have e : (((List.range' (v + 1) (n - (v + 1))).take (p + 1)).map fun u => (v, u)).filter (fun q => oddP (itl w n) q.1 q.2) = (((List.range' (v + 1) (n - (v + 1))).take p).map fun u => (v, u)).filter (fun q => oddP (itl w n) q.1 q.2) ++ if oddP (itl w n) v x = true then [(v, x)] else [] := by
        rw [List.take_succ, hx, List.map_append, List.filter_append]
        congr 1
        cases q : oddP (itl w n) v x <;> simp [q]
      rw [e, List.append_assoc])
  subst e1 e2
  refine ⟨y5, y6, ?_⟩
  rw [l1, List.take_length]
theorem odd_out (k : Nat) (h : DW w n) : ∃ (y4 y5 y6 : Option D), loopL (forB (callAt G k) (.one 4) oddOut) ((List.range n).map dn) [some (wd w), some (rowsD ((List.range n).map (rowT w n))), some (dn n), some (.ref 0), none, none, none, none] [.lst []] =
      some (.nx, [some (wd w), some (rowsD ((List.range n).map (rowT w n))), some (dn n), some (.ref 0), y4, y5, y6, none], [.lst ((oddPs w n).map prD)]) := by
  have hs := h.sm
  obtain ⟨η', S', l1, y4, y5, y6, e1, e2⟩ := loop_range (f := forB (callAt G k) (.one 4) oddOut) (fun p η S => ∃ y4 y5 y6 : Option D, η = [some (wd w), some (rowsD ((List.range n).map (rowT w n))), some (dn n), some (.ref 0), y4, y5, y6, none] ∧
      S = [.lst (((prsTo n p).filter fun q => oddP (itl w n) q.1 q.2).map prD)]) (n := n)
    (η := [some (wd w), some (rowsD ((List.range n).map (rowT w n))), some (dn n), some (.ref 0), none, none, none, none]) (S := [.lst []]) ⟨none, none, none, rfl, by simp [prsTo]⟩ (fun p η S hp ⟨y4, y5, y6, e1, e2⟩ => by
      subst e1 e2
      obtain ⟨z5, z6, r⟩ := odd_in k h hp ((prsTo n p).filter fun q => oddP (itl w n) q.1 q.2) (by
        have h1 := List.length_filter_le (fun q : Nat × Nat => oddP (itl w n) q.1 q.2) (prsTo n p)
        have h2 := prsTo_len n p
        have h3 : p * n ≤ 100 * 100 := Nat.mul_le_mul (by omega) hs
        omega) y5 y6
      have hb : (Sts.cons (.set (.nm 6) _) _) = oddIn := rfl
      refine ⟨_, _, ?_, some (dn p), z5, z6, rfl, by rw [prsTo_succ, List.filter_append]⟩
      simp! [forB, oddOut, f__law_odd, rng21_succ, show p < 1000000 by omega, show n ≤ 1000000 by omega]
      rw [hb, r]
      simp! [])
  subst e1 e2
  exact ⟨y4, y5, y6, l1⟩
theorem m_law_odd (k nn : Nat) (S : Sto) (h : DW w n) : callM (callAt G (k+4)) c__law_odd [wd w] nn S = some (.tup [wd (odds w n), prsD (oddPs w n)], S) := by
  have hs := h.sm
  obtain ⟨y4, y5, y6, l1⟩ := odd_out (k + 3) h
  refine callM_pure (S1 := [.lst ((oddPs w n).map prD)]) (by simp only [pures, pure_wd]; rfl) ?_ (by simp only [D.pure, pures, pures_map _ pure_dn, pures_map prD (fun _ => pure_wd _)]; rfl)
  rw [call_eq g__law_odd rfl]
  have hb : (Sts.cons (.for_ (.one 5) _ _) _) = oddOut := rfl
  simp! [f__law_odd, m_table _ _ _ h, rng11_nat, show n ≤ 1000000 by omega]
  rw [hb, l1]
  simp! [rng11_nat, show n ≤ 1000000 by omega]
  rw [compL_some dn (fun v => decide ((itl w n v).length % 2 = 1)) dn fun v hv => by
    rw [List.mem_range] at hv
    have e : toInts (List.map dn (rowT w n v)) = some ((rowT w n v).map fun (x : Nat) => (x : Int)) := ti_nats _
    have e2 : ((rowT w n v).map fun (x : Nat) => (x : Int)).sum = ((itl w n v).length : Int) := by
      rw [itl_eq, ← sum_ind, rowT, List.map_map]
      congr 1
      refine List.map_congr_left fun x _ => ?_
      simp only [Function.comp]
      split <;> rfl
    simp! [turnF, hv, e2, mod2]
    split <;> rfl]
  simp! [oddBy]
end
/-! ## readings keep what interlaces -/
theorem il_of {w : List Nat} {v u : Nat} : il w v u = decide (u ≠ v ∧ (pa w v < pa w u ∧ pa w u < pb w v ∧ pb w v < pb w u ∨ pa w u < pa w v ∧ pa w v < pb w u ∧ pb w u < pb w v)) := by
  unfold il tr
  rw [Bool.decide_and]
theorem il_sym (w : List Nat) (v u : Nat) : il w v u = il w u v := by
  rw [il_of, il_of, decide_eq_decide]
  constructor
  · rintro ⟨h, h1⟩
    exact ⟨Ne.symm h, by omega⟩
  · rintro ⟨h, h1⟩
    exact ⟨Ne.symm h, by omega⟩
/-- the same crossings interlace -/
def SameI (w w' : List Nat) (n : Nat) : Prop := ∀ v u, v < n → u < n → il w' v u = il w v u
theorem SameI.trans {a b c : List Nat} {n : Nat} (h : SameI a b n) (h' : SameI b c n) : SameI a c n := fun v u hv hu => (h' v u hv hu).trans (h v u hv hu)
theorem SameI.itl {w w' : List Nat} {n v : Nat} (h : SameI w w' n) (hv : v < n) : itl w' n v = itl w n v := by
  rw [itl_eq, itl_eq]
  exact List.filter_congr fun u hu => h v u hv (List.mem_range.mp hu)
theorem SameI.odd {w w' : List Nat} {n : Nat} (h : SameI w w' n) : odds w' n = odds w n ∧ oddPs w' n = oddPs w n := by
  refine ⟨List.filter_congr fun v hv => ?_, List.filter_congr fun q hq => ?_⟩
  · rw [h.itl (List.mem_range.mp hv)]
  · obtain ⟨h1, h2⟩ := prs_mem.mp hq
    unfold oddP common
    rw [h.itl h2, h.itl (show q.1 < n by omega)]
theorem DW.perm {w w' : List Nat} {n : Nat} (h : DW w n) (p : w'.Perm w) : DW w' n :=
  dw_of (by rw [p.length_eq]; exact h.len) (fun v => by rw [p.count_eq]; exact h.cnt v) h.sm
theorem rot_one {x : Nat} {t : List Nat} {n : Nat} (h : DW (x :: t) n) : DW (t ++ [x]) n ∧ SameI (x :: t) (t ++ [x]) n := by
  have h' : DW (t ++ [x]) n := h.perm (by simpa using (List.perm_append_comm (l₁ := t) (l₂ := [x])))
  refine ⟨h', fun v u hv hu => ?_⟩
  have key : ∀ v, v < n → (v = x ∧ pa (x :: t) v = 0 ∧ pb (t ++ [x]) v + 1 = 2 * n ∧ pa (t ++ [x]) v + 1 = pb (x :: t) v) ∨ (v ≠ x ∧ pa (t ++ [x]) v + 1 = pa (x :: t) v ∧ pb (t ++ [x]) v + 1 = pb (x :: t) v) := by
    intro v hv
    obtain ⟨a, b, c, e, ha, hb, hc⟩ := split_two (h.two v hv)
    have hl := h.len
    cases a with
    | nil =>
      simp only [List.nil_append, List.cons.injEq] at e
      obtain ⟨rfl, rfl⟩ := e
      left
      obtain ⟨p1, p2, _⟩ := places (a := []) (b := b) (c := c) (v := x) (by simp) hb hc
      obtain ⟨q1, q2, _⟩ := places (a := b) (b := c) (c := []) (v := x) hb hc (by simp)
      simp only [List.nil_append] at p1 p2
      have e2 : b ++ x :: c ++ [x] = b ++ x :: (c ++ x :: []) := by simp
      rw [e2]
      simp at hl
      refine ⟨rfl, p1, ?_, ?_⟩
      · rw [q2]; omega
      · rw [q1, p2]; simp; omega
    | cons y a =>
      simp only [List.cons_append, List.cons.injEq] at e
      obtain ⟨rfl, rfl⟩ := e
      right
      have hne : v ≠ x := fun z => ha (by rw [z]; exact List.mem_cons_self)
      have ha2 : v ∉ a := fun m => ha (List.mem_cons_of_mem _ m)
      obtain ⟨p1, p2, _⟩ := places ha hb hc
      obtain ⟨q1, q2, _⟩ := places (a := a) (b := b) (c := c ++ [x]) (v := v) ha2 hb (by simp [hc, hne])
      have e2 : a ++ v :: (b ++ v :: c) ++ [x] = a ++ v :: (b ++ v :: (c ++ [x])) := by simp
      rw [e2]
      simp only [List.cons_append, List.length_cons] at p1 p2
      refine ⟨hne, ?_, ?_⟩
      · rw [q1, p1]
      · rw [q2, p2]; omega
  obtain ⟨_, a1, a2, _⟩ := h.pp hv
  obtain ⟨_, b1, b2, _⟩ := h.pp hu
  obtain ⟨_, c1, c2, _⟩ := h'.pp hv
  obtain ⟨_, d1, d2, _⟩ := h'.pp hu
  rw [il_of, il_of, decide_eq_decide]
  by_cases e : u = v
  · subst e; simp
  · obtain ⟨f1, f2, f3, f4⟩ := apart h hv hu e
    rcases key v hv with ⟨k1, k2, k3, k4⟩ | ⟨k1, k2, k3⟩ <;> rcases key u hu with ⟨l1, l2, l3, l4⟩ | ⟨l1, l2, l3⟩
    · omega
    · simp only [ne_eq, e, not_false_eq_true, true_and]; omega
    · simp only [ne_eq, e, not_false_eq_true, true_and]; omega
    · simp only [ne_eq, e, not_false_eq_true, true_and]; omega
theorem rot {w : List Nat} {n : Nat} (h : DW w n) : ∀ p, DW (w.drop p ++ w.take p) n ∧ SameI w (w.drop p ++ w.take p) n
  | 0 => by simpa [SameI] using h
  | p + 1 => by
    obtain ⟨h1, h2⟩ := rot h p
    by_cases hp : p < w.length
    · have e : w.drop p ++ w.take p = w[p] :: (w.drop (p + 1) ++ w.take p) := by rw [List.drop_eq_getElem_cons hp]; rfl
      have e2 : w.drop (p + 1) ++ w.take (p + 1) = (w.drop (p + 1) ++ w.take p) ++ [w[p]] := by
        rw [List.take_succ, List.getElem?_eq_getElem hp]; simp
      rw [e] at h1 h2
      obtain ⟨r1, r2⟩ := rot_one h1
      rw [e2]
      exact ⟨r1, h2.trans r2⟩
    · rw [List.drop_eq_nil_of_le (by omega), List.take_of_length_le (by omega)]
      rw [List.drop_eq_nil_of_le (by omega), List.take_of_length_le (by omega)] at h1 h2
      exact ⟨h1, h2⟩
theorem rev_same {w : List Nat} {n : Nat} (h : DW w n) : DW w.reverse n ∧ SameI w w.reverse n := by
  have h' : DW w.reverse n := h.perm (List.reverse_perm w)
  refine ⟨h', fun v u hv hu => ?_⟩
  have key : ∀ v, v < n → pa w.reverse v + pb w v + 1 = 2 * n ∧ pb w.reverse v + pa w v + 1 = 2 * n := by
    intro v hv
    obtain ⟨a, b, c, e, ha, hb, hc⟩ := split_two (h.two v hv)
    have hl := h.len
    subst e
    obtain ⟨p1, p2, _⟩ := places ha hb hc
    obtain ⟨q1, q2, _⟩ := places (a := c.reverse) (b := b.reverse) (c := a.reverse) (v := v) (by simpa using hc) (by simpa using hb) (by simpa using ha)
    have e2 : (a ++ v :: (b ++ v :: c)).reverse = c.reverse ++ v :: (b.reverse ++ v :: a.reverse) := by simp
    rw [e2]
    simp at hl q1 q2
    refine ⟨?_, ?_⟩
    · rw [q1, p2]; omega
    · rw [q2, p1]; omega
  obtain ⟨k1, k2⟩ := key v hv
  obtain ⟨l1, l2⟩ := key u hu
  obtain ⟨_, a1, a2, _⟩ := h.pp hv
  obtain ⟨_, b1, b2, _⟩ := h.pp hu
  rw [il_of, il_of, decide_eq_decide]
  constructor
  · rintro ⟨z, y⟩; exact ⟨z, by omega⟩
  · rintro ⟨z, y⟩; exact ⟨z, by omega⟩
theorem reading_same {w : List Nat} {n : Nat} (h : DW w n) (p t : Nat) : DW (reading w p t) n ∧ SameI w (reading w p t) n := by
  obtain ⟨h1, h2⟩ := rot h p
  unfold reading
  simp only
  by_cases ht : t = 0
  · rw [if_pos ht]; exact ⟨h1, h2⟩
  · rw [if_neg ht]
    generalize w.drop p ++ w.take p = row at h1 h2
    cases row with
    | nil => exact ⟨h1, h2⟩
    | cons x r =>
      obtain ⟨r1, r2⟩ := rot_one h1
      obtain ⟨s1, s2⟩ := rev_same r1
      have e : (x :: r).take 1 ++ ((x :: r).drop 1).reverse = (r ++ [x]).reverse := by simp
      rw [e]
      exact ⟨s1, (h2.trans r2).trans s2⟩
/-! ## words of blocks are even -/
def Even2 (w : List Nat) (n : Nat) : Prop := (∀ v, v < n → (itl w n v).length % 2 = 0) ∧ ∀ v u, v < n → u < n → v ≠ u → oddP (itl w n) v u = false
theorem Even2.odds {w : List Nat} {n : Nat} (h : Even2 w n) : odds w n = [] ∧ oddPs w n = [] := by
  refine ⟨List.filter_eq_nil_iff.mpr fun v hv => ?_, List.filter_eq_nil_iff.mpr fun q hq => ?_⟩
  · have := h.1 v (List.mem_range.mp hv)
    simp; omega
  · obtain ⟨h1, h2⟩ := prs_mem.mp hq
    rw [h.2 q.1 q.2 (by omega) h2 (by omega)]; simp
theorem Even2.same {w w' : List Nat} {n : Nat} (h : Even2 w n) (s : SameI w w' n) : Even2 w' n := by
  refine ⟨fun v hv => by rw [s.itl hv]; exact h.1 v hv, fun v u hv hu hne => ?_⟩
  have := h.2 v u hv hu hne
  unfold oddP common at this ⊢
  rw [s.itl hv, s.itl hu]
  exact this
theorem blocks_even : ∀ B ∈ blocks, Even2 B (B.length / 2) := fun B hB => by
  have h : ∀ B ∈ blocks, (∀ v, v < B.length / 2 → (itl B (B.length / 2) v).length % 2 = 0) ∧ ∀ v, v < B.length / 2 → ∀ u, u < B.length / 2 → v ≠ u → oddP (itl B (B.length / 2)) v u = false := by decide +kernel
  exact ⟨(h B hB).1, fun v u hv hu => (h B hB).2 v hv u hu⟩
theorem mono (a L x y : Nat) : ((if x < a then x else x + L) < (if y < a then y else y + L)) ↔ x < y := by split <;> split <;> omega
theorem monoL (a x : Nat) {L y : Nat} (h : y < L) : ((if x < a then x else x + L) < a + y ↔ x < a) ∧ (a + y < (if x < a then x else x + L) ↔ ¬ x < a) := by split <;> omega
theorem block_dw {B : List Nat} (h : B ∈ blocks) : DW B (B.length / 2) := by
  obtain ⟨b1, b2, b3⟩ := blocks_ok B h
  refine ⟨by omega, blocks_lt B h, blocks_cnt B h, by omega⟩
theorem pos_mem {w : List Nat} {v p : Nat} (h : p ∈ pos w v) : p < w.length ∧ w[p]? = some v := by
  unfold pos posTo at h
  rw [List.mem_filter, List.mem_range, decide_eq_true_eq] at h
  exact h
theorem pos_shift (B : List Nat) (m v : Nat) : pos (B.map fun x => x + m) (v + m) = pos B v := by
  unfold pos posTo
  rw [List.length_map]
  refine List.filter_congr fun p _ => ?_
  rw [List.getElem?_map]
  cases B[p]? with
  | none => simp
  | some x => simp
section
variable {w B : List Nat} {m b a : Nat}
theorem put_old (hw : DW w m) (hB : DW B b) (ha : a ≤ w.length) (hw' : DW (putW w a B) (m + b)) {v : Nat} (hv : v < m) :
    pa (putW w a B) v = (if pa w v < a then pa w v else pa w v + B.length) ∧ pb (putW w a B) v = (if pb w v < a then pb w v else pb w v + B.length) := by
  have hm : w.length / 2 = m := by have := hw.len; omega
  have h1 : pos (putW w a B) v = (pos w v).map fun x => if x < a then x else x + B.length := by
    have e1 : pos w v = pos (w.take a) v ++ (pos (w.drop a) v).map (a + ·) := by
      have := pos_app (w.take a) (w.drop a) v
      rw [List.take_append_drop, List.length_take, Nat.min_eq_left ha] at this
      exact this
    have e0 : pos (B.map fun x => x + w.length / 2) v = [] := pos_none fun hx => by
      obtain ⟨y, _, hy⟩ := List.mem_map.mp hx
      omega
    unfold putW
    rw [pos_app, pos_app, e0, List.map_nil, List.append_nil, e1, List.map_append]
    congr 1
    · rw [List.map_congr_left (g := id) fun x hx => ?_, List.map_id]
      have := (pos_mem hx).1
      rw [List.length_take] at this
      rw [if_pos (by omega)]; rfl
    · rw [List.map_map]
      refine List.map_congr_left fun x _ => ?_
      simp only [Function.comp, List.length_append, List.length_take, List.length_map]
      rw [if_neg (by omega)]
      omega
  rw [(hw.pp hv).1, (hw'.pp (show v < m + b by omega)).1] at h1
  simp only [List.map_cons, List.map_nil, List.cons.injEq, and_true] at h1
  exact h1
theorem put_new (hw : DW w m) (hB : DW B b) (ha : a ≤ w.length) (hw' : DW (putW w a B) (m + b)) {v : Nat} (hv : v < b) :
    pa (putW w a B) (v + m) = a + pa B v ∧ pb (putW w a B) (v + m) = a + pb B v := by
  have hm : w.length / 2 = m := by have := hw.len; omega
  have h1 : pos (putW w a B) (v + m) = (pos B v).map (a + ·) := by
    unfold putW
    have e1 : pos (w.take a) (v + m) = [] := pos_none fun hx => by have := hw.lt _ (List.mem_of_mem_take hx); omega
    have e2 : pos (w.drop a) (v + m) = [] := pos_none fun hx => by have := hw.lt _ (List.mem_of_mem_drop hx); omega
    rw [pos_app, pos_app, e1, e2, hm, pos_shift, List.length_take, Nat.min_eq_left ha]
    simp
  rw [(hB.pp hv).1, (hw'.pp (show v + m < m + b by omega)).1] at h1
  simp only [List.map_cons, List.map_nil, List.cons.injEq, and_true] at h1
  exact h1
theorem put_even (hw : DW w m) (hB : DW B b) (ha : a ≤ w.length) (hw' : DW (putW w a B) (m + b)) (ew : Even2 w m) (eB : Even2 B b) : Even2 (putW w a B) (m + b) := by
  have oo : ∀ v u, v < m → u < m → il (putW w a B) v u = il w v u := fun v u hv hu => by
    obtain ⟨h1, h2⟩ := put_old hw hB ha hw' hv
    obtain ⟨h3, h4⟩ := put_old hw hB ha hw' hu
    rw [il_of, il_of, h1, h2, h3, h4]
    simp only [mono]
  have nw : ∀ v u, v < b → u < b → il (putW w a B) (v + m) (u + m) = il B v u := fun v u hv hu => by
    obtain ⟨h1, h2⟩ := put_new hw hB ha hw' hv
    obtain ⟨h3, h4⟩ := put_new hw hB ha hw' hu
    rw [il_of, il_of, h1, h2, h3, h4, decide_eq_decide]
    constructor
    · rintro ⟨z, y⟩; exact ⟨by omega, by omega⟩
    · rintro ⟨z, y⟩; exact ⟨by omega, by omega⟩
  have on : ∀ v u, v < m → u < b → il (putW w a B) v (u + m) = false := fun v u hv hu => by
    obtain ⟨h1, h2⟩ := put_old hw hB ha hw' hv
    obtain ⟨h3, h4⟩ := put_new hw hB ha hw' hu
    obtain ⟨_, c1, c2, _⟩ := hB.pp hu
    have hl := hB.len
    rw [il_of, h1, h2, h3, h4, decide_eq_false_iff_not]
    obtain ⟨f1, f2⟩ := monoL a (pa w v) (L := B.length) (y := pa B u) (by omega)
    obtain ⟨f3, f4⟩ := monoL a (pa w v) (L := B.length) (y := pb B u) (by omega)
    obtain ⟨f5, f6⟩ := monoL a (pb w v) (L := B.length) (y := pa B u) (by omega)
    obtain ⟨f7, f8⟩ := monoL a (pb w v) (L := B.length) (y := pb B u) (by omega)
    rintro ⟨z, y⟩
    rw [f1, f6, f7, f2, f3, f8] at y
    omega
  have no : ∀ v u, v < b → u < m → il (putW w a B) (v + m) u = false := fun v u hv hu => by rw [il_sym]; exact on u v hu hv
  have split : ∀ q : Nat → Bool, ((List.range (m + b)).filter q).length = ((List.range m).filter q).length + ((List.range b).filter fun x => q (x + m)).length := fun q => by
    rw [List.range_add, List.filter_append, List.length_append, List.filter_map, List.length_map]
    congr 2
    refine List.filter_congr fun x _ => ?_
    simp only [Function.comp]
    rw [Nat.add_comm]
  have none1 : ∀ (l : List Nat) (q : Nat → Bool), (∀ x ∈ l, q x = false) → (l.filter q).length = 0 := fun l q h => by
    rw [List.length_eq_zero_iff, List.filter_eq_nil_iff]
    intro x hx; rw [h x hx]; simp
  have same1 : ∀ (l : List Nat) (q r : Nat → Bool), (∀ x ∈ l, q x = r x) → (l.filter q).length = (l.filter r).length := fun l q r h => by rw [List.filter_congr h]
  have com : ∀ (w : List Nat) (n v u : Nat), common (itl w n) v u = ((List.range n).filter fun x => il w v x && il w u x).length := fun w n v u => common_eq (il w) n v u
  refine ⟨fun v hv => ?_, fun v u hv hu hne => ?_⟩
  · rw [itl_eq, split]
    by_cases h : v < m
    · rw [same1 (List.range m) _ (il w v) fun x hx => oo v x h (List.mem_range.mp hx), none1 (List.range b) _ fun x hx => on v x h (List.mem_range.mp hx)]
      have := ew.1 v h
      rw [itl_eq] at this
      omega
    · obtain ⟨y, rfl⟩ : ∃ y, v = y + m := ⟨v - m, by omega⟩
      have hy : y < b := by omega
      rw [none1 (List.range m) _ fun x hx => no y x hy (List.mem_range.mp hx), same1 (List.range b) _ (il B y) fun x hx => nw y x hy (List.mem_range.mp hx)]
      have := eB.1 y hy
      rw [itl_eq] at this
      omega
  · have mem : ∀ (w : List Nat) (n v u : Nat), u < n → (u ∈ itl w n v ↔ il w v u = true) := fun w n v u hu => by
      rw [itl_eq, List.mem_filter, List.mem_range]
      exact ⟨fun h => h.2, fun h => ⟨hu, h⟩⟩
    have form : ∀ (w : List Nat) (n v u : Nat), u < n → oddP (itl w n) v u = (!il w v u && decide (((List.range n).filter fun x => il w v x && il w u x).length % 2 = 1)) := fun w n v u hu => by
      unfold oddP
      rw [com]
      congr 1
      cases q : il w v u with
      | true => simp [mem w n v u hu, q]
      | false => simp [mem w n v u hu, q]
    rw [form _ _ _ _ hu, split]
    by_cases h1 : v < m <;> by_cases h2 : u < m
    · rw [same1 (List.range m) _ (fun x => il w v x && il w u x) fun x hx => by rw [oo v x h1 (List.mem_range.mp hx), oo u x h2 (List.mem_range.mp hx)],
        none1 (List.range b) _ fun x hx => by rw [on v x h1 (List.mem_range.mp hx)]; rfl, oo v u h1 h2, Nat.add_zero, ← form w m v u h2]
      exact ew.2 v u h1 h2 hne
    · obtain ⟨y, rfl⟩ : ∃ y, u = y + m := ⟨u - m, by omega⟩
      have hy : y < b := by omega
      rw [none1 (List.range m) _ fun x hx => by rw [no y x hy (List.mem_range.mp hx)]; simp, none1 (List.range b) _ fun x hx => by rw [on v x h1 (List.mem_range.mp hx)]; rfl]
      simp
    · obtain ⟨y, rfl⟩ : ∃ y, v = y + m := ⟨v - m, by omega⟩
      have hy : y < b := by omega
      rw [none1 (List.range m) _ fun x hx => by rw [no y x hy (List.mem_range.mp hx)]; rfl, none1 (List.range b) _ fun x hx => by rw [on u x h2 (List.mem_range.mp hx)]; simp]
      simp
    · obtain ⟨y, rfl⟩ : ∃ y, v = y + m := ⟨v - m, by omega⟩
      obtain ⟨z, rfl⟩ : ∃ z, u = z + m := ⟨u - m, by omega⟩
      have hy : y < b := by omega
      have hz : z < b := by omega
      rw [none1 (List.range m) _ fun x hx => by rw [no y x hy (List.mem_range.mp hx)]; rfl,
        same1 (List.range b) _ (fun x => il B y x && il B z x) fun x hx => by rw [nw y x hy (List.mem_range.mp hx), nw z x hz (List.mem_range.mp hx)], nw y z hy hz, Nat.zero_add, ← form B b y z hz]
      exact eB.2 y z hy hz (by omega)
end
theorem Built.even {w : List Nat} (h : Built w) : ∀ n, w.length = 2 * n → n ≤ 100 → Even2 w n := by
  induction h with
  | nil =>
    intro n hn _
    have : n = 0 := by simp at hn; omega
    subst this
    exact ⟨fun v hv => by omega, fun v u hv => by omega⟩
  | put h1 h2 h3 h4 ih =>
    rename_i w B a b
    intro n hn hs
    obtain ⟨b1, b2, b3⟩ := blocks_ok B h3
    have hl : (B.drop b ++ B.take b).length = B.length := by simp; omega
    have hn2 := hn
    rw [putW_len, hl] at hn2
    have e1 := h1.lt.1
    obtain ⟨r1, r2⟩ := rot (block_dw h3) b
    have hw : DW w (w.length / 2) := h1.dw (by omega) (by omega)
    have hd : DW (putW w a (B.drop b ++ B.take b)) (w.length / 2 + B.length / 2) := (Built.put h1 h2 h3 h4).dw (by rw [putW_len, hl]; omega) (by omega)
    have := put_even hw r1 h2 hd (ih _ (by omega) (by omega)) ((blocks_even B h3).same r2)
    rw [show n = w.length / 2 + B.length / 2 by omega]
    exact this
/-! ## other names -/
section
variable {w names : List Nat} {n : Nat}
abbrev sg (names : List Nat) (v : Nat) : Nat := names.getD v 0
theorem names_map (h : names.Perm (List.range n)) : names = (List.range n).map (sg names) := by
  obtain ⟨h1, _, _, _⟩ := names_ok h
  refine List.ext_getElem (by simp [h1]) fun i hi _ => ?_
  rw [List.getElem_map, List.getElem_range, sg, getD_at hi]
theorem filter_perm (h : names.Perm (List.range n)) (q : Nat → Bool) : ((List.range n).filter q).Perm (((List.range n).filter fun v => q (sg names v)).map (sg names)) := by
  have e : ((List.range n).map (sg names)).filter q = ((List.range n).filter fun v => q (sg names v)).map (sg names) := by
    rw [List.filter_map]; rfl
  rw [← e, ← names_map h]
  exact (h.filter q).symm
theorem filter_len (h : names.Perm (List.range n)) (q : Nat → Bool) : ((List.range n).filter q).length = ((List.range n).filter fun v => q (sg names v)).length := by
  rw [(filter_perm h q).length_eq, List.length_map]
theorem pos_ren (h : DW w n) (hp : names.Perm (List.range n)) {v : Nat} (hv : v < n) : pos (ren2 names w) (sg names v) = pos w v := by
  unfold pos posTo ren2
  rw [List.length_map]
  refine List.filter_congr fun p hp2 => ?_
  rw [List.mem_range] at hp2
  rw [List.getElem?_map, List.getElem?_eq_getElem hp2, decide_eq_decide]
  constructor
  · intro e
    have := getD_inj hp (h.lt _ (List.getElem_mem hp2)) hv (Option.some.inj e)
    rw [this]
  · intro e
    rw [Option.some.inj e]; rfl
theorem ren_il (h : DW w n) (hp : names.Perm (List.range n)) {v u : Nat} (hv : v < n) (hu : u < n) : il (ren2 names w) (sg names v) (sg names u) = il w v u := by
  have h' := h.ren hp
  have e1 := pos_ren h hp hv
  have e2 := pos_ren h hp hu
  rw [(h.pp hv).1, (h'.pp (getD_lt hp hv)).1] at e1
  rw [(h.pp hu).1, (h'.pp (getD_lt hp hu)).1] at e2
  simp only [List.cons.injEq, and_true] at e1 e2
  rw [il_of, il_of, e1.1, e1.2, e2.1, e2.2, decide_eq_decide]
  constructor
  · rintro ⟨z, y⟩; exact ⟨fun e => z (by rw [e]), y⟩
  · rintro ⟨z, y⟩; exact ⟨fun e => z (getD_inj hp hu hv e), y⟩
theorem oddP_form (w : List Nat) {n v u : Nat} (hu : u < n) : oddP (itl w n) v u = (!il w v u && decide (((List.range n).filter fun x => il w v x && il w u x).length % 2 = 1)) := by
  have mem : u ∈ itl w n v ↔ il w v u = true := by
    rw [itl_eq, List.mem_filter, List.mem_range]
    exact ⟨fun h => h.2, fun h => ⟨hu, h⟩⟩
  unfold oddP
  rw [show common (itl w n) v u = _ from common_eq (il w) n v u]
  congr 1
  cases q : il w v u with
  | true => simp [mem, q]
  | false => simp [mem, q]
theorem filter_len2 (h : names.Perm (List.range n)) {q r : Nat → Bool} (hq : ∀ v, v < n → q (sg names v) = r v) : ((List.range n).filter q).length = ((List.range n).filter r).length := by
  rw [filter_len h q, List.filter_congr fun v hv => hq v (List.mem_range.mp hv)]
theorem ren_oddP (h : DW w n) (hp : names.Perm (List.range n)) {v u : Nat} (hv : v < n) (hu : u < n) : oddP (itl (ren2 names w) n) (sg names v) (sg names u) = oddP (itl w n) v u := by
  rw [oddP_form _ (getD_lt hp hu), oddP_form _ hu, ren_il h hp hv hu, filter_len2 hp fun x hx => by rw [ren_il h hp hv hx, ren_il h hp hu hx]]
theorem ren_odd (h : DW w n) (hp : names.Perm (List.range n)) {v : Nat} (hv : v < n) : (itl (ren2 names w) n (sg names v)).length = (itl w n v).length := by
  rw [itl_eq, itl_eq, filter_len2 hp fun x hx => ren_il h hp hv hx]
theorem ren_even (h : DW w n) (hp : names.Perm (List.range n)) (e : Even2 w n) : Even2 (ren2 names w) n := by
  refine ⟨fun x hx => ?_, fun x y hx hy hne => ?_⟩
  · obtain ⟨v, hv, rfl⟩ := surj hp hx
    rw [ren_odd h hp hv]; exact e.1 v hv
  · obtain ⟨v, hv, rfl⟩ := surj hp hx
    obtain ⟨u, hu, rfl⟩ := surj hp hy
    rw [ren_oddP h hp hv hu]
    exact e.2 v u hv hu fun z => hne (by rw [z])
theorem Drawn.even {u : List Nat} (h : Drawn n u) (hs : n ≤ 100) : Even2 u n := by
  obtain ⟨w, names, h1, h2, h3, _, rfl⟩ := h
  exact ren_even (h1.dw h2 hs) h3 (h1.even n h2 hs)
/-! what is due -/
theorem due_odds (h : DW w n) (hp : names.Perm (List.range n)) : isortI (((odds w n).map (sg names)).map fun (x : Nat) => (x : Int)) = (odds (ren2 names w) n).map fun (x : Nat) => (x : Int) := by
  refine sorted_one (le := (· ≤ ·)) (fun x y => Int.le_antisymm) (isortI_sorted _) ?_ ((isortI_perm _).trans (List.Perm.map _ ?_))
  · refine List.Pairwise.map _ (fun a b h => ?_) (List.Pairwise.filter _ List.pairwise_lt_range)
    · exact Int.ofNat_le.mpr (Nat.le_of_lt h)
  · refine List.Perm.symm ?_
    have := filter_perm hp fun x => decide ((itl (ren2 names w) n x).length % 2 = 1)
    refine this.trans (List.Perm.of_eq ?_)
    congr 1
    refine List.filter_congr fun v hv => ?_
    rw [ren_odd h hp (List.mem_range.mp hv)]
/-- a pair, the lesser first -/
def tau (names : List Nat) (q : Nat × Nat) : Nat × Nat := (min (sg names q.1) (sg names q.2), max (sg names q.1) (sg names q.2))
abbrev pI (q : Nat × Nat) : List Int := [(q.1 : Int), (q.2 : Int)]
theorem oddP_sym (w : List Nat) {n v u : Nat} (hv : v < n) (hu : u < n) : oddP (itl w n) v u = oddP (itl w n) u v := by
  have e : (List.range n).filter (fun x => il w v x && il w u x) = (List.range n).filter fun x => il w u x && il w v x := List.filter_congr fun x _ => Bool.and_comm _ _
  rw [oddP_form _ hu, oddP_form _ hv, il_sym w v u, e]
theorem prs_nodup (n : Nat) : (prs n).Pairwise fun q r => q.1 < r.1 ∨ q.1 = r.1 ∧ q.2 < r.2 := by
  have key : ∀ p, (prsTo n p).Pairwise fun q r => q.1 < r.1 ∨ q.1 = r.1 ∧ q.2 < r.2 := by
    intro p
    induction p with
    | zero => simp [prsTo]
    | succ p ih =>
      rw [prsTo_succ, List.pairwise_append]
      refine ⟨ih, ?_, fun q hq r hr => ?_⟩
      · refine List.Pairwise.map _ (fun a b h => .inr ⟨rfl, h⟩) List.pairwise_lt_range'
      · obtain ⟨u, _, rfl⟩ := List.mem_map.mp hr
        unfold prsTo at hq
        obtain ⟨v, hv, hq2⟩ := List.mem_flatMap.mp hq
        obtain ⟨x, _, rfl⟩ := List.mem_map.mp hq2
        exact .inl (List.mem_range.mp hv)
  exact key n
theorem due_pairs (h : DW w n) (hp : names.Perm (List.range n)) : isortT (((oddPs w n).map (tau names)).map pI) = (oddPs (ren2 names w) n).map pI := by
  have hle : ∀ x y : List Int, x ≤ y → y ≤ x → x = y := fun x y => List.le_antisymm
  refine sorted_one (le := (· ≤ ·)) hle (isortT_sorted _) ?_ ((isortT_perm _).trans (List.Perm.map _ ?_))
  · refine List.Pairwise.map _ (fun a b h => ?_) (List.Pairwise.filter _ (prs_nodup n))
    rw [← lexLe_iff]
    rcases h with h | ⟨h1, h2⟩
    · have e : ¬ ((a.1 : Int) = b.1) := by omega
      simp [lexLe, e]; omega
    · have e : ((a.1 : Int) = b.1) := by omega
      have e2 : ¬ ((a.2 : Int) = b.2) := by omega
      simp [lexLe, e, e2]; omega
  · have nd : ∀ l : List (Nat × Nat), (l.Pairwise fun q r => q.1 < r.1 ∨ q.1 = r.1 ∧ q.2 < r.2) → l.Nodup := fun l h => h.imp fun {a b} z e => by
      subst e; omega
    have n2 : (oddPs (ren2 names w) n).Nodup := (nd _ (prs_nodup n)).filter _
    have n1 : ((oddPs w n).map (tau names)).Nodup := by
      refine (List.pairwise_map).mpr ?_
      refine List.Pairwise.imp_of_mem (fun {a b} ha hb hne e => ?_) ((nd _ (prs_nodup n)).filter _)
      obtain ⟨a1, a2⟩ := prs_mem.mp (List.mem_filter.mp ha).1
      obtain ⟨b1, b2⟩ := prs_mem.mp (List.mem_filter.mp hb).1
      unfold tau at e
      simp only [Prod.mk.injEq] at e
      have i1 : sg names a.1 = sg names b.1 → a.1 = b.1 := getD_inj hp (by omega) (by omega)
      have i2 : sg names a.1 = sg names b.2 → a.1 = b.2 := getD_inj hp (by omega) (by omega)
      have i3 : sg names a.2 = sg names b.1 → a.2 = b.1 := getD_inj hp (by omega) (by omega)
      have i4 : sg names a.2 = sg names b.2 → a.2 = b.2 := getD_inj hp (by omega) (by omega)
      have : (sg names a.1 = sg names b.1 ∧ sg names a.2 = sg names b.2) ∨ (sg names a.1 = sg names b.2 ∧ sg names a.2 = sg names b.1) := by omega
      rcases this with ⟨z1, z2⟩ | ⟨z1, z2⟩
      · exact hne (Prod.ext (i1 z1) (i4 z2))
      · have := i2 z1; have := i3 z2; omega
    refine (List.perm_ext_iff_of_nodup n1 n2).mpr fun q => ?_
    constructor
    · intro hq
      obtain ⟨r, hr, rfl⟩ := List.mem_map.mp hq
      obtain ⟨r1, r2⟩ := List.mem_filter.mp hr
      obtain ⟨r3, r4⟩ := prs_mem.mp r1
      have hne : sg names r.1 ≠ sg names r.2 := fun e => by have := getD_inj hp (show r.1 < n by omega) r4 e; omega
      have l1 : sg names r.1 < n := getD_lt hp (show r.1 < n by omega)
      have l2 : sg names r.2 < n := getD_lt hp r4
      have e0 := ren_oddP h hp (show r.1 < n by omega) r4
      rw [r2] at e0
      refine List.mem_filter.mpr ⟨prs_mem.mpr ⟨by unfold tau; simp only; omega, by unfold tau; simp only; omega⟩, ?_⟩
      unfold tau
      simp only
      by_cases c : sg names r.1 ≤ sg names r.2
      · rw [Nat.min_eq_left c, Nat.max_eq_right c]; exact e0
      · rw [Nat.min_eq_right (by omega), Nat.max_eq_left (by omega), oddP_sym _ l2 l1]; exact e0
    · intro hq
      obtain ⟨q1, q2⟩ := List.mem_filter.mp hq
      obtain ⟨q3, q4⟩ := prs_mem.mp q1
      obtain ⟨v, hv, e1⟩ := surj hp (show q.1 < n by omega)
      obtain ⟨u, hu, e2⟩ := surj hp q4
      have hvu : v ≠ u := fun z => by rw [z, e2] at e1; omega
      have e0 := ren_oddP h hp hv hu
      rw [show sg names v = q.1 from e1, show sg names u = q.2 from e2, q2] at e0
      by_cases c : v < u
      · refine List.mem_map.mpr ⟨(v, u), List.mem_filter.mpr ⟨prs_mem.mpr ⟨c, hu⟩, e0.symm⟩, ?_⟩
        unfold tau
        simp only [sg, e1, e2]
        exact Prod.ext (by simp only; omega) (by simp only; omega)
      · refine List.mem_map.mpr ⟨(u, v), List.mem_filter.mpr ⟨prs_mem.mpr ⟨by simp only; omega, hv⟩, by rw [oddP_sym _ hu hv]; exact e0.symm⟩, ?_⟩
        unfold tau
        simp only [sg, e1, e2]
        exact Prod.ext (by simp only; omega) (by simp only; omega)
end
theorem nice_wd {l : List Nat} (h : l.length ≤ 1000) : (wd l).nice = true := by
  simp only [D.nice, Bool.and_eq_true, decide_eq_true_eq, List.length_map]
  exact ⟨nices_all.mpr fun d hd => by obtain ⟨x, _, rfl⟩ := List.mem_map.mp hd; rfl, h⟩
theorem deps_map {α : Type} {e : α → D} {m : Nat} (h : ∀ x, (e x).dep ≤ m) : ∀ l : List α, deps (l.map e) ≤ m
  | [] => Nat.zero_le _
  | x :: l => by
    simp only [List.map_cons, deps]
    exact Nat.max_le.mpr ⟨h x, deps_map h l⟩
theorem dep_wd (l : List Nat) : (wd l).dep ≤ 1 := by
  simp only [D.dep]
  exact Nat.succ_le_succ (deps_map (e := dn) (m := 0) (fun _ => Nat.le_refl 0) l)
theorem nice_prs {l : List (Nat × Nat)} (h : l.length ≤ 1000) : (prsD l).nice = true := by
  simp only [D.nice, Bool.and_eq_true, decide_eq_true_eq, List.length_map]
  exact ⟨nices_all.mpr fun d hd => by obtain ⟨x, _, rfl⟩ := List.mem_map.mp hd; exact nice_wd (by simp), h⟩
theorem dep_prs (l : List (Nat × Nat)) : (prsD l).dep ≤ 2 := by
  simp only [D.dep]
  exact Nat.succ_le_succ (deps_map (fun _ => dep_wd _) l)
theorem so_nats (l : List Nat) : sortedD (l.map dn) = some ((isortI (l.map fun (x : Nat) => (x : Int))).map D.int) := by
  unfold sortedD
  rw [ti_nats]
theorem so_two (a b : Nat) : sortedD [dn a, dn b] = some [dn (min a b), dn (max a b)] := by
  have := so_nats [a, b]
  simp only [List.map_cons, List.map_nil] at this
  rw [this]
  simp only [isortI, insI]
  by_cases h : a ≤ b
  · rw [if_pos (by omega), Nat.min_eq_left h, Nat.max_eq_right h]; rfl
  · rw [if_neg (by omega), Nat.min_eq_right (by omega), Nat.max_eq_left (by omega)]; rfl
theorem rows_prs : ∀ l : List (Nat × Nat), toRows (l.map prD) = some (l.map pI)
  | [] => rfl
  | q :: l => by
    have ih := rows_prs l
    simp only [List.map_cons, List.map_nil, toRows, toInts, Option.map_some, ih]
theorem so_prs (l : List (Nat × Nat)) : sortedD (l.map prD) = some ((isortT (l.map pI)).map tupI) := by
  cases l with
  | nil => rfl
  | cons q l =>
    have := rows_prs (q :: l)
    unfold sortedD
    rw [this]
    rfl
section
variable {w : List Nat} {n : Nat}
def gz (w : List Nat) (v : Nat) : Bool := decide (((pb w v : Int) - (pa w v : Int)) % 2 = 1)
theorem gauss_eq (h : DW w n) : ((List.range n).all fun v => decide ((btw w v).length % 2 = 0)) = (List.range n).all (gz w) ∧ (List.range n).all (gz w) = decide (odds w n = []) := by
  have e : ∀ v, v < n → decide ((btw w v).length % 2 = 0) = gz w v := fun v hv => by
    obtain ⟨_, h1, h2, _⟩ := h.pp hv
    have hl := h.len
    unfold gz btw
    rw [decide_eq_decide, List.length_take, List.length_drop]
    omega
  have e1 : ((List.range n).all fun v => decide ((btw w v).length % 2 = 0)) = (List.range n).all (gz w) := by
    rw [Bool.eq_iff_iff, List.all_eq_true, List.all_eq_true]
    constructor
    · intro z v hv; rw [← e v (List.mem_range.mp hv)]; exact z v hv
    · intro z v hv; rw [e v (List.mem_range.mp hv)]; exact z v hv
  refine ⟨e1, ?_⟩
  rw [← e1, Bool.eq_iff_iff, List.all_eq_true, decide_eq_true_eq, odds, oddBy, List.filter_eq_nil_iff]
  constructor
  · intro z v hv
    have := z v hv
    rw [decide_eq_true_eq] at this ⊢
    rw [btw_par h (List.mem_range.mp hv)] at this
    omega
  · intro z v hv
    have := z v hv
    rw [decide_eq_true_eq] at this ⊢
    rw [btw_par h (List.mem_range.mp hv)]
    omega
def gaussB : Sts := match f__law_is_told.body with
  | .cons _ (.cons _ (.cons _ (.cons (.for_ _ _ b) _))) => b
  | _ => .nil
theorem gauss_go (k : Nat) (h : DW w n) (S : Sto) (x2 x3 : Option D) : ∃ (y6 y7 y5 : Option D), loopL (forB (callAt G (k+1)) (.one 5) gaussB) ((List.range n).map dn) [some (.ref 0), some (wd w), x2, x3, some (.bl true), none, none, none, none, none, none, none] S =
    some (.nx, [some (.ref 0), some (wd w), x2, x3, some (.bl ((List.range n).all (gz w))), y5, y6, y7, none, none, none, none], S) := by
  obtain ⟨η', S', l1, y5, y6, y7, e1, e2⟩ := loop_range (f := forB (callAt G (k+1)) (.one 5) gaussB) (fun p η T => ∃ y5 y6 y7 : Option D, η = [some (.ref 0), some (wd w), x2, x3, some (.bl ((List.range p).all (gz w))), y5, y6, y7, none, none, none, none] ∧ T = S) (n := n)
    (η := [some (.ref 0), some (wd w), x2, x3, some (.bl true), none, none, none, none, none, none, none]) (S := S) ⟨none, none, none, rfl, rfl⟩ (fun p η T hp ⟨y5, y6, y7, e1, e2⟩ => by
      subst e1 e2
      refine ⟨[some (.ref 0), some (wd w), x2, x3, some (.bl ((List.range (p + 1)).all (gz w))), some (dn p), some (dn (pa w p)), some (dn (pb w p)), none, none, none, none], T, ?_, _, _, _, rfl, rfl⟩
      have hall : (List.range (p + 1)).all (gz w) = ((List.range p).all (gz w) && gz w p) := by
        rw [List.range_succ, List.all_append]; simp
      rw [hall]
      generalize (List.range p).all (gz w) = g
      cases g with
      | true => simp! [forB, gaussB, f__law_is_told, m_lpasses _ _ _ h hp, gz]
      | false => simp! [forB, gaussB, f__law_is_told, m_lpasses _ _ _ h hp])
  subst e1 e2
  exact ⟨y6, y7, y5, l1⟩
theorem odds_len (w : List Nat) (n : Nat) : (odds w n).length ≤ n := by
  have := List.length_filter_le (fun v => decide ((itl w n v).length % 2 = 1)) (List.range n)
  simp at this
  exact this
theorem oddPs_len (w : List Nat) {n : Nat} (h : n ≤ 30) : (oddPs w n).length ≤ 900 := by
  have h1 := List.length_filter_le (fun q : Nat × Nat => oddP (itl w n) q.1 q.2) (prs n)
  have h2 := prsTo_len n n
  have h3 : n * n ≤ 30 * 30 := Nat.mul_le_mul h h
  have h4 : (prs n).length = (prsTo n n).length := rfl
  have h5 : (oddPs w n).length = ((prs n).filter fun q : Nat × Nat => oddP (itl w n) q.1 q.2).length := rfl
  omega
theorem nice_two {w : List Nat} {n : Nat} (h : n ≤ 30) : (D.tup [wd (odds w n), prsD (oddPs w n)]).nice = true := by
  have := odds_len w n
  have := oddPs_len w h
  simp only [D.nice, nices, Bool.and_eq_true, decide_eq_true_eq]
  have h1 := nice_wd (l := odds w n) (by omega)
  have h2 := nice_prs (l := oddPs w n) (by omega)
  simp only [D.nice, Bool.and_eq_true, decide_eq_true_eq] at h1 h2
  exact ⟨⟨h1, h2, trivial⟩, by simp⟩
theorem dep_two (w : List Nat) (n : Nat) : (D.tup [wd (odds w n), prsD (oddPs w n)]).dep ≤ 6 := by
  have h1 := dep_wd (odds w n)
  have h2 := dep_prs (oddPs w n)
  simp only [D.dep, deps] at h1 h2 ⊢
  omega
theorem nice_three {w : List Nat} {n : Nat} (h : n ≤ 30) (b : Bool) : (D.tup [wd (odds w n), prsD (oddPs w n), .bl b]).nice = true := by
  have := odds_len w n
  have := oddPs_len w h
  simp only [D.nice, nices, Bool.and_eq_true, decide_eq_true_eq]
  have h1 := nice_wd (l := odds w n) (by omega)
  have h2 := nice_prs (l := oddPs w n) (by omega)
  simp only [D.nice, Bool.and_eq_true, decide_eq_true_eq] at h1 h2
  exact ⟨⟨h1, h2, trivial, trivial⟩, by simp⟩
theorem dep_three (w : List Nat) (n : Nat) (b : Bool) : (D.tup [wd (odds w n), prsD (oddPs w n), .bl b]).dep ≤ 6 := by
  have h1 := dep_wd (odds w n)
  have h2 := dep_prs (oddPs w n)
  simp only [D.dep, deps] at h1 h2 ⊢
  omega
def sn (names : List Nat) (v : Nat) : Nat := names.getD v 0
theorem m_is_told (k nn : Nat) (h : DW w n) (hn : n ≤ 30) {S : Sto} {r : Nat} {ds : List Nat} (hS : S[r]? = some (.lst (ds.map dn))) : ∃ ds' : List Nat, callM (callAt G (k+8)) c__law_is_told [.ref r, wd w] nn S = some (.bl true, S.set r (.lst (ds'.map dn))) := by
  suffices run : ∃ (ds' : List Nat) (S1 : Sto), callAt G (k+8) c__law_is_told [.ref 0, wd w] [.lst (ds.map dn)] = some (.bl true, .lst (ds'.map dn) :: S1) by
    obtain ⟨ds', S1, e⟩ := run
    exact ⟨ds', callM_one hS (pure_dns _) (by simp only [pures, pure_wd]; rfl) e (pure_dns _) rfl⟩
  have hl := h.len
  have hn2 : (w.length : Int) / 2 = (n : Int) := by omega
  obtain ⟨y6, y7, y5, l1⟩ := gauss_go (k + 6) h [.lst (ds.map dn)] (some (wd (odds w n))) (some (prsD (oddPs w n)))
  have hb : (Sts.cons (.set (.tup (.cons (.nm 6) _)) _) _) = gaussB := rfl
  obtain ⟨g1, g2⟩ := gauss_eq h
  have ho := odds_len w n
  have hq := oddPs_len w hn
  have eb : decide (((odds w n).length : Int) + ((oddPs w n).length : Int) = 0) = (decide (odds w n = []) && decide (oddPs w n = [])) := by
    rw [← Bool.decide_and, decide_eq_decide, ← List.length_eq_zero_iff, ← List.length_eq_zero_iff]
    omega
  have s1 := m_same k 1 [.lst (ds.map dn)] _ (nice_three (w := w) hn (decide (odds w n = []) && decide (oddPs w n = []))) (dep_three _ _ _)
  have s2 := m_same k 1 [.lst (ds.map dn)] (.bl (decide (odds w n = []))) rfl (by simp [D.dep])
  rw [call_eq g__law_is_told rfl]
  simp! [f__law_is_told, m_law_odd _ _ _ h, m_odd_crossings _ _ _ h, m_odd_pairs _ _ _ h, m_is_even_word _ _ _ h]
  rw [eb, s1]
  simp! [hn2, rng11_nat, show n ≤ 1000000 by omega]
  rw [hb, l1]
  simp! [m_keeps_gauss _ _ _ h]
  rw [g1, g2, s2]
  obtain ⟨p, ds1, p1, p2⟩ := m_take (k + 6) 1 (max 1 w.length) (by omega) (S := [.lst (ds.map dn)]) (r := 0) (ds := ds) (by rfl)
  have eM : (if (1 : Int) < (w.length : Int) then (w.length : Int) else 1) = ((max 1 w.length : Nat) : Int) := by split <;> omega
  obtain ⟨t, ds2, t1, t2⟩ := m_take (k + 6) 1 2 (by omega) (S := [.lst (ds1.map dn)]) (r := 0) (ds := ds1) (by rfl)
  have t3 : callM (callAt G (k+7)) c__law_take [.ref 0, .int 2] 1 [.lst (ds1.map dn)] = some (dn t, [.lst (ds2.map dn)]) := t2
  obtain ⟨d1, d2⟩ := reading_same h p t
  obtain ⟨d3, d4⟩ := d2.odd
  have hr := m_reading (k + 6) 1 p t [.lst (ds2.map dn)] (w := w) (by omega)
  have s3 := m_same k 1 [.lst (ds2.map dn)] _ (nice_two (w := w) hn) (dep_two _ _)
  obtain ⟨ds3, names, n1, n2⟩ := m_mixed_l (k + 5) 1 (List.range n) (by simp; omega) (S := [.lst (ds2.map dn), .lst ((List.range n).map dn)]) (r := 0) (r' := 1) (ds := ds2) (by omega) (by rfl) (by rfl)
  have dr := h.ren n1
  have hnl := (names_ok n1).1
  have hnm : ∀ v, v < n → names[v]? = some (sn names v) := fun v hv => by
    rw [List.getElem?_eq_getElem (by omega), sn, getD_at (by omega)]
  simp! []
  rw [eM, p2]
  simp! [t3, hr, m_odd_crossings _ _ _ d1, m_odd_pairs _ _ _ d1, d3, d4]
  rw [s3]
  simp! [hn2, rng11_nat, show n ≤ 1000000 by omega, n2]
  rw [compL_all dn (fun v => dn (sn names v)) fun v hv => by simp! [turnF, hnm v (h.lt v hv)]]
  simp! []
  rw [compL_all dn (fun v => dn (sn names v)) fun v hv => by
    have hv2 : v < n := List.mem_range.mp (List.mem_filter.mp hv).1
    simp! [turnF, hnm v hv2]]
  have q1 : sortedD ((odds w n).map fun v => dn (sn names v)) = some ((odds (ren2 names w) n).map dn) := by
    have e := so_nats ((odds w n).map (sn names))
    rw [List.map_map] at e
    refine e.trans ?_
    rw [show ((odds w n).map (sn names)).map (fun (x : Nat) => (x : Int)) = ((odds w n).map (sg names)).map (fun (x : Nat) => (x : Int)) from rfl, due_odds h n1, List.map_map]
    rfl
  simp! [q1]
  rw [compL_all prD (fun q => prD (tau names q)) fun q hq => by
    obtain ⟨q2, q3⟩ := prs_mem.mp (List.mem_filter.mp hq).1
    have e := so_two (sn names q.1) (sn names q.2)
    have e2 : sortedD [D.int ((sn names q.1 : Nat) : Int), D.int ((sn names q.2 : Nat) : Int)] = some [dn (min (sn names q.1) (sn names q.2)), dn (max (sn names q.1) (sn names q.2))] := e
    simp! [turnF, hnm q.1 (by omega), hnm q.2 q3, e2]
    exact ⟨rfl, rfl⟩]
  have q4 : sortedD ((oddPs w n).map fun q => prD (tau names q)) = some ((oddPs (ren2 names w) n).map prD) := by
    have e := so_prs ((oddPs w n).map (tau names))
    rw [List.map_map] at e
    refine e.trans ?_
    rw [due_pairs h n1, List.map_map]
    rfl
  simp! [q4]
  have eW : D.tup (w.map fun v => dn (sn names v)) = wd (ren2 names w) := by
    unfold ren2
    rw [wd, List.map_map]
    rfl
  have s4 := m_same k 2 [.lst (ds3.map dn), .lst ((List.range n).map dn)] _ (nice_two (w := ren2 names w) hn) (dep_two _ _)
  rw [eW]
  simp! [m_odd_crossings _ _ _ dr, m_odd_pairs _ _ _ dr]
  rw [s4]
  refine ⟨ds3, [.lst ((List.range n).map dn)], ?_⟩
  simp! []
end
def lawB : Sts := match f_law.body with
  | .cons _ (.cons _ (.cons _ (.cons (.for_ _ _ b) _))) => b
  | _ => .nil
theorem law_turn (k n : Nat) (hn : n ≤ 30) {w : List Nat} (h : DW w n) (x0 x2 x3 x4 : Option D) (ds : List Nat) : ∃ ds' : List Nat,
    forB (callAt G (k+8)) (.one 4) lawB (wd w) [x0, some (.ref 0), x2, x3, x4, none] [.lst (ds.map dn)] = some (.nx, [x0, some (.ref 0), x2, x3, some (wd w), none], [.lst (ds'.map dn)]) := by
  obtain ⟨ds', e⟩ := m_is_told k 1 h hn (S := [.lst (ds.map dn)]) (r := 0) (ds := ds) (by rfl)
  refine ⟨ds', ?_⟩
  simp! [forB, lawB, f_law, e]
theorem dw_0 : DW [] 0 := ⟨rfl, by simp, by omega, by omega⟩
theorem dw_5 : DW [0, 1, 2, 3, 4, 2, 3, 0, 1, 4] 5 := ⟨rfl, by decide, by decide, by omega⟩
theorem dw_3 : DW [0, 1, 0, 2, 1, 2] 3 := ⟨rfl, by decide, by decide, by omega⟩
theorem dw_2 : DW [0, 1, 0, 1] 2 := ⟨rfl, by decide, by decide, by omega⟩
section
variable (k nn : Nat) (S : Sto)
theorem kg_5 : callM (callAt G (k+8)) c_keeps_gauss [.tup [.int 0, .int 1, .int 2, .int 3, .int 4, .int 2, .int 3, .int 0, .int 1, .int 4]] nn S = some (.bl true, S) :=
  (m_keeps_gauss (k + 4) nn S dw_5).trans (by rw [show (List.range 5).all (fun v => decide ((btw [0, 1, 2, 3, 4, 2, 3, 0, 1, 4] v).length % 2 = 0)) = true by decide +kernel])
theorem oc_5 : callM (callAt G (k+8)) c_odd_crossings [.tup [.int 0, .int 1, .int 2, .int 3, .int 4, .int 2, .int 3, .int 0, .int 1, .int 4]] nn S = some (.tup [], S) :=
  (m_odd_crossings (k + 4) nn S dw_5).trans (by rw [show odds [0, 1, 2, 3, 4, 2, 3, 0, 1, 4] 5 = [] by decide +kernel]; rfl)
theorem op_5 : callM (callAt G (k+8)) c_odd_pairs [.tup [.int 0, .int 1, .int 2, .int 3, .int 4, .int 2, .int 3, .int 0, .int 1, .int 4]] nn S = some (.tup [.tup [.int 0, .int 2], .tup [.int 0, .int 3], .tup [.int 1, .int 2], .tup [.int 1, .int 3]], S) :=
  (m_odd_pairs (k + 4) nn S dw_5).trans (by rw [show oddPs [0, 1, 2, 3, 4, 2, 3, 0, 1, 4] 5 = [(0, 2), (0, 3), (1, 2), (1, 3)] by decide +kernel]; rfl)
theorem ev_5 : callM (callAt G (k+8)) c_is_even_word [.tup [.int 0, .int 1, .int 2, .int 3, .int 4, .int 2, .int 3, .int 0, .int 1, .int 4]] nn S = some (.bl false, S) :=
  (m_is_even_word (k + 3) nn S dw_5).trans (by rw [show oddPs [0, 1, 2, 3, 4, 2, 3, 0, 1, 4] 5 = [(0, 2), (0, 3), (1, 2), (1, 3)] by decide +kernel]; simp)
theorem kg_0 : callM (callAt G (k+8)) c_keeps_gauss [.tup []] nn S = some (.bl true, S) := m_keeps_gauss (k + 4) nn S dw_0
theorem ev_0 : callM (callAt G (k+8)) c_is_even_word [.tup []] nn S = some (.bl true, S) := (m_is_even_word (k + 3) nn S dw_0).trans (by rw [show odds [] 0 = [] from rfl, show oddPs [] 0 = [] from rfl]; simp)
theorem kg_3 : callM (callAt G (k+8)) c_keeps_gauss [.tup [.int 0, .int 1, .int 0, .int 2, .int 1, .int 2]] nn S = some (.bl false, S) :=
  (m_keeps_gauss (k + 4) nn S dw_3).trans (by rw [show (List.range 3).all (fun v => decide ((btw [0, 1, 0, 2, 1, 2] v).length % 2 = 0)) = false by decide +kernel])
theorem oc_3 : callM (callAt G (k+8)) c_odd_crossings [.tup [.int 0, .int 1, .int 0, .int 2, .int 1, .int 2]] nn S = some (.tup [.int 0, .int 2], S) :=
  (m_odd_crossings (k + 4) nn S dw_3).trans (by rw [show odds [0, 1, 0, 2, 1, 2] 3 = [0, 2] by decide +kernel]; rfl)
theorem op_3 : callM (callAt G (k+8)) c_odd_pairs [.tup [.int 0, .int 1, .int 0, .int 2, .int 1, .int 2]] nn S = some (.tup [.tup [.int 0, .int 2]], S) :=
  (m_odd_pairs (k + 4) nn S dw_3).trans (by rw [show oddPs [0, 1, 0, 2, 1, 2] 3 = [(0, 2)] by decide +kernel]; rfl)
theorem oc_2 : callM (callAt G (k+8)) c_odd_crossings [.tup [.int 0, .int 1, .int 0, .int 1]] nn S = some (.tup [.int 0, .int 1], S) :=
  (m_odd_crossings (k + 4) nn S dw_2).trans (by rw [show odds [0, 1, 0, 1] 2 = [0, 1] by decide +kernel]; rfl)
end
theorem law_runs (k : Nat) (ns : List Int) (hl : ns.length ≤ 63) : ∃ S' : Sto, callAt G (k+9) c_law [.frl (ns.map D.int)] [] = some (.bl true, S') := by
  obtain ⟨ds0, d0⟩ := m_draws (k + 7) 0 [] ns (by omega) 160 (by omega)
  have d0' : callM (callAt G (k+8)) c__law_draws [.frl (ns.map D.int), .int 160] 0 [] = some (.ref 0, [.lst (ds0.map dn)]) := d0
  obtain ⟨n, ds1, n1, n2⟩ := m_take (k + 7) 1 7 (by omega) (S := [.lst (ds0.map dn)]) (r := 0) (ds := ds0) (by rfl)
  have n3 : callM (callAt G (k+8)) c__law_take [.ref 0, .int 7] 1 [.lst (ds0.map dn)] = some (dn n, [.lst (ds1.map dn)]) := n2
  obtain ⟨ds2, u, u1, u2⟩ := m_drawn (k + 5) 1 n (by omega) (S := [.lst (ds1.map dn)]) (r := 0) (ds := ds1) (by rfl)
  obtain ⟨ds3, v, v1, v2⟩ := m_near (k + 4) 1 n (by omega) (S := [.lst (ds2.map dn)]) (r := 0) (ds := ds2) (by rfl)
  obtain ⟨m, ds4, m1, m2⟩ := m_take (k + 7) 1 7 (by omega) (S := [.lst (ds3.map dn)]) (r := 0) (ds := ds3) (by rfl)
  have m3 : callM (callAt G (k+8)) c__law_take [.ref 0, .int 7] 1 [.lst (ds3.map dn)] = some (dn m, [.lst (ds4.map dn)]) := m2
  obtain ⟨ds5, z, z1, z2⟩ := m_word (k + 4) 1 m (by omega) (S := [.lst (ds4.map dn)]) (r := 0) (ds := ds4) (by rfl)
  have hu := u1.dw (by omega)
  obtain ⟨e1, e2⟩ := (u1.even (by omega)).odds
  obtain ⟨g1, g2⟩ := gauss_eq hu
  rw [e1] at g2
  obtain ⟨a1, t1⟩ := law_turn k n (by omega) hu (some (.frl (ns.map D.int))) (some (dn n)) (some (wd u)) none ds5
  obtain ⟨a2, t2⟩ := law_turn k n (by omega) v1 (some (.frl (ns.map D.int))) (some (dn n)) (some (wd u)) (some (wd u)) a1
  obtain ⟨a3, t3⟩ := law_turn k m (by omega) z1 (some (.frl (ns.map D.int))) (some (dn n)) (some (wd u)) (some (wd v)) a2
  have l1 : loopL (forB (callAt G (k+8)) (.one 4) lawB) [wd u, wd v, wd z] [some (.frl (ns.map D.int)), some (.ref 0), some (dn n), some (wd u), none, none] [.lst (ds5.map dn)] = some (.nx, [some (.frl (ns.map D.int)), some (.ref 0), some (dn n), some (wd u), some (wd z), none], [.lst (a3.map dn)]) := by
    simp only [loopL, t1, t2, t3, Option.bind_some]
  have hb : (Sts.cons (.ite (.not (.call c__law_is_told _)) _ _) _) = lawB := rfl
  have s1 := m_same (k + 1) 1 [.lst (a3.map dn)] (.tup [.bl true, .bl true]) rfl (by decide)
  have s2 := m_same (k + 1) 1 [.lst (a3.map dn)] (.tup [.bl true, .tup [], .tup [.tup [.int 0, .int 2], .tup [.int 0, .int 3], .tup [.int 1, .int 2], .tup [.int 1, .int 3]], .bl false]) rfl (by decide)
  have s3 := m_same (k + 1) 1 [.lst (a3.map dn)] (.tup [.bl true, .bl false]) rfl (by decide)
  have s4 := m_same (k + 1) 1 [.lst (a3.map dn)] (.tup [.tup [.int 0, .int 1], .tup [.tup [.int 0, .int 2]], .tup [.int 0, .int 2], .bl true]) rfl (by decide)
  refine ⟨[.lst (a3.map dn)], ?_⟩
  rw [call_eq g_law rfl]
  simp! [f_law, d0', n3, u2, v2, m3, z2]
  rw [hb, l1]
  simp! [m_is_even_word _ _ _ hu, m_keeps_gauss _ _ _ hu, e1, e2, g1, g2, s1, s2, s3, s4, kg_5, oc_5, op_5, ev_5, kg_0, ev_0, kg_3, oc_3, op_3, oc_2]
end Ol
set_option Elab.async false
set_option linter.all false
set_option maxRecDepth 100000
set_option maxHeartbeats 0
namespace L52
open PySem PySem.Spec PyProof.Rows L2 Ol
def tops : List (Nat × List Str) := [(1, ["word"]), (2, ["word", "found", "place", "crossing", "places"]), (3, ["word", "v", "first"]), (5, ["one", "other"]), (6, ["passes", "v", "w"]), (7, ["word", "passes", "v"]), (8, ["n", "found", "v", "w"]), (9, ["word", "v", "first", "second"]), (10, ["word", "v"]), (12, ["rows", "v"]), (13, ["word"]), (14, ["rows", "v", "w", "u"]), (15, ["rows", "v", "w"]), (16, ["word", "rows", "v", "w"]), (17, ["word"]), (18, ["word", "v"]), (20, ["script", "many", "cells", "rest", "draws", "k", "at", "once", "cell"]), (21, ["draws", "many"]), (22, ["actual", "due", "k"]), (23, ["draws", "row", "left", "found", "k"]), (24, ["word", "at", "block", "v"]), (25, ["draws", "n", "blocks", "word", "step", "block", "left", "by", "names", "v"]), (26, ["draws", "n", "word", "v"]), (27, ["draws", "n", "pick", "row", "word", "v", "turn", "at"]), (28, ["word", "v", "first"]), (29, ["word", "v", "w", "first", "second"]), (30, ["word", "v", "w"]), (31, ["word", "p", "turned", "row"]), (32, ["word", "table", "n", "pairs", "v", "w", "both", "u"]), (33, ["draws", "n", "word", "turn", "at", "p", "q"]), (34, ["draws", "word", "odd", "pairs", "gauss", "v", "first", "second", "other", "names", "due", "w"]), (35, ["script", "draws", "n", "drawn", "word", "gauss"])]
def ids : List Nat := [c_crossings_in, c_all_passes, c_passes_of, c_are_by_turns, c_interlacers_by, c_all_interlacers, c_pairs_of_crossings, c_between, c_is_even_between, c_odd_by, c_odd_crossings, c_count_common, c_is_odd_pair_by, c_odd_pairs, c_is_even_word, c_keeps_gauss, c__law_draws, c__law_take, c__law_same, c__law_mixed, c__law_put, c__law_drawn, c__law_brackets, c__law_word, c__law_passes, c__law_do_interlace, c__law_table, c__law_reading, c__law_odd, c__law_near, c__law_is_told, c_law]
abbrev prg : Program := PySem.Challenge.pw_oneline_k52_odd_crossings_and_pairs
theorem comp_ok : ((dsOf prg tops).map fun d => d.fn (gsOf (dsOf prg tops) ids)) = ids.map G := by kernel_rfl
theorem some_ok : (ids.all fun g => (G g).isSome) = true := by decide +kernel
theorem defs_ok : tops.all (defC prg) = true := by decide +kernel
abbrev R : PySem.W.OpenRow := PySem.W.OpenLaw.row PySem.Challenge.rw_oneline_k52_odd_crossings_and_pairs
abbrev hk : PySem.W.Hook := He.hookD 4 (faOf prg tops) (tops.map (heD prg))
def ob (s : PySem.W.SharedT) : He.AlD := He.obsDG 4 (faOf prg tops) (tops.map (heD prg)) (HandSHeadRun.getT s)
theorem ob_eq (s : PySem.W.SharedT) : ob s = hk.obs s.abs := He.obsDG_eq (HandSHeadRun.getT_eq s)
def loose : List Str := ["crossings_in", "all_passes", "passes_of", "are_by_turns", "interlacers_by", "all_interlacers", "pairs_of_crossings", "between", "is_even_between", "odd_by", "odd_crossings", "count_common", "is_odd_pair_by", "odd_pairs", "is_even_word", "keeps_gauss", "_law_draws", "_law_take", "_law_same", "_law_mixed", "_law_put", "_law_drawn", "_law_brackets", "_law_word", "_law_passes", "_law_do_interlace", "_law_table", "_law_reading", "_law_odd", "_law_near", "_law_is_told"]
theorem run (w : World) : HandSHeadRun.RunEq R (PySem.W.view R.prog [35]) hk ob 3000 loose w := by
  intro os
  kernel_rfl
/-- what is left: the law's def, run by the small language, at every script -/
def Left : Prop := ∀ ns : List Int, ns.length ≤ 63 → ∃ S' : Sto, callAt G 60 c_law [.frl (ns.map D.int)] [] = some (.bl true, S')
end L52
open PySem PySem.W PySem.Calls PyProof.Rows
theorem L52.holds (left : L52.Left) : PySem.Challenge.rw_oneline_k52_odd_crossings_and_pairs.Holds := by
  w_on; o_law
  refine HandSHeadRun.head_any (r := OpenLaw.row PySem.Challenge.rw_oneline_k52_odd_crossings_and_pairs) (q := view (OpenLaw.row PySem.Challenge.rw_oneline_k52_odd_crossings_and_pairs).prog [35]) (H := L52.hk) (ob := L52.ob) (M := 3000) (loose := L52.loose) (d := HandSHeadRun.topDef (OpenLaw.row PySem.Challenge.rw_oneline_k52_odd_crossings_and_pairs).prog 35) (kwd := []) L52.ob_eq
    (by kernel_rfl) (fun s => by kernel_rfl) L52.run (by kernel_rfl) (by kernel_rfl) (by kernel_rfl) (by rfl) (by first | assumption | decide +kernel) (by decide +kernel) ⟨rfl, rfl, rfl, rfl, rfl, by decide +kernel⟩ ?hw ?hc
  case hw => w_witness2
  case hc =>
    refine L2.walk_ofE (l := PySem.Challenge.rw_oneline_k52_odd_crossings_and_pairs) (n := 63) (k := 60) (x := "script") (CX := L2.CX0) rfl (by decide) (by kernel_rfl) ⟨rfl, by decide, by decide⟩ ?F (fun _ _ _ _ z => z)
    intro w mg fa h Y Gs hmg0
    obtain ⟨K, KX, c⟩ := Y
    have hmg : mg ("law" : PySem.Str) = some (.ref fa) := by
      have e : (HandSHeadRun.topDef (OpenLaw.row PySem.Challenge.rw_oneline_k52_odd_crossings_and_pairs).prog 35).name = ("law" : PySem.Str) := by kernel_rfl
      rw [← e]
      exact hmg0
    obtain ⟨fd, hb, hF⟩ := Ol.facts (prog := (PySem.Challenge.rw_oneline_k52_odd_crossings_and_pairs).prog) (w := w) (n := 60) KX Gs c L52.defs_ok L52.comp_ok L52.some_ok (i := 31) (q := (35, ["script", "draws", "n", "drawn", "word", "gauss"])) rfl rfl (by kernel_rfl) (by kernel_rfl) hmg
    refine ⟨K, fd, Ol.spC K (Ol.callAt Ol.G 60) Ol.c_law, KX, hb, fun H a ns hl hO hS => ?_, hF⟩
    obtain ⟨S', e⟩ := left ns hl
    exact Ol.enter (ds := Ol.dsOf L52.prg L52.tops) (Ol.kn_of KX Gs c L52.defs_ok L52.comp_ok L52.some_ok) (Nat.le_trans hl (by decide)) hO hS e

open PySem PySem.W PyProof.Rows
theorem PySem.Challenge.cw_oneline_k52_odd_crossings_and_pairs_holds : PySem.Challenge.rw_oneline_k52_odd_crossings_and_pairs.Holds :=
  L52.holds fun ns hl => Ol.law_runs 51 ns hl
