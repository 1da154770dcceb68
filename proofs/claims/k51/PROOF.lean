import PyProof.Rows.All
import Wide.All
import OpenK.AllK
import Wide.FinOn
import KE.KStateDown
import HandS.ForMost
import HandS.Defaults
import HandS.IsInst
import HandS.NoneIn
import HandS.Wide
import KE.KDictKeyed
import HandS.Style
import HandS.Conv
import HandS.Iter
import HandS.TupLen
import KE.KDictDisplayH
import Lean
import HandS.Base
import HandS.Call
import HandS.Ends
import HandS.Head0
import HandS.Head1
import HandS.Head2
import HandS.HeadEnd
import HandS.HeadHook1
import HandS.HeadHook2
import PySem.Challenge.RW_turnedtrees_k51_whole_same_keys
set_option Elab.async false
set_option linter.all false
set_option maxRecDepth 100000
set_option maxHeartbeats 4000000
/-! L3A: data in the abstract heap: what is owned is cut away, data Rp, dicts with nested keys. -/
namespace L3
open PySem PySem.Spec PyProof.Rows L2

/-! ### the heap without what is owned -/
open Classical in
noncomputable def cut (O : Addr → Prop) (H : Hp) : Hp := fun a => if O a then none else H a
section
variable {O O' : Addr → Prop} {H H' : Hp} {a b p : Addr} {u : HO}
theorem cut_of (h : cut O H a = some u) : H a = some u ∧ ¬ O a := by
  unfold cut at h
  split at h
  · cases h
  · exact ⟨h, by assumption⟩
theorem cut_at (h : ¬ O a) : cut O H a = H a := by
  unfold cut
  rw [if_neg h]
theorem cut_in (h : O a) : cut O H a = none := by
  unfold cut
  rw [if_pos h]
theorem cut_same (s : Same H H') : Same (cut O H) (cut O H') := fun a u h => by
  obtain ⟨h1, h2⟩ := cut_of h
  rw [cut_at h2]
  exact s a u h1
theorem cut_le : Same (cut O H) H := fun a u h => (cut_of h).1
theorem cut_sub (h : ∀ a, O' a → O a) : Same (cut O H) (cut O' H) := fun a u q => by
  obtain ⟨h1, h2⟩ := cut_of q
  rw [cut_at fun z => h2 (h a z)]
  exact h1
theorem cut_upd (h : O a) : cut O (upd H a u) = cut O H := by
  funext b
  by_cases hb : O b
  · rw [cut_in hb, cut_in hb]
  · rw [cut_at hb, cut_at hb, upd_ne (fun e : b = a => hb (by rw [e]; exact h))]
def Sub (O : Addr → Prop) (H : Hp) : Prop := ∀ a, O a → H a ≠ none
theorem Sub.no (s : Sub O H) (h : H p = none) : ¬ O p := fun z => s p z h
theorem Sub.same (s : Sub O H) (k : Same H H') : Sub O H' := fun a z e => by
  cases q : H a with
  | none => exact s a z q
  | some u => rw [k a u q] at e; cases e
theorem same_upd (h : H p = none) : Same H (upd H p u) := fun b x e => by
  rw [upd_ne (ne_of_none e h)]
  exact e
theorem cut_new (s : Sub O H) (h : H p = none) : Same (cut O H) (cut O (upd H p u)) := cut_same (same_upd h)
theorem cut_newat (s : Sub O H) (h : H p = none) : cut O (upd H p u) p = some u := by
  rw [cut_at (s.no h), upd_same]
end

/-! ### keys -/
mutual
def nk : PyData → NestedKey
  | .none => .none
  | .bool b => .num (if b then 1 else 0)
  | .int i => .num i
  | .str x => .text x
  | .tuple ds => .tup (nkAll ds)
  | .list _ => .none
  | .dict _ => .none
def nkAll : List PyData → List NestedKey
  | [] => []
  | d :: ds => nk d :: nkAll ds
end
mutual
def keyOk : PyData → Bool
  | .int _ => true
  | .str _ => true
  | .tuple ds => keyOkAll ds
  | _ => false
def keyOkAll : List PyData → Bool
  | [] => true
  | d :: ds => keyOk d && keyOkAll ds
end
def isTupD : PyData → Bool
  | .tuple _ => true
  | _ => false
/-- a key of a dict of ours: a tuple, nested, not too deep -/
def keyTop (d : PyData) : Bool := isTupD d && keyOk d && decide ((nk d).depth ≤ 8)

/-! ### a dict with nested keys, as an object -/
abbrev Ent := NestedKey × Addr × V
abbrev EntV := NestedKey × Addr × Value
def EntR (p : Ent) (q : EntV) : Prop := p.1 = q.1 ∧ p.2.1 = q.2.1 ∧ RelV p.2.2 q.2.2
def dphi (P : Program) (w : World) (d : Addr) (xs : List Ent) (h : Heap) : Prop :=
  xs.length ≤ sizeLine ∧ (d == sysModules) = false ∧ ∃ ys : List EntV, Paired EntR xs ys ∧ ∃ o es ep, h.get? d = some o ∧ o.ExactDict ∧ o.data = .dict es ep ∧ es.toList = ys.map (entryOfKey (nestedKind P w)) ∧ (ys.map (·.1)).Nodup
def DO (P : Program) (w : World) (d : Addr) (xs : List Ent) : HO := .ext (dphi P w d xs)
theorem DO_ok {P : Program} {w : World} {H : Hp} {h : Heap} {d : Addr} {xs : List Ent} (x : dphi P w d xs h) : ObjOk P w H h d (DO P w d xs) := by
  refine ⟨x, ?_, ?_⟩
  · obtain ⟨_, _, ys, _, o, es, ep, e, _⟩ := x
    exact ⟨o, e⟩
  · rintro h1 h2 ⟨z, m, ys, r, o, es, ep, e, c⟩ k
    exact ⟨z, m, ys, r, o, es, ep, k o e, c⟩

/-! ### data -/
section
variable (P : Program) (w : World) (K : PySem.W.Frag)
mutual
inductive Rp (H : Hp) : V → PyData → Prop
  | non : Rp H .non .none
  | bl (b : Bool) : Rp H (.bl b) (.bool b)
  | int (i : Int) : Rp H (.int i) (.int i)
  | str (x : Str) : Rp H (.str x) (.str x)
  | lst {a : Addr} {xs : List V} {ds : List PyData} : H a = some (.lst xs) → RpAll H xs ds → Rp H (.ref a) (.list ds)
  | tup {a : Addr} {xs : List V} {ds : List PyData} : SqT K H a xs → RpAll H xs ds → Rp H (.ref a) (.tuple ds)
  | dct {a : Addr} {o : Obj} {xs : List Ent} {kvs : List (PyData × PyData)} : H a = some (.frz o (DO P w a xs)) → RpD H xs kvs → Rp H (.ref a) (.dict kvs)
inductive RpAll (H : Hp) : List V → List PyData → Prop
  | nil : RpAll H [] []
  | cons {v : V} {vs : List V} {d : PyData} {ds : List PyData} : Rp H v d → RpAll H vs ds → RpAll H (v :: vs) (d :: ds)
inductive RpD (H : Hp) : List Ent → List (PyData × PyData) → Prop
  | nil : RpD H [] []
  | cons {b : Addr} {v : V} {xs : List Ent} {kd vd : PyData} {kvs : List (PyData × PyData)} : keyTop kd = true → Rp H (.ref b) kd → Rp H v vd → RpD H xs kvs → RpD H ((nk kd, b, v) :: xs) ((kd, vd) :: kvs)
end
end
section
variable {P : Program} {w : World} {K : PySem.W.Frag} {H H' : Hp}
theorem Same.seqT {a : Addr} {xs : List V} (e : Same H H') (h : SqT K H a xs) : SqT K H' a xs := by
  rcases h with (h | ⟨o, h⟩) | h
  · exact .inl (.inl (e _ _ h))
  · exact .inl (.inr ⟨o, e _ _ h⟩)
  · exact .inr h
mutual
theorem Rp.mono (s : Same H H') : ∀ {v : V} {d : PyData}, Rp P w K H v d → Rp P w K H' v d
  | _, _, .non => .non
  | _, _, .bl b => .bl b
  | _, _, .int i => .int i
  | _, _, .str x => .str x
  | _, _, .lst h r => .lst (s _ _ h) (RpAll.mono s r)
  | _, _, .tup h r => .tup (Same.seqT s h) (RpAll.mono s r)
  | _, _, .dct h r => .dct (s _ _ h) (RpD.mono s r)
theorem RpAll.mono (s : Same H H') : ∀ {v : List V} {d : List PyData}, RpAll P w K H v d → RpAll P w K H' v d
  | _, _, .nil => .nil
  | _, _, .cons h r => .cons (Rp.mono s h) (RpAll.mono s r)
theorem RpD.mono (s : Same H H') : ∀ {v : List Ent} {d : List (PyData × PyData)}, RpD P w K H v d → RpD P w K H' v d
  | _, _, .nil => .nil
  | _, _, .cons k h1 h2 r => .cons k (Rp.mono s h1) (Rp.mono s h2) (RpD.mono s r)
end
theorem RpAll.len : ∀ {v : List V} {d : List PyData}, RpAll P w K H v d → v.length = d.length
  | _, _, .nil => rfl
  | _, _, .cons _ r => congrArg (· + 1) (RpAll.len r)
theorem RpAll.app : ∀ {v v' : List V} {d d' : List PyData}, RpAll P w K H v d → RpAll P w K H v' d' → RpAll P w K H (v ++ v') (d ++ d')
  | _, _, _, _, .nil, r => r
  | _, _, _, _, .cons h r, r' => .cons h (RpAll.app r r')
theorem RpAll.at : ∀ {v : List V} {d : List PyData} {i : Nat} {e : PyData}, RpAll P w K H v d → d[i]? = some e → ∃ x, v[i]? = some x ∧ Rp P w K H x e
  | _, _, _, _, .nil, h => by simp at h
  | _, _, 0, _, .cons h r, e => by
    simp only [List.getElem?_cons_zero, Option.some.injEq] at e
    subst e
    exact ⟨_, rfl, h⟩
  | _, _, i + 1, _, .cons h r, e => by
    simp only [List.getElem?_cons_succ] at e
    exact RpAll.at (i := i) r e
theorem RpAll.take : ∀ {v : List V} {d : List PyData} (n : Nat), RpAll P w K H v d → RpAll P w K H (v.take n) (d.take n)
  | _, _, 0, _ => .nil
  | _, _, _ + 1, .nil => .nil
  | _, _, n + 1, .cons h r => .cons h (RpAll.take n r)
theorem RpAll.drop : ∀ {v : List V} {d : List PyData} (n : Nat), RpAll P w K H v d → RpAll P w K H (v.drop n) (d.drop n)
  | _, _, 0, r => r
  | _, _, _ + 1, .nil => .nil
  | _, _, n + 1, .cons h r => RpAll.drop n r
theorem RpAll.dropLast {v : List V} {d : List PyData} (r : RpAll P w K H v d) : RpAll P w K H v.dropLast d.dropLast := by
  rw [List.dropLast_eq_take, List.dropLast_eq_take, r.len]
  exact RpAll.take _ r
theorem RpD.len : ∀ {v : List Ent} {d : List (PyData × PyData)}, RpD P w K H v d → v.length = d.length
  | _, _, .nil => rfl
  | _, _, .cons _ _ _ r => congrArg (· + 1) (RpD.len r)

/-! ### data without dicts, for == -/
mutual
def noDict : PyData → Bool
  | .list ds => noDictAll ds
  | .tuple ds => noDictAll ds
  | .dict _ => false
  | _ => true
def noDictAll : List PyData → Bool
  | [] => true
  | d :: ds => noDict d && noDictAll ds
end
mutual
theorem noDict_of : ∀ d : PyData, d.canLay0 = true → noDict d = true
  | .none, _ => rfl
  | .bool _, _ => rfl
  | .int _, _ => rfl
  | .str _, _ => rfl
  | .list ds, h => noDict_ofAll ds (by simpa [PyData.canLay0] using h)
  | .tuple ds, h => noDict_ofAll ds (by simpa [PyData.canLay0] using h)
  | .dict _, h => by simp [PyData.canLay0] at h
theorem noDict_ofAll : ∀ ds : List PyData, PyData.canLayAll0 ds = true → noDictAll ds = true
  | [], _ => rfl
  | d :: ds, h => by
    simp only [PyData.canLayAll0, Bool.and_eq_true] at h
    simp only [noDictAll, Bool.and_eq_true]
    exact ⟨noDict_of d h.1, noDict_ofAll ds h.2⟩
end
mutual
theorem Rp.dp : ∀ {v : V} {d : PyData}, noDict d = true → Rp P w K H v d → Dp K H v d
  | _, _, _, .non => .non
  | _, _, _, .bl b => .bl b
  | _, _, _, .int i => .int i
  | _, _, _, .str x => .str x
  | _, _, n, .lst h r => .lst (SqL.of h) (RpAll.dp n r)
  | _, _, n, .tup h r => .tup h (RpAll.dp n r)
  | _, _, n, .dct _ _ => by cases n
theorem RpAll.dp : ∀ {v : List V} {d : List PyData}, noDictAll d = true → RpAll P w K H v d → DpAll K H v d
  | _, _, _, .nil => .nil
  | _, _, n, .cons h r => by
    simp only [noDictAll, Bool.and_eq_true] at n
    exact .cons (Rp.dp n.1 h) (RpAll.dp n.2 r)
end
end

/-! ### a key in the heap -/
section
variable {X : Cx} {pins : List (Addr × Obj)} {σ : L2.St} {H : Hp} {s : Shared}
mutual
theorem Rp.key (I : Inv X pins σ H s) : ∀ (d : PyData) (v : V) (u : Value), keyOk d = true → Rp X.prog X.w X.K H v d → RelV v u → NestedIs s.heap (nk d) u
  | .none, _, _, n, _, _ => by cases n
  | .bool _, _, _, n, _, _ => by cases n
  | .int i, _, _, _, h, r => by
    cases h
    obtain ⟨t, rfl⟩ := r
    exact .int i t
  | .str x, _, _, _, h, r => by
    cases h
    obtain ⟨t, rfl⟩ := r
    exact .text x t
  | .list _, _, _, n, _, _ => by cases n
  | .tuple ds, _, _, n, h, r => by
    cases h with
    | tup h ra =>
      cases r
      obtain ⟨its, rv, ⟨o, ho, hc, m, hd⟩, _⟩ := I.tuple h
      exact .tup ho hc hd (RpAll.key I ds _ _ n ra rv)
  | .dict _, _, _, n, _, _ => by cases n
theorem RpAll.key (I : Inv X pins σ H s) : ∀ (d : List PyData) (v : List V) (u : List Value), keyOkAll d = true → RpAll X.prog X.w X.K H v d → Vals v u → NestedAll s.heap (nkAll d) u
  | [], _, _, _, h, r => by
    cases h
    cases r
    exact .nil
  | d :: ds, _, _, n, h, r => by
    cases h with
    | cons h ra =>
      cases r with
      | cons r1 r2 =>
        simp only [keyOkAll, Bool.and_eq_true] at n
        exact .cons (Rp.key I d _ _ n.1 h r1) (RpAll.key I ds _ _ n.2 ra r2)
end
theorem Rp.keyTop (I : Inv X pins σ H s) {a : Addr} {d : PyData} (n : keyTop d = true) (r : Rp X.prog X.w X.K H (.ref a) d) : (nestedKind X.prog X.w).is s.heap (nk d) a := by
  simp only [L3.keyTop, Bool.and_eq_true, decide_eq_true_eq] at n
  exact ⟨Rp.key I _ _ _ n.1.2 r rfl, n.2⟩
end
end L3

/-! L3B: the pure environment; expressions as partial functions of it. -/
namespace L3
open PySem PySem.Spec PyProof.Rows L2

/-! ### the environment -/
inductive EV where
  | val (d : PyData)
  | lst (ds : List PyData)
  | dct (kvs : List (PyData × PyData))
abbrev PEnv := List (Option EV)
def EV.own : EV → Prop
  | .val _ => False
  | _ => True
def OwnAt (ρ : PEnv) (i : Nat) : Prop := ∃ e : EV, ρ[i]? = some (some e) ∧ e.own
structure EnvOk (P : Program) (w : World) (K : PySem.W.Frag) (O : Addr → Prop) (ρ : PEnv) (σ : L2.St) (H : Hp) : Prop where
  sub : Sub O H
  len : ρ.length = σ.length
  val : ∀ (i : Nat) (d : PyData), ρ[i]? = some (some (EV.val d)) → ∃ v, σ[i]? = some (some v) ∧ Rp P w K (cut O H) v d
  lst : ∀ (i : Nat) (ds : List PyData), ρ[i]? = some (some (EV.lst ds)) → ∃ a vs, σ[i]? = some (some (V.ref a)) ∧ O a ∧ H a = some (.lst vs) ∧ RpAll P w K (cut O H) vs ds
  dct : ∀ (i : Nat) (kvs : List (PyData × PyData)), ρ[i]? = some (some (EV.dct kvs)) → ∃ a xs, σ[i]? = some (some (V.ref a)) ∧ O a ∧ H a = some (DO P w a xs) ∧ RpD P w K (cut O H) xs kvs
  one : ∀ (i j : Nat) (a : Addr), OwnAt ρ i → OwnAt ρ j → σ[i]? = some (some (V.ref a)) → σ[j]? = some (some (V.ref a)) → i = j
abbrev RpX (X : Cx) := Rp X.prog X.w X.K
abbrev RpAllX (X : Cx) := RpAll X.prog X.w X.K
abbrev RpDX (X : Cx) := RpD X.prog X.w X.K
abbrev EnvX (X : Cx) := EnvOk X.prog X.w X.K
theorem EnvOk.same {P : Program} {w : World} {K : PySem.W.Frag} {O : Addr → Prop} {ρ : PEnv} {σ : L2.St} {H H' : Hp} (h : EnvOk P w K O ρ σ H) (s : Same H H') : EnvOk P w K O ρ σ H' where
  sub := h.sub.same s
  len := h.len
  val := fun i d e => let ⟨v, e1, r⟩ := h.val i d e; ⟨v, e1, r.mono (cut_same s)⟩
  lst := fun i ds e => let ⟨a, vs, e1, o, e2, r⟩ := h.lst i ds e; ⟨a, vs, e1, o, s _ _ e2, r.mono (cut_same s)⟩
  dct := fun i ds e => let ⟨a, vs, e1, o, e2, r⟩ := h.dct i ds e; ⟨a, vs, e1, o, s _ _ e2, r.mono (cut_same s)⟩
  one := h.one

/-! ### judgements -/
abbrev FE := PEnv → Option PyData
abbrev FA := PEnv → Option (List PyData)
def tV (X : Cx) (f : FE) : TE := fun σ H Q => ∃ O ρ d, EnvX X O ρ σ H ∧ f ρ = some d ∧ ∀ v H', Same H H' → RpX X (cut O H') v d → Q v H'
def tVA (X : Cx) (f : FA) : TA := fun σ H Q => ∃ O ρ ds, EnvX X O ρ σ H ∧ f ρ = some ds ∧ ∀ vs H', Same H H' → RpAllX X (cut O H') vs ds → Q vs H'
def tVT (X : Cx) (f : FE) : TT := fun σ H Q => ∃ O ρ b, EnvX X O ρ σ H ∧ f ρ = some (.bool b) ∧ ∀ H', Same H H' → Q b H'
abbrev PV (X : Cx) (e : Expr) (f : FE) : Prop := PE X e (tV X f)
abbrev PVT (X : Cx) (e : Expr) (f : FE) : Prop := PT X e (tVT X f)
abbrev PVW (X : Cx) (e : Expr) (f : FE) : Prop := PW X e (tVT X f)
abbrev PVA (X : Cx) (es : List Expr) (f : FA) : Prop := PA X es (tVA X f)

/-! ### what an expression computes -/
def fVar (i : Nat) : FE := fun ρ => match ρ[i]? with
  | some (some (EV.val d)) => some d
  | _ => none
def fC (d : PyData) : FE := fun _ => some d
def o1 (g : PyData → Option PyData) (f : FE) : FE := fun ρ => (f ρ).bind g
def o2 (g : PyData → PyData → Option PyData) (f f' : FE) : FE := fun ρ => (f ρ).bind fun x => (f' ρ).bind fun y => g x y
def fAnd (f f' : FE) : FE := fun ρ => (f ρ).bind fun x => match x with
  | .bool true => f' ρ
  | .bool false => some (.bool false)
  | _ => none
def fOr (f f' : FE) : FE := fun ρ => (f ρ).bind fun x => match x with
  | .bool true => some (.bool true)
  | .bool false => f' ρ
  | _ => none
def dNot : PyData → Option PyData
  | .bool b => some (.bool (!b))
  | _ => none
def fIf (c f f' : FE) : FE := fun ρ => (c ρ).bind fun x => match x with
  | .bool true => f ρ
  | .bool false => f' ρ
  | _ => none
def a0 : FA := fun _ => some []
def ac (f : FE) (r : FA) : FA := fun ρ => (f ρ).bind fun x => (r ρ).bind fun xs => some (x :: xs)
def fTup (r : FA) : FE := fun ρ => (r ρ).bind fun xs => some (.tuple xs)
def fLst (r : FA) : FE := fun ρ => (r ρ).bind fun xs => some (.list xs)
def oA (g : List PyData → Option PyData) (r : FA) : FE := fun ρ => (r ρ).bind g
/-- how many values there are -/
inductive LenA : FA → Nat → Prop
  | nil : LenA a0 0
  | cons {f r n} : LenA r n → LenA (ac f r) (n + 1)
theorem LenA.of {r : FA} {n : Nat} (h : LenA r n) : ∀ ρ ds, r ρ = some ds → ds.length = n := by
  induction h with
  | nil =>
    intro ρ ds e
    cases e
    rfl
  | cons _ ih =>
    intro ρ ds e
    obtain ⟨x, _, e⟩ := Option.bind_eq_some_iff.mp e
    obtain ⟨xs, e2, e⟩ := Option.bind_eq_some_iff.mp e
    cases e
    exact congrArg (· + 1) (ih ρ xs e2)

section
variable {X : Cx} {e a b c : Expr} {es : List Expr} {f f' f'' : FE} {r r' : FA} {pos : Pos}
theorem PE.mono {t t' : TE} (h : PE X e t) (m : ∀ σ H Q, t' σ H Q → t σ H Q) : PE X e t' := ⟨fun pins s σ H Q I q => h.run pins s σ H Q I (m σ H Q q)⟩
theorem PT.mono {t t' : TT} (h : PT X e t) (m : ∀ σ H Q, t' σ H Q → t σ H Q) : PT X e t' := ⟨fun pins s σ H Q I q => h.run pins s σ H Q I (m σ H Q q)⟩
theorem PW.mono {t t' : TT} (h : PW X e t) (m : ∀ σ H Q, t' σ H Q → t σ H Q) : PW X e t' := ⟨fun wh pins s σ H Q I q => h.run wh pins s σ H Q I (m σ H Q q)⟩
theorem PA.mono {t t' : TA} (h : PA X es t) (m : ∀ σ H Q, t' σ H Q → t σ H Q) : PA X es t' := ⟨fun pos pins s σ H Q I q => h.run pos pins s σ H Q I (m σ H Q q)⟩

theorem pv_name (i : Nat) (h : PE X e (tVar i)) : PV X e (fVar i) := PE.mono h fun σ H Q ⟨O, ρ, d, ok, e, q⟩ => by
  unfold fVar at e
  split at e
  · rename_i d' hi
    cases e
    obtain ⟨v, hv, r⟩ := ok.val i _ hi
    exact ⟨v, hv, q v H (Same.refl H) r⟩
  · cases e
theorem pv_const {v : V} {d : PyData} (hr : ∀ H, RpX X H v d) (h : PE X e (tC v)) : PV X e (fC d) := PE.mono h fun σ H Q ⟨O, ρ, d', ok, e, q⟩ => by
  cases e
  exact q v H (Same.refl H) (hr _)
theorem pv_int {i j pos} : PV X (.Constant (.int i) j pos) (fC (.int i)) := pv_const (fun _ => .int i) pe_int
theorem pv_bl {k j pos} : PV X (.Constant (.bool k) j pos) (fC (.bool k)) := pv_const (fun _ => .bl k) pe_bl
theorem pv_non {j pos} : PV X (.Constant .none j pos) (fC .none) := pv_const (fun _ => .non) pe_non
theorem pv_str {x j pos} : PV X (.Constant (.str x) j pos) (fC (.str x)) := pv_const (fun _ => .str x) pe_str
theorem pv_glob {x : Str} {v : V} {u : Value} {d : PyData} {pos : Pos} (hg : Gl X x) (hm : X.mg x = some u) (r : RelV v u) (hr : ∀ H, RpX X H v d) (hd : (x == ("__debug__" : Str)) = false := by decide) : PV X (.Name x pos) (fC d) :=
  pv_const hr (pe_glob hg hm r hd)

/-! ### operations on values -/
def Gives2 (X : Cx) (r : R2) (g : PyData → PyData → Option PyData) : Prop := ∀ O H x y d e z Q, Sub O H → RpX X (cut O H) x d → RpX X (cut O H) y e → g d e = some z →
  (∀ v H', Same H H' → RpX X (cut O H') v z → Q v H') → r x y H Q
theorem tOp_of {r : R2} {g : PyData → PyData → Option PyData} (hg : Gives2 X r g) (σ : L2.St) (H : Hp) (Q : VK) (h : tV X (o2 g f f') σ H Q) : tOp r (tV X f) (tV X f') σ H Q := by
  obtain ⟨O, ρ, z, ok, e, q⟩ := h
  obtain ⟨d, e1, e⟩ := Option.bind_eq_some_iff.mp e
  obtain ⟨d', e2, e3⟩ := Option.bind_eq_some_iff.mp e
  exact ⟨O, ρ, d, ok, e1, fun x H1 s1 r1 => ⟨O, ρ, d', ok.same s1, e2, fun y H2 s2 r2 =>
    hg O H2 x y d d' z Q (ok.sub.same (s1.trans s2)) (r1.mono (cut_same s2)) r2 e3 fun v H' s3 r3 => q v H' (s1.trans (s2.trans s3)) r3⟩⟩
theorem pv_bin {op : Operator} {r : R2} {g : PyData → PyData → Option PyData} (ho : OpR X (binaryOp op) r) (hg : Gives2 X r g) (ha : PV X a f) (hb : PV X b f') : PV X (.BinOp a op b pos) (o2 g f f') :=
  PE.mono (pe_op ho ha hb) (tOp_of hg)
theorem pv_cmp {op : CmpOp} {r : R2} {g : PyData → PyData → Option PyData} (ho : OpR X (compareOp op) r) (hg : Gives2 X r g) (ha : PV X a f) (hb : PV X b f') (hm : behindInMarks op b = false) : PV X (.Compare a [op] [b] pos) (o2 g f f') :=
  PE.mono (pe_cmpR ho ha hb hm) (tOp_of hg)
theorem bl_of {H : Hp} {v : V} {k : Bool} (h : RpX X H v (.bool k)) : v = .bl k := by cases h; rfl
theorem tTest_of {t : TE} {g : FE} (m : ∀ σ H Q, tV X g σ H Q → t σ H Q) (σ : L2.St) (H : Hp) (Q : Bool → Hp → Prop) (h : tVT X g σ H Q) : tTest t σ H Q := by
  obtain ⟨O, ρ, z, ok, e, q⟩ := h
  exact m σ H _ ⟨O, ρ, _, ok, e, fun v H' s r => ⟨z, bl_of r, q H' s⟩⟩
theorem pvt_cmp {op : CmpOp} {r : R2} {g : PyData → PyData → Option PyData} (ho : OpR X (compareOp op) r) (hg : Gives2 X r g) (ha : PV X a f) (hb : PV X b f') (hm : behindInMarks op b = false) : PVT X (.Compare a [op] [b] pos) (o2 g f f') :=
  PT.mono (pt_cmpR ho ha hb hm) (tTest_of (tOp_of hg))
theorem pvt_val (h : PV X e f) (he : ∀ whole, isTrue e X.env whole = (do let v ← whole; standAt e.pos; holding [v] (truthy v)) := by intro _; rfl) : PVT X e f :=
  PT.mono (pt_val h he) fun σ H Q ⟨O, ρ, z, ok, e, q⟩ => ⟨O, ρ, _, ok, e, fun v H' s r => ⟨z, bl_of r, q H' s⟩⟩

/-! ### and, or, not, if -/
theorem pvw_one_and (h : PVT X a f) : PVW X (.BoolOp .And [a] pos) f := pw_and1 h
theorem pvw_one_or (h : PVT X a f) : PVW X (.BoolOp .Or [a] pos) f := pw_or1 h
theorem and_of (σ : L2.St) (H : Hp) (Q : Bool → Hp → Prop) (h : tVT X (fAnd f f') σ H Q) : tAnd (tVT X f) (tVT X f') σ H Q := by
  obtain ⟨O, ρ, z, ok, e, q⟩ := h
  obtain ⟨d, e1, e⟩ := Option.bind_eq_some_iff.mp e
  split at e
  · exact ⟨O, ρ, true, ok, e1, fun H1 s1 => iteT ⟨O, ρ, z, ok.same s1, e, fun H2 s2 => q H2 (s1.trans s2)⟩⟩
  · cases e
    exact ⟨O, ρ, false, ok, e1, fun H1 s1 => iteF (q H1 s1)⟩
  · cases e
theorem or_of (σ : L2.St) (H : Hp) (Q : Bool → Hp → Prop) (h : tVT X (fOr f f') σ H Q) : tOr (tVT X f) (tVT X f') σ H Q := by
  obtain ⟨O, ρ, z, ok, e, q⟩ := h
  obtain ⟨d, e1, e⟩ := Option.bind_eq_some_iff.mp e
  split at e
  · cases e
    exact ⟨O, ρ, true, ok, e1, fun H1 s1 => iteT (q H1 s1)⟩
  · exact ⟨O, ρ, false, ok, e1, fun H1 s1 => iteF ⟨O, ρ, z, ok.same s1, e, fun H2 s2 => q H2 (s1.trans s2)⟩⟩
  · cases e
theorem pvw_and {rest : List Expr} (ha : PVT X a f) (hb : PVW X (.BoolOp .And (b :: rest) pos) f') : PVW X (.BoolOp .And (a :: b :: rest) pos) (fAnd f f') := PW.mono (pw_and ha hb) and_of
theorem pvw_or {rest : List Expr} (ha : PVT X a f) (hb : PVW X (.BoolOp .Or (b :: rest) pos) f') : PVW X (.BoolOp .Or (a :: b :: rest) pos) (fOr f f') := PW.mono (pw_or ha hb) or_of
theorem pvt_not (h : PVT X a f) : PVT X (.UnaryOp .Not a pos) (o1 dNot f) := PT.mono (pt_not h) fun σ H Q ⟨O, ρ, z, ok, e, q⟩ => by
  obtain ⟨d, e1, e⟩ := Option.bind_eq_some_iff.mp e
  cases d with
  | bool k =>
    cases e
    exact ⟨O, ρ, k, ok, e1, fun H1 s1 => q H1 s1⟩
  | _ => cases e
theorem pv_one {op : BoolOp} (h : PV X a f) : PV X (.BoolOp op [a] pos) f := pe_one h
theorem pv_and {rest : List Expr} (ha : PV X a f) (hb : PV X (.BoolOp .And (b :: rest) pos) f') : PV X (.BoolOp .And (a :: b :: rest) pos) (fAnd f f') := PE.mono (pe_and ha hb) fun σ H Q ⟨O, ρ, z, ok, e, q⟩ => by
  obtain ⟨d, e1, e⟩ := Option.bind_eq_some_iff.mp e
  split at e
  · exact ⟨O, ρ, _, ok, e1, fun v H1 s1 r1 => ⟨true, bl_of r1, iteT ⟨O, ρ, z, ok.same s1, e, fun v H2 s2 r2 => q v H2 (s1.trans s2) r2⟩⟩⟩
  · cases e
    exact ⟨O, ρ, _, ok, e1, fun v H1 s1 r1 => ⟨false, bl_of r1, iteF (q _ H1 s1 (.bl false))⟩⟩
  · cases e
theorem pv_or {rest : List Expr} (ha : PV X a f) (hb : PV X (.BoolOp .Or (b :: rest) pos) f') : PV X (.BoolOp .Or (a :: b :: rest) pos) (fOr f f') := PE.mono (pe_or ha hb) fun σ H Q ⟨O, ρ, z, ok, e, q⟩ => by
  obtain ⟨d, e1, e⟩ := Option.bind_eq_some_iff.mp e
  split at e
  · cases e
    exact ⟨O, ρ, _, ok, e1, fun v H1 s1 r1 => ⟨true, bl_of r1, iteT (q _ H1 s1 (.bl true))⟩⟩
  · exact ⟨O, ρ, _, ok, e1, fun v H1 s1 r1 => ⟨false, bl_of r1, iteF ⟨O, ρ, z, ok.same s1, e, fun v H2 s2 r2 => q v H2 (s1.trans s2) r2⟩⟩⟩
  · cases e
theorem pv_not (h : PV X a f) : PV X (.UnaryOp .Not a pos) (o1 dNot f) := PE.mono (pe_not h) fun σ H Q ⟨O, ρ, z, ok, e, q⟩ => by
  obtain ⟨d, e1, e⟩ := Option.bind_eq_some_iff.mp e
  cases d with
  | bool k =>
    cases e
    exact ⟨O, ρ, _, ok, e1, fun v H1 s1 r1 => ⟨k, bl_of r1, q _ H1 s1 (.bl _)⟩⟩
  | _ => cases e
theorem pv_ifExp (hc : PVT X c f'') (ha : PV X a f) (hb : PV X b f') : PV X (.IfExp c a b pos) (fIf f'' f f') := PE.mono (pe_ifExp hc ha hb) fun σ H Q ⟨O, ρ, z, ok, e, q⟩ => by
  obtain ⟨d, e1, e⟩ := Option.bind_eq_some_iff.mp e
  split at e
  · exact ⟨O, ρ, _, ok, e1, fun H1 s1 => iteT ⟨O, ρ, z, ok.same s1, e, fun v H2 s2 r2 => q v H2 (s1.trans s2) r2⟩⟩
  · exact ⟨O, ρ, _, ok, e1, fun H1 s1 => iteF ⟨O, ρ, z, ok.same s1, e, fun v H2 s2 r2 => q v H2 (s1.trans s2) r2⟩⟩
  · cases e

/-! ### arguments, displays, calls -/
theorem pva_nil : PVA X [] a0 := PA.mono pa_nil fun σ H Q ⟨O, ρ, ds, ok, e, q⟩ => by
  cases e
  exact q [] H (Same.refl H) .nil
theorem pva_cons (ha : PV X e f) (hr : PVA X es r) (hs : starEach (e :: es) X.env = (false, eval e X.env) :: starEach es X.env := by rfl) : PVA X (e :: es) (ac f r) := PA.mono (pa_cons ha hr hs) fun σ H Q ⟨O, ρ, ds, ok, e, q⟩ => by
  obtain ⟨x, e1, e⟩ := Option.bind_eq_some_iff.mp e
  obtain ⟨xs, e2, e⟩ := Option.bind_eq_some_iff.mp e
  cases e
  exact ⟨O, ρ, x, ok, e1, fun v H1 s1 r1 => ⟨O, ρ, xs, ok.same s1, e2, fun vs H2 s2 r2 => q _ H2 (s1.trans s2) (.cons (r1.mono (cut_same s2)) r2)⟩⟩
theorem small30 {n : Nat} (h : n ≤ 30) : n ≤ sizeLine := Nat.le_of_lt (small1000 (Nat.le_trans h (by decide)))
theorem pv_tup {x1 : Nat} {n : Nat} (h : PVA X es r) (hl : LenA r n) (hn : n ≤ 30 := by decide) : PV X (.Tuple es x1 pos) (fTup r) := PE.mono (pe_tup h) fun σ H Q ⟨O, ρ, d, ok, e, q⟩ => by
  obtain ⟨xs, e1, e⟩ := Option.bind_eq_some_iff.mp e
  cases e
  refine ⟨O, ρ, xs, ok, e1, fun vs H1 s1 r1 => ⟨?_, fun p hp => q _ _ (s1.trans (same_upd hp)) (.tup (SqT.of (cut_newat (ok.sub.same s1) hp)) (r1.mono (cut_new (ok.sub.same s1) hp)))⟩⟩
  rw [r1.len, hl.of ρ xs e1]
  exact small30 hn
theorem pv_lst {n : Nat} (h : PVA X es r) (hl : LenA r n) (hn : n ≤ 30 := by decide) : PV X (.List es pos) (fLst r) := PE.mono (pe_lst h) fun σ H Q ⟨O, ρ, d, ok, e, q⟩ => by
  obtain ⟨xs, e1, e⟩ := Option.bind_eq_some_iff.mp e
  cases e
  refine ⟨O, ρ, xs, ok, e1, fun vs H1 s1 r1 => ⟨?_, fun p hp => q _ _ (s1.trans (same_upd hp)) (.lst (cut_newat (ok.sub.same s1) hp) (r1.mono (cut_new (ok.sub.same s1) hp)))⟩⟩
  rw [r1.len, hl.of ρ xs e1]
  exact small30 hn
/-- the promise of a def that computes φ of n values -/
def spP (P : Program) (w : World) (K : PySem.W.Frag) (n : Nat) (φ : List PyData → Option PyData) : Sp := fun vs H Q _ => ∃ O ds d, Sub O H ∧ RpAll P w K (cut O H) vs ds ∧ ds.length = n ∧ φ ds = some d ∧
  ∀ v H', Same H H' → Rp P w K (cut O H') v d → Q v H'
theorem pv_call {k n : Nat} {fa : Addr} {fd : FuncData} {ps : List Str} {φ : List PyData → Option PyData} {x : Str} {p : Pos} (F : FnOk X.prog X.w X.K X.mg X.base CX0 k fa fd ps (spP X.prog X.w X.K n φ)) (hr : Room k X.A) (hg : Gl X x) (hm : X.mg x = some (.ref fa))
    (hk : PySem.W.keepIn X.K (.ref fa) = true) (hb : Binds X.K fd ps []) (ha : PVA X (e :: es) r) (hl : LenA r n) (hdb : (x == ("__debug__" : Str)) = false := by decide)
    (he : starEach (e :: es) X.env = (false, eval e X.env) :: starEach es X.env := by rfl) (hpl : (backTo pos (starEach es X.env)).any (·.1) = false := by rfl) : PV X (.Call (.Name x p) (e :: es) [] pos) (oA φ r) :=
  PE.mono (pe_call F hr hg hm hk hb .nil pass0 ha hdb he hpl) fun σ H Q ⟨O, ρ, d, ok, e, q⟩ => by
    obtain ⟨xs, e1, e⟩ := Option.bind_eq_some_iff.mp e
    refine ⟨O, ρ, xs, ok, e1, fun vs H1 s1 r1 => ⟨O, xs, d, ok.sub.same s1, ?_, hl.of ρ xs e1, e, fun v H2 s2 r2 => q v H2 (s1.trans s2) r2⟩⟩
    rw [List.append_nil]
    exact r1
def GivesA (X : Cx) (rr : List V → Hp → VK → Prop) (g : List PyData → Option PyData) : Prop := ∀ O H vs ds z Q, Sub O H → RpAllX X (cut O H) vs ds → g ds = some z → (∀ v H', Same H H' → RpX X (cut O H') v z → Q v H') → rr vs H Q
theorem tCB_of {rr : List V → Hp → VK → Prop} {g : List PyData → Option PyData} (hg : GivesA X rr g) (σ : L2.St) (H : Hp) (Q : VK) (h : tV X (oA g r) σ H Q) : tCB rr (tVA X r) σ H Q := by
  obtain ⟨O, ρ, d, ok, e, q⟩ := h
  obtain ⟨xs, e1, e⟩ := Option.bind_eq_some_iff.mp e
  exact ⟨O, ρ, xs, ok, e1, fun vs H1 s1 r1 => hg O H1 vs xs d Q (ok.sub.same s1) r1 e fun v H2 s2 r2 => q v H2 (s1.trans s2) r2⟩
theorem pv_bi {id : String} {rr : List V → Hp → VK → Prop} {g : List PyData → Option PyData} {x : Str} {p : Pos} (hc : CallR X (.builtin id) rr) (hgv : GivesA X rr g) (hg : Gl X x) (hm : X.mg x = none) (hv : bootBuiltins x = some (.builtin id)) (ha : PVA X (e :: es) r)
    (hn : x ≠ "__name__" := by decide) (hdb : (x == ("__debug__" : Str)) = false := by decide)
    (he : starEach (e :: es) X.env = (false, eval e X.env) :: starEach es X.env := by rfl) (hpl : (backTo pos (starEach es X.env)).any (·.1) = false := by rfl) : PV X (.Call (.Name x p) (e :: es) [] pos) (oA g r) :=
  PE.mono (pe_callB hc hg hm hv ha hn hdb he hpl) (tCB_of hgv)
theorem pv_ty {T : String} {rr : List V → Hp → VK → Prop} {g : List PyData → Option PyData} {x : Str} {p : Pos} (hc : CallR X (.type T) rr) (hgv : GivesA X rr g) (hg : Gl X x) (hm : X.mg x = none) (hv : bootBuiltins x = some (.type T)) (ha : PVA X (e :: es) r)
    (hn : x ≠ "__name__" := by decide) (hdb : (x == ("__debug__" : Str)) = false := by decide)
    (he : starEach (e :: es) X.env = (false, eval e X.env) :: starEach es X.env := by rfl) (hpl : (backTo pos (starEach es X.env)).any (·.1) = false := by rfl) : PV X (.Call (.Name x p) (e :: es) [] pos) (oA g r) :=
  PE.mono (pe_callTy hc hg hm hv ha hn hdb he hpl) (tCB_of hgv)
end
end L3

/-! L3C: the operations that the program uses, on data. -/
namespace L3
open PySem PySem.Spec PyProof.Rows L2

/-! ### what the operations compute -/
def dAdd : PyData → PyData → Option PyData
  | .int i, .int j => some (.int (i + j))
  | .int i, .bool k => some (.int (i + b2i k))
  | .list xs, .list ys => if xs.length + ys.length ≤ 100000 then some (.list (xs ++ ys)) else none
  | _, _ => none
def dSub : PyData → PyData → Option PyData
  | .int i, .int j => some (.int (i - j))
  | _, _ => none
def dMul : PyData → PyData → Option PyData
  | .int i, .int j => if -(2 ^ 64) < i ∧ i < 2 ^ 64 then some (.int (i * j)) else none
  | _, _ => none
def dDiv : PyData → PyData → Option PyData
  | .int i, .int j => if 0 < j ∧ j < 1073741824 then some (.int (i / j)) else none
  | _, _ => none
def dMod : PyData → PyData → Option PyData
  | .int i, .int j => if 0 < j then some (.int (i % j)) else none
  | _, _ => none
def dLt : PyData → PyData → Option PyData
  | .int i, .int j => some (.bool (decide (i < j)))
  | _, _ => none
def dLe : PyData → PyData → Option PyData
  | .int i, .int j => some (.bool (decide (i ≤ j)))
  | _, _ => none
def dGt : PyData → PyData → Option PyData
  | .int i, .int j => some (.bool (decide (j < i)))
  | _, _ => none
def dGe : PyData → PyData → Option PyData
  | .int i, .int j => some (.bool (decide (j ≤ i)))
  | _, _ => none
/-- == of scalars -/
def dEq : PyData → PyData → Option PyData
  | .int i, .int j => some (.bool (decide (i = j)))
  | .str i, .str j => some (.bool (decide (i = j)))
  | .bool i, .bool j => some (.bool (decide (i = j)))
  | _, _ => none
def dNe : PyData → PyData → Option PyData
  | .int i, .int j => some (.bool (!decide (i = j)))
  | .str i, .str j => some (.bool (!decide (i = j)))
  | .bool i, .bool j => some (.bool (!decide (i = j)))
  | _, _ => none
/-- == with an empty tuple or list -/
def isE : PyData → PyData → Option Bool
  | .tuple xs, .tuple ys => if PyData.canLayAll0 xs && ys.isEmpty then some xs.isEmpty else none
  | .list xs, .list ys => if PyData.canLayAll0 xs && ys.isEmpty then some xs.isEmpty else none
  | _, _ => none
def dEqE (d e : PyData) : Option PyData := (isE d e).map PyData.bool
def dNeE (d e : PyData) : Option PyData := (isE d e).map fun k => PyData.bool (!k)
/-- == of data -/
def dEqD (d e : PyData) : Option PyData := if SeqAt.shaped d && SeqAt.shaped e then some (.bool (PyData.eqv d e)) else none
def dNeD (d e : PyData) : Option PyData := if SeqAt.shaped d && SeqAt.shaped e then some (.bool (!PyData.eqv d e)) else none
def flatD : PyData → Bool
  | .int _ => true
  | .str _ => true
  | _ => false
def eqF : PyData → PyData → Bool
  | .int a, .int b => a == b
  | .str a, .str b => a == b
  | _, _ => false
def inL (d : PyData) (ys : List PyData) : Option PyData := if flatD d && ys.all flatD then some (.bool (ys.any fun y => eqF y d)) else none
def dIn : PyData → PyData → Option PyData
  | d, .list ys => inL d ys
  | d, .tuple ys => inL d ys
  | _, _ => none
def dNotN : PyData → PyData → Option PyData
  | .none, .none => some (.bool false)
  | .list _, .none => some (.bool true)
  | .tuple _, .none => some (.bool true)
  | .int _, .none => some (.bool true)
  | _, _ => none
def dIsN : PyData → PyData → Option PyData
  | .none, .none => some (.bool true)
  | .list _, .none => some (.bool false)
  | .tuple _, .none => some (.bool false)
  | .int _, .none => some (.bool false)
  | _, _ => none
def dIdx : PyData → PyData → Option PyData
  | .tuple xs, .int i => atI xs i
  | .list xs, .int i => atI xs i
  | _, _ => none
def cutL {α : Type} (xs : List α) (lo hi : Option Int) : List α := (xs.drop (HT.sIx xs.length 0 lo)).take (HT.sIx xs.length xs.length hi - HT.sIx xs.length 0 lo)

/-! ### values out of data -/
section
variable {P : Program} {w : World} {K : PySem.W.Frag} {H : Hp} {v : V} {vs : List V}
theorem rp_int {i : Int} (h : Rp P w K H v (.int i)) : v = .int i := by cases h; rfl
theorem rp_str {i : Str} (h : Rp P w K H v (.str i)) : v = .str i := by cases h; rfl
theorem rp_bl {i : Bool} (h : Rp P w K H v (.bool i)) : v = .bl i := by cases h; rfl
theorem rp_non (h : Rp P w K H v .none) : v = .non := by cases h; rfl
theorem rp_lst {ds : List PyData} (h : Rp P w K H v (.list ds)) : ∃ a xs, v = .ref a ∧ H a = some (.lst xs) ∧ RpAll P w K H xs ds := by
  cases h with
  | lst e r => exact ⟨_, _, rfl, e, r⟩
theorem rp_tup {ds : List PyData} (h : Rp P w K H v (.tuple ds)) : ∃ a xs, v = .ref a ∧ SqT K H a xs ∧ RpAll P w K H xs ds := by
  cases h with
  | tup e r => exact ⟨_, _, rfl, e, r⟩
theorem RpAll.atI {vs : List V} {ds : List PyData} {i : Int} {d : PyData} (r : RpAll P w K H vs ds) (h : L2.atI ds i = some d) : ∃ x, L2.atI vs i = some x ∧ Rp P w K H x d := by
  unfold L2.atI at h ⊢
  rw [r.len]
  cases q : ixN ds.length i with
  | none => rw [q] at h; cases h
  | some j =>
    rw [q] at h
    exact r.at h
theorem flat_of {d : PyData} (h : flatD d = true) (r : Rp P w K H v d) : flatV v = true := by
  cases d with
  | int i => rw [rp_int r]; rfl
  | str i => rw [rp_str r]; rfl
  | _ => cases h
theorem flat_all : ∀ {ds : List PyData} {vs : List V}, ds.all flatD = true → RpAll P w K H vs ds → vs.all flatV = true
  | _, _, _, .nil => rfl
  | _, _, h, .cons r ra => by
    simp only [List.all_cons, Bool.and_eq_true] at h ⊢
    exact ⟨flat_of h.1 r, flat_all h.2 ra⟩
theorem eqV_of {d e : PyData} {x y : V} (h : flatD d = true) (h' : flatD e = true) (r : Rp P w K H x d) (r' : Rp P w K H y e) : eqV y x = eqF e d := by
  cases d with
  | int i =>
    rw [rp_int r]
    cases e with
    | int j => rw [rp_int r']; rfl
    | str j => rw [rp_str r']; rfl
    | _ => cases h'
  | str i =>
    rw [rp_str r]
    cases e with
    | int j => rw [rp_int r']; rfl
    | str j => rw [rp_str r']; rfl
    | _ => cases h'
  | _ => cases h
theorem any_of {d : PyData} {x : V} (h : flatD d = true) (r : Rp P w K H x d) : ∀ {ds : List PyData} {vs : List V}, ds.all flatD = true → RpAll P w K H vs ds → (vs.any fun y => eqV y x) = ds.any fun y => eqF y d
  | _, _, _, .nil => rfl
  | _, _, hs, .cons r' ra => by
    simp only [List.all_cons, Bool.and_eq_true] at hs
    simp only [List.any_cons]
    rw [eqV_of h hs.1 r r', any_of h r hs.2 ra]
end

section
variable {X : Cx} {e a b c : Expr} {es : List Expr} {f f' f'' : FE} {r r' : FA} {pos : Pos}
/-- rules for two ints -/
theorem g2int {C : Int → Int → Prop} {g : Int → Int → V} {k : PyData → PyData → Option PyData} (hk : ∀ d e z, k d e = some z → ∃ i j, d = .int i ∧ e = .int j ∧ C i j ∧ ∀ H, RpX X H (g i j) z) : Gives2 X (rI C g) k := by
  intro O H x y d e z Q _ hx hy ez q
  obtain ⟨i, j, rfl, rfl, hc, hz⟩ := hk d e z ez
  exact ⟨i, j, rp_int hx, rp_int hy, hc, q _ H (Same.refl H) (hz _)⟩
theorem g2int0 {g : Int → Int → V} {k : PyData → PyData → Option PyData} (hk : ∀ d e z, k d e = some z → ∃ i j, d = .int i ∧ e = .int j ∧ ∀ H, RpX X H (g i j) z) : Gives2 X (rI0 g) k := by
  intro O H x y d e z Q _ hx hy ez q
  obtain ⟨i, j, rfl, rfl, hz⟩ := hk d e z ez
  exact ⟨i, j, rp_int hx, rp_int hy, q _ H (Same.refl H) (hz _)⟩
theorem pv_add (ha : PV X a f) (hb : PV X b f') : PV X (.BinOp a .Add b pos) (o2 dAdd f f') := by
  refine pv_bin ((op_add.or op_add_ib).or op_cat) ?_ ha hb
  intro O H x y d e z Q sub hx hy ez q
  unfold dAdd at ez
  split at ez
  · cases ez
    exact .inl (.inl ⟨_, _, rp_int hx, rp_int hy, q _ H (Same.refl H) (.int _)⟩)
  · cases ez
    exact .inl (.inr ⟨_, _, rp_int hx, rp_bl hy, q _ H (Same.refl H) (.int _)⟩)
  · split at ez
    · cases ez
      rename_i hl
      obtain ⟨p1, xs, rfl, h1, r1⟩ := rp_lst hx
      obtain ⟨p2, ys, rfl, h2, r2⟩ := rp_lst hy
      refine .inr ⟨p1, p2, xs, ys, rfl, rfl, (cut_of h1).1, (cut_of h2).1, ?_, fun p hp => q _ _ (same_upd hp) (.lst (cut_newat sub hp) ((r1.app r2).mono (cut_new sub hp)))⟩
      rw [r1.len, r2.len]
      exact Nat.le_trans hl (by decide)
    · cases ez
  · cases ez
theorem pv_sub (ha : PV X a f) (hb : PV X b f') : PV X (.BinOp a .Sub b pos) (o2 dSub f f') := by
  refine pv_bin op_sub (g2int0 fun d e z h => ?_) ha hb
  unfold dSub at h
  split at h
  · cases h
    exact ⟨_, _, rfl, rfl, fun _ => .int _⟩
  · cases h
theorem pv_mul (ha : PV X a f) (hb : PV X b f') : PV X (.BinOp a .Mult b pos) (o2 dMul f f') := by
  refine pv_bin op_mul (g2int fun d e z h => ?_) ha hb
  unfold dMul at h
  split at h
  · split at h
    · rename_i hc
      cases h
      exact ⟨_, _, rfl, rfl, .inl hc, fun _ => .int _⟩
    · cases h
  · cases h
theorem pv_div (ha : PV X a f) (hb : PV X b f') : PV X (.BinOp a .FloorDiv b pos) (o2 dDiv f f') := by
  refine pv_bin op_fdiv (g2int fun d e z h => ?_) ha hb
  unfold dDiv at h
  split at h
  · split at h
    · rename_i hc
      cases h
      exact ⟨_, _, rfl, rfl, hc, fun _ => .int _⟩
    · cases h
  · cases h
theorem pv_mod (ha : PV X a f) (hb : PV X b f') : PV X (.BinOp a .Mod b pos) (o2 dMod f f') := by
  refine pv_bin op_mod (g2int fun d e z h => ?_) ha hb
  unfold dMod at h
  split at h
  · split at h
    · rename_i hc
      cases h
      exact ⟨_, _, rfl, rfl, hc, fun _ => .int _⟩
    · cases h
  · cases h
theorem g_lt : Gives2 X (rI0 fun i j => .bl (decide (i < j))) dLt := g2int0 fun d e z h => by
  unfold dLt at h
  split at h
  · cases h
    exact ⟨_, _, rfl, rfl, fun _ => .bl _⟩
  · cases h
theorem g_le : Gives2 X (rI0 fun i j => .bl (decide (i ≤ j))) dLe := g2int0 fun d e z h => by
  unfold dLe at h
  split at h
  · cases h
    exact ⟨_, _, rfl, rfl, fun _ => .bl _⟩
  · cases h
theorem g_gt : Gives2 X (rI0 fun i j => .bl (decide (j < i))) dGt := g2int0 fun d e z h => by
  unfold dGt at h
  split at h
  · cases h
    exact ⟨_, _, rfl, rfl, fun _ => .bl _⟩
  · cases h
theorem g_ge : Gives2 X (rI0 fun i j => .bl (decide (j ≤ i))) dGe := g2int0 fun d e z h => by
  unfold dGe at h
  split at h
  · cases h
    exact ⟨_, _, rfl, rfl, fun _ => .bl _⟩
  · cases h
theorem g_eq : Gives2 X rEq dEq := by
  intro O H x y d e z Q _ hx hy ez q
  unfold dEq at ez
  split at ez
  · cases ez
    rw [rp_int hx, rp_int hy]
    refine ⟨rfl, q _ H (Same.refl H) ?_⟩
    simp only [V.int.injEq]
    exact .bl _
  · cases ez
    rw [rp_str hx, rp_str hy]
    refine ⟨rfl, q _ H (Same.refl H) ?_⟩
    simp only [V.str.injEq]
    exact .bl _
  · cases ez
    rw [rp_bl hx, rp_bl hy]
    refine ⟨rfl, q _ H (Same.refl H) ?_⟩
    simp only [V.bl.injEq]
    exact .bl _
  · cases ez
theorem g_ne : Gives2 X rNe dNe := by
  intro O H x y d e z Q _ hx hy ez q
  unfold dNe at ez
  split at ez
  · cases ez
    rw [rp_int hx, rp_int hy]
    refine ⟨rfl, q _ H (Same.refl H) ?_⟩
    simp only [V.int.injEq]
    exact .bl _
  · cases ez
    rw [rp_str hx, rp_str hy]
    refine ⟨rfl, q _ H (Same.refl H) ?_⟩
    simp only [V.str.injEq]
    exact .bl _
  · cases ez
    rw [rp_bl hx, rp_bl hy]
    refine ⟨rfl, q _ H (Same.refl H) ?_⟩
    simp only [V.bl.injEq]
    exact .bl _
  · cases ez
/-- == where one side is not deep -/
def rEqR (K : PySem.W.Frag) (neg : Bool) : R2 := fun x y H Q => ∃ d e, Dp K H x d ∧ Dp K H y e ∧ d.canLay0 = true ∧ e.canLay0 = true ∧ min d.depth e.depth ≤ 1 ∧ Q (.bl (if neg then !PyData.eqv d e else PyData.eqv d e)) H
theorem op_eqR (hu : X.A.units + 64 < cLine) : OpR X (compareOp .Eq) (rEqR X.K false) := by
  intro pins s σ H x y v u Q I rx ry h
  obtain ⟨d, e, hd, he, cd, ce, hm, q⟩ := h
  obtain ⟨as, r1⟩ := Dp.reads I d x v hd rx
  obtain ⟨bs, r2⟩ := Dp.reads I e y u he ry
  exact SeqAt.compareEq_reads r1 r2 cd ce (by omega) ⟨.bl _, H, I, rfl, q⟩
theorem op_neR (hu : X.A.units + 64 < cLine) : OpR X (compareOp .NotEq) (rEqR X.K true) := by
  intro pins s σ H x y v u Q I rx ry h
  obtain ⟨d, e, hd, he, cd, ce, hm, q⟩ := h
  obtain ⟨as, r1⟩ := Dp.reads I d x v hd rx
  obtain ⟨bs, r2⟩ := Dp.reads I e y u he ry
  exact SeqAt.compareNe_reads r1 r2 cd ce (by omega) ⟨.bl _, H, I, rfl, q⟩
theorem isE_of {d e : PyData} {k : Bool} (h : isE d e = some k) : d.canLay0 = true ∧ e.canLay0 = true ∧ min d.depth e.depth ≤ 1 ∧ PyData.eqv d e = k := by
  unfold isE at h
  split at h
  · rename_i xs ys
    split at h
    · rename_i hc
      simp only [Bool.and_eq_true, List.isEmpty_iff] at hc
      obtain ⟨h1, rfl⟩ := hc
      cases h
      refine ⟨by simpa [PyData.canLay0] using h1, by simp [PyData.canLay0, PyData.canLayAll0], ?_, ?_⟩
      · simp only [PyData.depth, PyData.depthAll]
        omega
      · cases xs <;> simp [PyData.eqv, PyData.eqvAll]
    · cases h
  · rename_i xs ys
    split at h
    · rename_i hc
      simp only [Bool.and_eq_true, List.isEmpty_iff] at hc
      obtain ⟨h1, rfl⟩ := hc
      cases h
      refine ⟨by simpa [PyData.canLay0] using h1, by simp [PyData.canLay0, PyData.canLayAll0], ?_, ?_⟩
      · simp only [PyData.depth, PyData.depthAll]
        omega
      · cases xs <;> simp [PyData.eqv, PyData.eqvAll]
    · cases h
  · cases h
theorem g_eqE : Gives2 X (rEqR X.K false) dEqE := by
  intro O H x y d e z Q _ hx hy ez q
  obtain ⟨k, e1, rfl⟩ := Option.map_eq_some_iff.mp ez
  obtain ⟨c1, c2, hm, ev⟩ := isE_of e1
  refine ⟨d, e, (hx.mono cut_le).dp (noDict_of d c1), (hy.mono cut_le).dp (noDict_of e c2), c1, c2, hm, q _ H (Same.refl H) ?_⟩
  rw [ev]
  exact .bl _
theorem g_neE : Gives2 X (rEqR X.K true) dNeE := by
  intro O H x y d e z Q _ hx hy ez q
  obtain ⟨k, e1, rfl⟩ := Option.map_eq_some_iff.mp ez
  obtain ⟨c1, c2, hm, ev⟩ := isE_of e1
  refine ⟨d, e, (hx.mono cut_le).dp (noDict_of d c1), (hy.mono cut_le).dp (noDict_of e c2), c1, c2, hm, q _ H (Same.refl H) ?_⟩
  rw [ev]
  exact .bl _
theorem g_eqD : Gives2 X (rEqD X.K) dEqD := by
  intro O H x y d e z Q _ hx hy ez q
  unfold dEqD at ez
  split at ez
  · rename_i hc
    simp only [Bool.and_eq_true] at hc
    cases ez
    exact ⟨d, e, (hx.mono cut_le).dp (noDict_of d (SeqAt.canLay_of_shaped hc.1)), (hy.mono cut_le).dp (noDict_of e (SeqAt.canLay_of_shaped hc.2)), hc.1, hc.2, q _ H (Same.refl H) (.bl _)⟩
  · cases ez
theorem g_neD : Gives2 X (rNeD X.K) dNeD := by
  intro O H x y d e z Q _ hx hy ez q
  unfold dNeD at ez
  split at ez
  · rename_i hc
    simp only [Bool.and_eq_true] at hc
    cases ez
    exact ⟨d, e, (hx.mono cut_le).dp (noDict_of d (SeqAt.canLay_of_shaped hc.1)), (hy.mono cut_le).dp (noDict_of e (SeqAt.canLay_of_shaped hc.2)), hc.1, hc.2, q _ H (Same.refl H) (.bl _)⟩
  · cases ez
theorem g_in : Gives2 X (rIn X.K false) dIn := by
  intro O H x y d e z Q _ hx hy ez q
  unfold dIn at ez
  split at ez
  · unfold inL at ez
    split at ez
    · rename_i hc
      simp only [Bool.and_eq_true] at hc
      cases ez
      obtain ⟨p, xs, rfl, h1, r1⟩ := rp_lst hy
      refine ⟨p, xs, rfl, .inl (SqL.of (cut_of h1).1), flat_of hc.1 hx, flat_all hc.2 r1, q _ H (Same.refl H) ?_⟩
      show RpX X _ (.bl (inV x xs)) _
      unfold inV
      rw [any_of hc.1 hx hc.2 r1]
      exact .bl _
    · cases ez
  · unfold inL at ez
    split at ez
    · rename_i hc
      simp only [Bool.and_eq_true] at hc
      cases ez
      obtain ⟨p, xs, rfl, h1, r1⟩ := rp_tup hy
      refine ⟨p, xs, rfl, .inr (Same.seqT cut_le h1), flat_of hc.1 hx, flat_all hc.2 r1, q _ H (Same.refl H) ?_⟩
      show RpX X _ (.bl (inV x xs)) _
      unfold inV
      rw [any_of hc.1 hx hc.2 r1]
      exact .bl _
    · cases ez
  · cases ez
theorem g_notN : Gives2 X (fun x y H Q => y = .non ∧ Q (.bl (!decide (x = .non))) H) dNotN := by
  intro O H x y d e z Q _ hx hy ez q
  unfold dNotN at ez
  split at ez
  · cases ez
    rw [rp_non hx, rp_non hy]
    exact ⟨rfl, q _ H (Same.refl H) (.bl _)⟩
  · cases ez
    obtain ⟨p, xs, rfl, _, _⟩ := rp_lst hx
    rw [rp_non hy]
    exact ⟨rfl, q _ H (Same.refl H) (.bl _)⟩
  · cases ez
    obtain ⟨p, xs, rfl, _, _⟩ := rp_tup hx
    rw [rp_non hy]
    exact ⟨rfl, q _ H (Same.refl H) (.bl _)⟩
  · cases ez
    rw [rp_int hx, rp_non hy]
    exact ⟨rfl, q _ H (Same.refl H) (.bl _)⟩
  · cases ez
theorem g_isN : Gives2 X (fun x y H Q => y = .non ∧ Q (.bl (decide (x = .non))) H) dIsN := by
  intro O H x y d e z Q _ hx hy ez q
  unfold dIsN at ez
  split at ez
  · cases ez
    rw [rp_non hx, rp_non hy]
    exact ⟨rfl, q _ H (Same.refl H) (.bl _)⟩
  · cases ez
    obtain ⟨p, xs, rfl, _, _⟩ := rp_lst hx
    rw [rp_non hy]
    exact ⟨rfl, q _ H (Same.refl H) (.bl _)⟩
  · cases ez
    obtain ⟨p, xs, rfl, _, _⟩ := rp_tup hx
    rw [rp_non hy]
    exact ⟨rfl, q _ H (Same.refl H) (.bl _)⟩
  · cases ez
    rw [rp_int hx, rp_non hy]
    exact ⟨rfl, q _ H (Same.refl H) (.bl _)⟩
  · cases ez
/-- a chain of two comparisons of ints -/
def fChain (g g' : PyData → PyData → Option PyData) (f f' f'' : FE) : FE := fun ρ => (f ρ).bind fun x => (f' ρ).bind fun y => (g x y).bind fun k => match k with
  | .bool true => (f'' ρ).bind fun z => g' y z
  | .bool false => some (.bool false)
  | _ => none
theorem tChain_of {r1 r2 : R2} {g g' : PyData → PyData → Option PyData} (h1 : Gives2 X r1 g) (h2 : Gives2 X r2 g') (σ : L2.St) (H : Hp) (Q : VK) (h : tV X (fChain g g' f f' f'') σ H Q) : tChain r1 r2 (tV X f) (tV X f') (tV X f'') σ H Q := by
  obtain ⟨O, ρ, z, ok, e, q⟩ := h
  obtain ⟨x, e1, e⟩ := Option.bind_eq_some_iff.mp e
  obtain ⟨y, e2, e⟩ := Option.bind_eq_some_iff.mp e
  obtain ⟨k, e3, e⟩ := Option.bind_eq_some_iff.mp e
  refine ⟨O, ρ, x, ok, e1, fun vx H1 s1 q1 => ⟨O, ρ, y, ok.same s1, e2, fun vy H2 s2 q2 => ?_⟩⟩
  refine h1 O H2 vx vy x y k _ (ok.sub.same (s1.trans s2)) (q1.mono (cut_same s2)) q2 e3 fun v H3 s3 q3 => ?_
  split at e
  · refine ⟨true, bl_of q3, iteT ?_⟩
    obtain ⟨u, e4, e5⟩ := Option.bind_eq_some_iff.mp e
    refine ⟨O, ρ, u, ok.same (s1.trans (s2.trans s3)), e4, fun vu H4 s4 q4 => ?_⟩
    exact h2 O H4 vy vu y u z _ (ok.sub.same (s1.trans (s2.trans (s3.trans s4)))) (q2.mono (cut_same (s3.trans s4))) q4 e5 fun v5 H5 s5 q5 => q v5 H5 (s1.trans (s2.trans (s3.trans (s4.trans s5)))) q5
  · cases e
    exact ⟨false, bl_of q3, iteF (q _ H3 (s1.trans (s2.trans s3)) (.bl false))⟩
  · cases e
theorem pv_chain {op op' : CmpOp} {r1 r2 : R2} {g g' : PyData → PyData → Option PyData} (ho : OpR X (compareOp op) r1) (ho' : OpR X (compareOp op') r2) (h1 : Gives2 X r1 g) (h2 : Gives2 X r2 g') (ha : PV X a f) (hb : PV X b f') (hc : PV X c f'')
    (hm : lastMarks [op, op'] [b, c] = false := by with_unfolding_all rfl) : PV X (.Compare a [op, op'] [b, c] pos) (fChain g g' f f' f'') := PE.mono (pe_chain ho ho' ha hb hc hm) (tChain_of h1 h2)

/-! ### subscripts -/
theorem g_ix : Gives2 X (fun x y H Q => rIxL X.K x y H Q ∨ rIxT X.K x y H Q) dIdx := by
  intro O H x y d e z Q _ hx hy ez q
  unfold dIdx at ez
  split at ez
  · obtain ⟨p, xs, rfl, h1, r1⟩ := rp_tup hx
    obtain ⟨u, e1, r2⟩ := r1.atI ez
    exact .inr ⟨p, xs, _, u, rfl, rp_int hy, Same.seqT cut_le h1, e1, q u H (Same.refl H) r2⟩
  · obtain ⟨p, xs, rfl, h1, r1⟩ := rp_lst hx
    obtain ⟨u, e1, r2⟩ := r1.atI ez
    exact .inl ⟨p, xs, _, u, rfl, rp_int hy, SqL.of (cut_of h1).1, e1, q u H (Same.refl H) r2⟩
  · cases ez
theorem pv_ix (ha : PV X a f) (hb : PV X b f') (hs : PlainIx b := by exact fun _ _ => rfl) : PV X (.Subscript a b pos) (o2 dIdx f f') := PE.mono (pe_ix (ix_list.or ix_tup) ha hb hs) (tOp_of g_ix)
abbrev FO := PEnv → Option (Option Int)
def tVO (X : Cx) (f : FO) : TO := fun σ H Q => ∃ O ρ o, EnvX X O ρ σ H ∧ f ρ = some o ∧ ∀ H', Same H H' → Q o H'
def pNone : FO := fun _ => some none
def toI : PyData → Option (Option Int)
  | .int i => some (some i)
  | _ => none
def pSome (f : FE) : FO := fun ρ => (f ρ).bind toI
theorem PO.mono {eo : Option Expr} {t t' : TO} (h : PO X eo t) (m : ∀ σ H Q, t' σ H Q → t σ H Q) : PO X eo t' := ⟨fun pins s σ H Q I q => h.run pins s σ H Q I (m σ H Q q)⟩
theorem pvo_none : PO X none (tVO X pNone) := PO.mono po_none fun σ H Q ⟨O, ρ, d, ok, e, q⟩ => by
  cases e
  exact q H (Same.refl H)
theorem pvo_some (h : PV X e f) : PO X (some e) (tVO X (pSome f)) := PO.mono (po_some h) fun σ H Q ⟨O, ρ, d, ok, e, q⟩ => by
  obtain ⟨x, e1, e⟩ := Option.bind_eq_some_iff.mp e
  cases x with
  | int i =>
    cases e
    exact ⟨O, ρ, _, ok, e1, fun v H1 s1 r1 => ⟨i, rp_int r1, q H1 s1⟩⟩
  | _ => cases e
def dCut (lo hi : Option Int) : PyData → Option PyData
  | .list xs => some (.list (cutL xs lo hi))
  | _ => none
def fCut (f : FE) (l h : FO) : FE := fun ρ => (f ρ).bind fun x => (l ρ).bind fun lo => (h ρ).bind fun hi => dCut lo hi x
theorem pv_cut {lo hi : Option Expr} {p2 : Pos} {l h : FO} (he : PV X e f) (hl : PO X lo (tVO X l)) (hu : PO X hi (tVO X h)) : PV X (.Subscript e (.Slice lo hi none p2) pos) (fCut f l h) := PE.mono (pe_slice sl_list he hl hu) fun σ H Q ⟨O, ρ, d, ok, e, q⟩ => by
  obtain ⟨x, e1, e⟩ := Option.bind_eq_some_iff.mp e
  obtain ⟨ol, e2, e⟩ := Option.bind_eq_some_iff.mp e
  obtain ⟨oh, e3, e⟩ := Option.bind_eq_some_iff.mp e
  cases x with
  | list ds =>
    cases e
    refine ⟨O, ρ, _, ok, e1, fun v H1 s1 r1 => ⟨O, ρ, _, ok.same s1, e2, fun H2 s2 => ⟨O, ρ, _, ok.same (s1.trans s2), e3, fun H3 s3 => ?_⟩⟩⟩
    obtain ⟨p, xs, rfl, h1, r2⟩ := rp_lst r1
    have s13 := s2.trans s3
    have sub := ok.sub.same (s1.trans s13)
    refine ⟨p, xs, rfl, SqL.of (s13 _ _ (cut_of h1).1), fun n hn => q _ _ (s1.trans (s13.trans (same_upd hn))) (.lst (cut_newat sub hn) ?_)⟩
    unfold cutV cutL
    rw [r2.len]
    exact RpAll.mono (cut_same (s13.trans (same_upd hn))) ((r2.drop _).take _)
  | _ => cases e

/-! ### built-ins -/
def gLen : List PyData → Option PyData
  | [.list xs] => some (.int xs.length)
  | [.tuple xs] => some (.int xs.length)
  | _ => none
theorem gv_len : GivesA X (fun xs H Q => ∃ p ys, xs = [.ref p] ∧ (SqL X.K H p ys ∨ SqT X.K H p ys) ∧ Q (.int ys.length) H) gLen := by
  intro O H vs ds z Q sub hv ez q
  unfold gLen at ez
  split at ez
  · cases ez
    cases hv with
    | cons h1 h2 =>
      cases h2
      obtain ⟨p, xs, rfl, h3, r⟩ := rp_lst h1
      refine ⟨p, xs, rfl, .inl (SqL.of (cut_of h3).1), q _ H (Same.refl H) ?_⟩
      rw [r.len]
      exact .int _
  · cases ez
    cases hv with
    | cons h1 h2 =>
      cases h2
      obtain ⟨p, xs, rfl, h3, r⟩ := rp_tup h1
      refine ⟨p, xs, rfl, .inr (Same.seqT cut_le h3), q _ H (Same.refl H) ?_⟩
      rw [r.len]
      exact .int _
  · cases ez
def gMax : List PyData → Option PyData
  | [.int i, .int j] => some (.int (if j > i then j else i))
  | _ => none
def gMin : List PyData → Option PyData
  | [.int i, .int j] => some (.int (if j < i then j else i))
  | _ => none
def gAbs : List PyData → Option PyData
  | [.int i] => some (.int (if i < 0 then -i else i))
  | _ => none
theorem gv_max : GivesA X (fun xs H Q => ∃ i j, xs = [.int i, .int j] ∧ Q (.int (if j > i then j else i)) H) gMax := by
  intro O H vs ds z Q sub hv ez q
  unfold gMax at ez
  split at ez
  · cases ez
    cases hv with
    | cons h1 h2 =>
      cases h2 with
      | cons h2 h3 =>
        cases h3
        rw [rp_int h1, rp_int h2]
        exact ⟨_, _, rfl, q _ H (Same.refl H) (.int _)⟩
  · cases ez
theorem gv_min : GivesA X (fun xs H Q => ∃ i j, xs = [.int i, .int j] ∧ Q (.int (if j < i then j else i)) H) gMin := by
  intro O H vs ds z Q sub hv ez q
  unfold gMin at ez
  split at ez
  · cases ez
    cases hv with
    | cons h1 h2 =>
      cases h2 with
      | cons h2 h3 =>
        cases h3
        rw [rp_int h1, rp_int h2]
        exact ⟨_, _, rfl, q _ H (Same.refl H) (.int _)⟩
  · cases ez
theorem gv_abs : GivesA X (fun xs H Q => ∃ i, xs = [.int i] ∧ Q (.int (if i < 0 then -i else i)) H) gAbs := by
  intro O H vs ds z Q sub hv ez q
  unfold gAbs at ez
  split at ez
  · cases ez
    cases hv with
    | cons h1 h2 =>
      cases h2
      rw [rp_int h1]
      exact ⟨_, rfl, q _ H (Same.refl H) (.int _)⟩
  · cases ez
def isBl : PyData → Bool
  | .bool _ => true
  | _ => false
def tru : PyData → Bool
  | .bool b => b
  | _ => false
def gAll : List PyData → Option PyData
  | [.list xs] => if xs.all isBl then some (.bool (xs.all tru)) else none
  | _ => none
theorem bls_of {H : Hp} : ∀ {ds : List PyData} {vs : List V}, ds.all isBl = true → RpAllX X H vs ds → vs = (ds.map tru).map V.bl
  | _, _, _, .nil => rfl
  | d :: _, _, h, .cons r ra => by
    simp only [List.all_cons, Bool.and_eq_true] at h
    cases d with
    | bool k =>
      rw [rp_bl r, bls_of h.2 ra]
      rfl
    | _ => exact absurd h.1 Bool.false_ne_true
theorem gv_all : GivesA X (rAll X.K) gAll := by
  intro O H vs ds z Q sub hv ez q
  unfold gAll at ez
  split at ez
  · split at ez
    · rename_i hb
      cases ez
      cases hv with
      | cons h1 h2 =>
        cases h2
        obtain ⟨p, xs, rfl, h3, r⟩ := rp_lst h1
        have e := bls_of hb r
        subst e
        refine ⟨p, _, rfl, SqL.of (cut_of h3).1, q _ H (Same.refl H) ?_⟩
        rw [List.all_map]
        exact .bl _
    · cases ez
  · cases ez
def gTup : List PyData → Option PyData
  | [.list xs] => some (.tuple xs)
  | _ => none
theorem gv_tup : GivesA X (fun xs H Q => ∃ p ys, xs = [.ref p] ∧ ((SqL X.K H p ys ∧ ∀ l, H l = none → Q (.ref l) (upd H l (.tup ys))) ∨ (SqT X.K H p ys ∧ Q (.ref p) H))) gTup := by
  intro O H vs ds z Q sub hv ez q
  unfold gTup at ez
  split at ez
  · cases ez
    cases hv with
    | cons h1 h2 =>
      cases h2
      obtain ⟨p, xs, rfl, h3, r⟩ := rp_lst h1
      exact ⟨p, xs, rfl, .inl ⟨SqL.of (cut_of h3).1, fun l hl => q _ _ (same_upd hl) (.tup (SqT.of (cut_newat sub hl)) (r.mono (cut_new sub hl)))⟩⟩
  · cases ez
end
end L3

/-! L3D: targets, statements, loops, comprehensions, a def's promise. -/
namespace L3
open PySem PySem.Spec PyProof.Rows L2

/-! ### changing the environment -/
section
variable {P : Program} {w : World} {K : PySem.W.Frag} {O O' : Addr → Prop} {ρ ρ' : PEnv} {σ σ' : L2.St} {H H' : Hp}
theorem set_at {α : Type} {l : List α} {i j : Nat} {x y : α} (h : (l.set i x)[j]? = some y) : (i = j ∧ x = y) ∨ (i ≠ j ∧ l[j]? = some y) := by
  by_cases e : i = j
  · subst e
    by_cases hl : i < l.length
    · rw [List.getElem?_set_self hl] at h
      exact .inl ⟨rfl, Option.some.inj h⟩
    · rw [List.getElem?_eq_none (by simpa using hl)] at h
      cases h
  · rw [List.getElem?_set_ne e] at h
    exact .inr ⟨e, h⟩
/-- the owned slots of the one are those of the other, at the same objects -/
def OwnLe (ρ' : PEnv) (σ' : L2.St) (ρ : PEnv) (σ : L2.St) : Prop := ∀ (i : Nat) (a : Addr), OwnAt ρ' i → σ'[i]? = some (some (V.ref a)) → OwnAt ρ i ∧ σ[i]? = some (some (V.ref a))
theorem OwnLe.refl : OwnLe ρ σ ρ σ := fun i a h e => ⟨h, e⟩
theorem OwnLe.trans {ρ1 ρ2 ρ3 : PEnv} {σ1 σ2 σ3 : L2.St} (a : OwnLe ρ3 σ3 ρ2 σ2) (b : OwnLe ρ2 σ2 ρ1 σ1) : OwnLe ρ3 σ3 ρ1 σ1 := fun i x h e => let ⟨h1, e1⟩ := a i x h e; b i x h1 e1
theorem ownLe_put (i : Nat) (d : PyData) (v : V) (hl : ρ.length = σ.length) : OwnLe (ρ.set i (some (EV.val d))) (σ.set i (some v)) ρ σ := fun j a ⟨e, h, ho⟩ e2 => by
  rcases set_at h with ⟨_, e3⟩ | ⟨hn, h2⟩
  · cases e3
    exact ho.elim
  · rcases set_at e2 with ⟨e3, _⟩ | ⟨_, e2⟩
    · exact absurd e3 hn
    · exact ⟨⟨e, h2, ho⟩, e2⟩
theorem EnvOk.put (h : EnvOk P w K O ρ σ H) (i : Nat) {d : PyData} {v : V} (r : Rp P w K (cut O H) v d) : EnvOk P w K O (ρ.set i (some (EV.val d))) (σ.set i (some v)) H where
  sub := h.sub
  len := by rw [List.length_set, List.length_set, h.len]
  val := fun j e q => by
    rcases set_at q with ⟨rfl, e2⟩ | ⟨hn, q⟩
    · cases e2
      have hl : i < σ.length := by
        obtain ⟨q1, _⟩ := List.getElem?_eq_some_iff.mp q
        rw [List.length_set, h.len] at q1
        exact q1
      exact ⟨v, List.getElem?_set_self hl, r⟩
    · obtain ⟨x, e1, r1⟩ := h.val j e q
      exact ⟨x, by rw [List.getElem?_set_ne hn]; exact e1, r1⟩
  lst := fun j e q => by
    rcases set_at q with ⟨_, e2⟩ | ⟨hn, q⟩
    · cases e2
    · obtain ⟨a, vs, e1, r1⟩ := h.lst j e q
      exact ⟨a, vs, by rw [List.getElem?_set_ne hn]; exact e1, r1⟩
  dct := fun j e q => by
    rcases set_at q with ⟨_, e2⟩ | ⟨hn, q⟩
    · cases e2
    · obtain ⟨a, vs, e1, r1⟩ := h.dct j e q
      exact ⟨a, vs, by rw [List.getElem?_set_ne hn]; exact e1, r1⟩
  one := fun j k a hj hk e1 e2 => by
    have L := ownLe_put (ρ := ρ) (σ := σ) i d v h.len
    obtain ⟨h1, q1⟩ := L j a hj e1
    obtain ⟨h2, q2⟩ := L k a hk e2
    exact h.one j k a h1 h2 q1 q2
/-- slots forgotten -/
def wipeE (ρ : PEnv) : List Nat → PEnv
  | [] => ρ
  | v :: vs => (wipeE ρ vs).set v none
theorem wipeE_len : ∀ vs : List Nat, (wipeE ρ vs).length = ρ.length
  | [] => rfl
  | v :: vs => by unfold wipeE; rw [List.length_set, wipeE_len vs]
theorem wipeE_some {i : Nat} {x : EV} : ∀ {vs : List Nat}, (wipeE ρ vs)[i]? = some (some x) → ρ[i]? = some (some x) ∧ i ∉ vs
  | [], h => ⟨h, by simp⟩
  | v :: vs, h => by
    unfold wipeE at h
    rcases set_at h with ⟨_, e⟩ | ⟨hn, h⟩
    · cases e
    · obtain ⟨h1, h2⟩ := wipeE_some h
      refine ⟨h1, fun z => ?_⟩
      rcases List.mem_cons.mp z with z | z
      · exact hn z.symm
      · exact h2 z
theorem wipe_keep {i : Nat} : ∀ {vs : List Nat}, i ∉ vs → (wipe σ vs)[i]? = σ[i]?
  | [], _ => rfl
  | v :: vs, h => by
    have h1 : v ≠ i := fun e => h (e ▸ List.mem_cons_self)
    have h2 : i ∉ vs := fun e => h (List.mem_cons_of_mem _ e)
    show ((wipe σ vs).set v none)[i]? = σ[i]?
    rw [List.getElem?_set_ne h1]
    exact wipe_keep h2
theorem wipe_in {i : Nat} (hi : i < σ.length) : ∀ {vs : List Nat}, i ∈ vs → (wipe σ vs)[i]? = some none
  | v :: vs, h => by
    show ((wipe σ vs).set v none)[i]? = some none
    by_cases e : v = i
    · subst e
      exact List.getElem?_set_self (by rw [wipe_length]; exact hi)
    · rw [List.getElem?_set_ne e]
      rcases List.mem_cons.mp h with z | z
      · exact absurd z.symm e
      · exact wipe_in hi z
theorem wipe_same {vs : List Nat} (hl : σ'.length = σ.length) (h : ∀ j, j ∉ vs → σ'[j]? = σ[j]?) : wipe σ' vs = wipe σ vs := by
  apply List.ext_getElem?
  intro j
  by_cases hj : j ∈ vs
  · by_cases hb : j < σ.length
    · rw [wipe_in hb hj, wipe_in (by omega) hj]
    · rw [List.getElem?_eq_none (by rw [wipe_length]; omega), List.getElem?_eq_none (by rw [wipe_length]; omega)]
  · rw [wipe_keep hj, wipe_keep hj, h j hj]
theorem wipe_idem {vs : List Nat} : wipe (wipe σ vs) vs = wipe σ vs := wipe_same (by rw [wipe_length]) fun j hj => wipe_keep hj
theorem EnvOk.wiped (h : EnvOk P w K O ρ σ H) (vs : List Nat) : EnvOk P w K O (wipeE ρ vs) (wipe σ vs) H where
  sub := h.sub
  len := by rw [wipeE_len, wipe_length, h.len]
  val := fun j e q => by
    obtain ⟨q, hj⟩ := wipeE_some q
    obtain ⟨v, e1, r⟩ := h.val j e q
    exact ⟨v, by rw [wipe_keep hj]; exact e1, r⟩
  lst := fun j e q => by
    obtain ⟨q, hj⟩ := wipeE_some q
    obtain ⟨a, v, e1, r⟩ := h.lst j e q
    exact ⟨a, v, by rw [wipe_keep hj]; exact e1, r⟩
  dct := fun j e q => by
    obtain ⟨q, hj⟩ := wipeE_some q
    obtain ⟨a, v, e1, r⟩ := h.dct j e q
    exact ⟨a, v, by rw [wipe_keep hj]; exact e1, r⟩
  one := fun i j a ⟨e1, h1, o1⟩ ⟨e2, h2, o2⟩ q1 q2 => by
    obtain ⟨h1, n1⟩ := wipeE_some h1
    obtain ⟨h2, n2⟩ := wipeE_some h2
    rw [wipe_keep n1] at q1
    rw [wipe_keep n2] at q2
    exact h.one i j a ⟨e1, h1, o1⟩ ⟨e2, h2, o2⟩ q1 q2
/-- one more address is owned, which no slot holds: a new list that a comprehension fills -/
theorem EnvOk.more (h : EnvOk P w K O ρ σ H) {p : Addr} {u : HO} (hp : H p = none) : EnvOk P w K (fun a => O a ∨ a = p) ρ σ (upd H p u) := by
  have hn : ¬ O p := h.sub.no hp
  have sc : Same (cut O H) (cut (fun a => O a ∨ a = p) (upd H p u)) := fun a x e => by
    obtain ⟨e1, n1⟩ := cut_of e
    have ne : a ≠ p := ne_of_none e1 hp
    rw [cut_at (fun z => z.elim n1 ne), upd_ne ne]
    exact e1
  refine ⟨fun a z => ?_, h.len, fun i d e => ?_, fun i d e => ?_, fun i d e => ?_, h.one⟩
  · by_cases e : a = p
    · rw [e, upd_same]
      exact fun z => by cases z
    · rw [upd_ne e]
      rcases z with z | z
      · exact h.sub a z
      · exact absurd z e
  · obtain ⟨v, e1, r⟩ := h.val i d e
    exact ⟨v, e1, r.mono sc⟩
  · obtain ⟨a, v, e1, o, e2, r⟩ := h.lst i d e
    exact ⟨a, v, e1, .inl o, same_upd hp _ _ e2, r.mono sc⟩
  · obtain ⟨a, v, e1, o, e2, r⟩ := h.dct i d e
    exact ⟨a, v, e1, .inl o, same_upd hp _ _ e2, r.mono sc⟩
end

/-! ### targets -/
abbrev FT := PyData → PEnv → Option PEnv
abbrev FTs := List PyData → PEnv → Option PEnv
/-- the values go to the slots is -/
def tG (X : Cx) (is : List Nat) (g : FT) : TG := fun v σ H Q => ∃ O ρ d ρ', EnvX X O ρ σ H ∧ RpX X (cut O H) v d ∧ g d ρ = some ρ' ∧
  ∀ σ', EnvX X O ρ' σ' H → OwnLe ρ' σ' ρ σ → σ'.length = σ.length → (∀ j, j ∉ is → σ'[j]? = σ[j]?) → Q σ' H
def tGs (X : Cx) (is : List Nat) (g : FTs) : TGs := fun vs σ H Q => ∃ O ρ ds ρ', EnvX X O ρ σ H ∧ RpAllX X (cut O H) vs ds ∧ g ds ρ = some ρ' ∧
  ∀ σ', EnvX X O ρ' σ' H → OwnLe ρ' σ' ρ σ → σ'.length = σ.length → (∀ j, j ∉ is → σ'[j]? = σ[j]?) → Q σ' H
def gN (i : Nat) : FT := fun d ρ => some (ρ.set i (some (.val d)))
def gs0 : FTs := fun ds ρ => match ds with
  | [] => some ρ
  | _ => none
def gsC (g : FT) (r : FTs) : FTs := fun ds ρ => match ds with
  | d :: ds => (g d ρ).bind fun ρ' => r ds ρ'
  | [] => none
def gT (r : FTs) : FT := fun d ρ => match d with
  | .tuple ds => r ds ρ
  | _ => none
def gL (r : FTs) : FT := fun d ρ => match d with
  | .list ds => r ds ρ
  | _ => none
section
variable {X : Cx} {tg e : Expr} {es : List Expr} {pos : Pos} {is is' : List Nat} {g : FT} {r : FTs}
theorem PG.mono {t t' : TG} (h : PG X tg t) (m : ∀ v σ H Q, t' v σ H Q → t v σ H Q) : PG X tg t' := ⟨fun pins s σ H v u Q I r q => h.run pins s σ H v u Q I r (m v σ H Q q)⟩
theorem PGs.mono {t t' : TGs} (h : PGs X es t) (m : ∀ v σ H Q, t' v σ H Q → t v σ H Q) : PGs X es t' := ⟨fun pins s σ H v u Q I r q => h.run pins s σ H v u Q I r (m v σ H Q q)⟩
theorem pgv_name {i : Nat} (h : PG X e (gName i)) : PG X e (tG X [i] (gN i)) := PG.mono h fun v σ H Q ⟨O, ρ, d, ρ', ok, r, e, q⟩ => by
  cases e
  exact q _ (ok.put i r) (ownLe_put i d v ok.len) (List.length_set ..) fun j hj => List.getElem?_set_ne fun e => hj (by rw [e]; exact List.mem_singleton.mpr rfl)
theorem pgvs_nil : PGs X [] (tGs X [] gs0) := PGs.mono pgs_nil fun vs σ H Q ⟨O, ρ, ds, ρ', ok, r, e, q⟩ => by
  cases ds with
  | nil =>
    cases e
    cases r
    exact ⟨rfl, q σ ok .refl rfl fun _ _ => rfl⟩
  | cons _ _ => cases e
theorem pgvs_cons (h1 : PG X e (tG X is g)) (h2 : PGs X es (tGs X is' r)) (hs : (assignEach (e :: es) X.env).map (·.2) = assign e X.env :: (assignEach es X.env).map (·.2) := by rfl) : PGs X (e :: es) (tGs X (is ++ is') (gsC g r)) :=
  PGs.mono (pgs_cons h1 h2 hs) fun vs σ H Q ⟨O, ρ, ds, ρ', ok, ra, e, q⟩ => by
    cases ds with
    | nil => cases e
    | cons d ds =>
      obtain ⟨ρ1, e1, e2⟩ := Option.bind_eq_some_iff.mp e
      cases ra with
      | cons r1 r2 =>
        refine ⟨_, _, rfl, O, ρ, d, ρ1, ok, r1, e1, fun σ1 ok1 l1 n1 k1 => ⟨O, ρ1, ds, ρ', ok1, r2, e2, fun σ2 ok2 l2 n2 k2 => ?_⟩⟩
        refine q σ2 ok2 (l2.trans l1) (n2.trans n1) fun j hj => ?_
        rw [k2 j fun z => hj (List.mem_append_right _ z), k1 j fun z => hj (List.mem_append_left _ z)]
theorem pgv_tup {k n : Nat} (hc : X.calm = true) (h : PGs X es (tGs X is r)) (hlen : ∀ ds ρ ρ', r ds ρ = some ρ' → ds.length = n) (hn : (assignEach es X.env).length = n := by rfl) (hst : (assignEach es X.env).findIdx? (·.1) = none := by rfl) :
    PG X (.Tuple es k pos) (tG X is (gT r)) := PG.mono (pg_tup hc h hn hst) fun v σ H Q ⟨O, ρ, d, ρ', ok, ra, e, q⟩ => by
  cases d with
  | tuple ds =>
    obtain ⟨a, xs, rfl, h1, r1⟩ := rp_tup ra
    exact ⟨a, xs, rfl, Same.seqT cut_le h1, r1.len.trans (hlen ds ρ ρ' e), O, ρ, ds, ρ', ok, r1, e, q⟩
  | _ => cases e
theorem pgv_unl {k n : Nat} (hc : X.calm = true) (h : PGs X es (tGs X is r)) (hlen : ∀ ds ρ ρ', r ds ρ = some ρ' → ds.length = n) (hn : (assignEach es X.env).length = n := by rfl) (hst : (assignEach es X.env).findIdx? (·.1) = none := by rfl) :
    PG X (.Tuple es k pos) (tG X is (gL r)) := PG.mono (pg_unl hc h hn hst) fun v σ H Q ⟨O, ρ, d, ρ', ok, ra, e, q⟩ => by
  cases d with
  | list ds =>
    obtain ⟨a, xs, rfl, h1, r1⟩ := rp_lst ra
    exact ⟨a, xs, rfl, SqL.of (cut_of h1).1, r1.len.trans (hlen ds ρ ρ' e), O, ρ, ds, ρ', ok, r1, e, q⟩
  | _ => cases e
end
theorem gs0_len (ds : List PyData) (ρ ρ' : PEnv) (h : gs0 ds ρ = some ρ') : ds.length = 0 := by
  cases ds with
  | nil => rfl
  | cons _ _ => cases h
theorem gsC_len {g : FT} {r : FTs} {n : Nat} (hr : ∀ ds ρ ρ', r ds ρ = some ρ' → ds.length = n) (ds : List PyData) (ρ ρ' : PEnv) (h : gsC g r ds ρ = some ρ') : ds.length = n + 1 := by
  cases ds with
  | nil => cases h
  | cons d ds =>
    obtain ⟨ρ1, _, e⟩ := Option.bind_eq_some_iff.mp h
    exact congrArg (· + 1) (hr ds ρ1 ρ' e)

/-! ### statements -/
inductive Out where
  | nx (ρ : PEnv)
  | rt (d : PyData)
abbrev FS := PEnv → Option Out
structure Amb (He : Hp) (Oa O : Addr → Prop) (ρ : PEnv) (σ : L2.St) (H : Hp) : Prop where
  keep : Same He H
  le : ∀ a, Oa a → O a
  new : ∀ a, O a → ¬ Oa a → He a = none
  slot : ∀ (i : Nat) (a : Addr), OwnAt ρ i → σ[i]? = some (some (V.ref a)) → ¬ Oa a
theorem Amb.go {He H H' : Hp} {Oa O : Addr → Prop} {ρ ρ' : PEnv} {σ σ' : L2.St} (m : Amb He Oa O ρ σ H) (s : Same H H') (l : OwnLe ρ' σ' ρ σ) : Amb He Oa O ρ' σ' H' :=
  ⟨m.keep.trans s, m.le, m.new, fun i a h e => let ⟨h1, e1⟩ := l i a h e; m.slot i a h1 e1⟩
/-- what is wanted behind a result -/
def PostS (X : Cx) (He : Hp) (Oa O : Addr → Prop) (H : Hp) (D : Ends) : Option Out → Prop
  | some (.nx ρ') => ∀ O' σ' H', EnvX X O' ρ' σ' H' → Amb He Oa O' ρ' σ' H' → Same (cut O H) (cut O' H') → D.nx σ' H'
  | some (.rt d) => ∀ v H', Same He H' → RpX X (cut Oa H') v d → D.rt v H'
  | none => False
def tS (X : Cx) (He : Hp) (Oa : Addr → Prop) (f : FS) : TS := fun D σ H => ∃ O ρ, EnvX X O ρ σ H ∧ Amb He Oa O ρ σ H ∧ PostS X He Oa O H D (f ρ)
abbrev PSV (X : Cx) (He : Hp) (Oa : Addr → Prop) (st : Stmt) (f : FS) : Prop := PS X st (tS X He Oa f)
abbrev PBV (X : Cx) (He : Hp) (Oa : Addr → Prop) (st : List Stmt) (f : FS) : Prop := PSs X st (tS X He Oa f)

def sNext : FS := fun ρ => some (.nx ρ)
def sSeq (f f' : FS) : FS := fun ρ => match f ρ with
  | some (.nx ρ') => f' ρ'
  | some (.rt d) => some (.rt d)
  | none => none
def sFail : FS := fun _ => none
def sSet (i : Nat) (f : FE) : FS := fun ρ => (f ρ).bind fun d => some (.nx (ρ.set i (some (.val d))))
def sAsg (g : FT) (f : FE) : FS := fun ρ => (f ρ).bind fun d => (g d ρ).bind fun ρ' => some (.nx ρ')
def sRet (f : FE) : FS := fun ρ => (f ρ).bind fun d => some (.rt d)
def sIf (c : FE) (f f' : FS) : FS := fun ρ => (c ρ).bind fun x => match x with
  | .bool true => f ρ
  | .bool false => f' ρ
  | _ => none
def whileF (c : FE) (f : FS) : Nat → FS
  | 0, _ => none
  | n + 1, ρ => (c ρ).bind fun x => match x with
    | .bool true => sSeq f (whileF c f n) ρ
    | .bool false => some (.nx ρ)
    | _ => none
def forF (g : FT) (f : FS) : List PyData → FS
  | [], ρ => some (.nx ρ)
  | d :: ds, ρ => (g d ρ).bind fun ρ' => sSeq f (forF g f ds) ρ'
abbrev FI := PEnv → Option (List PyData)
def sFor (it : FI) (g : FT) (f : FS) : FS := fun ρ => (it ρ).bind fun ds => forF g f ds ρ

section
variable {X : Cx} {He : Hp} {Oa : Addr → Prop} {st : Stmt} {sts : List Stmt} {e c tg : Expr} {f f' : FS} {fe : FE} {pos : Pos}
theorem PS.mono {t t' : TS} (h : PS X st t) (m : ∀ D σ H, t' D σ H → t D σ H) : PS X st t' := ⟨fun pins s σ H D I q => h.run pins s σ H D I (m D σ H q)⟩
theorem PSs.mono {t t' : TS} (h : PSs X sts t) (m : ∀ D σ H, t' D σ H → t D σ H) : PSs X sts t' := ⟨fun pins s σ H D I q => h.run pins s σ H D I (m D σ H q)⟩
theorem post_same {O O' : Addr → Prop} {H H' : Hp} {D : Ends} {o : Option Out} (s : Same (cut O H) (cut O' H')) (h : PostS X He Oa O H D o) : PostS X He Oa O' H' D o := by
  cases o with
  | none => exact h
  | some r =>
    cases r with
    | nx ρ' => exact fun O2 σ2 H2 e m k => h O2 σ2 H2 e m (s.trans k)
    | rt d => exact h
theorem pbv_nil : PBV X He Oa [] sNext := PSs.mono pss_nil fun D σ H ⟨O, ρ, ok, m, q⟩ => q O σ H ok m (Same.refl _)
theorem seq_of (D : Ends) (σ : L2.St) (H : Hp) (h : tS X He Oa (sSeq f f') D σ H) : tSeq (tS X He Oa f) (tS X He Oa f') D σ H := by
  obtain ⟨O, ρ, ok, m, q⟩ := h
  refine ⟨O, ρ, ok, m, ?_⟩
  unfold sSeq at q
  cases e : f ρ with
  | none => rw [e] at q; exact q
  | some r =>
    rw [e] at q
    cases r with
    | nx ρ' => exact fun O' σ' H' ok' m' s => ⟨O', ρ', ok', m', post_same s q⟩
    | rt d => exact q
theorem pbv_cons (h1 : PSV X He Oa st f) (h2 : PBV X He Oa sts f') : PBV X He Oa (st :: sts) (sSeq f f') := PSs.mono (pss_cons h1 h2) seq_of
theorem pbv_one (h1 : PSV X He Oa st f) : PBV X He Oa [st] f := pss_one h1
theorem psv_fail : PSV X He Oa st sFail := PS.mono ps_never fun D σ H ⟨O, ρ, ok, m, q⟩ => q
theorem psv_pass : PSV X He Oa (.Pass pos) sNext := PS.mono ps_pass fun D σ H ⟨O, ρ, ok, m, q⟩ => q O σ H ok m (Same.refl _)
theorem psv_set {i : Nat} {x : Str} {pos' : Pos} (he : PV X e fe) (hN : X.N.Nodup) (hi : X.N[i]? = some x) (hx : Loc X.env.scope x) (hs : swapsWith e (some (.Name x pos')) pos.line X.env = pure false := by rfl)
    (hf : X.fn x = true ∨ X.env.scope.names.lookup x = some .local := by first | exact .inl rfl | exact .inr rfl) : PSV X He Oa (.Assign [.Name x pos'] e pos) (sSet i fe) :=
  PS.mono (ps_set hN hi hx he hs hf) fun D σ H ⟨O, ρ, ok, m, q⟩ => by
    unfold sSet at q
    cases e1 : fe ρ with
    | none => rw [e1] at q; exact q.elim
    | some d =>
      rw [e1] at q
      exact ⟨O, ρ, d, ok, e1, fun v H1 s1 r1 => q O _ H1 ((ok.same s1).put i r1) (m.go s1 (ownLe_put i d v ok.len)) (cut_same s1)⟩
theorem asg_of {is : List Nat} {g : FT} (D : Ends) (σ : L2.St) (H : Hp) (h : tS X He Oa (sAsg g fe) D σ H) : tAsg (tV X fe) (tG X is g) D σ H := by
  obtain ⟨O, ρ, ok, m, q⟩ := h
  unfold sAsg at q
  cases e1 : fe ρ with
  | none => rw [e1] at q; exact q.elim
  | some d =>
    rw [e1] at q
    cases e2 : g d ρ with
    | none => simp only [Option.bind_some, e2] at q; exact q.elim
    | some ρ' =>
      simp only [Option.bind_some, e2] at q
      exact ⟨O, ρ, d, ok, e1, fun v H1 s1 r1 => ⟨O, ρ, d, ρ', ok.same s1, r1, e2, fun σ' ok' l _ _ => q O σ' H1 ok' (m.go s1 l) (cut_same s1)⟩⟩
theorem psv_asg {is : List Nat} {g : FT} (he : PV X e fe) (hg : PG X tg (tG X is g)) (hs : swapsWithSole [tg] e pos.line X.env = pure false := by rfl) (hw : swappedStores [tg] e X.env = pure none := by rfl)
    (h1 : (assignEach [tg] X.env).map (·.2) = [assign tg X.env] := by rfl) : PSV X He Oa (.Assign [tg] e pos) (sAsg g fe) := PS.mono (ps_asg he hg hs hw h1) asg_of
theorem psv_ret (he : PV X e fe) : PSV X He Oa (.Return (some e) pos) (sRet fe) := PS.mono (ps_ret he) fun D σ H ⟨O, ρ, ok, m, q⟩ => by
  unfold sRet at q
  cases e1 : fe ρ with
  | none => rw [e1] at q; exact q.elim
  | some d =>
    rw [e1] at q
    exact ⟨O, ρ, d, ok, e1, fun v H1 s1 r1 => q v H1 (m.keep.trans s1) (r1.mono (cut_sub m.le))⟩
theorem psv_if {a b : List Stmt} (hc : PVT X c fe) (ha : PBV X He Oa a f) (hb : PBV X He Oa b f') : PSV X He Oa (.If c a b pos) (sIf fe f f') := PS.mono (ps_if hc ha hb) fun D σ H ⟨O, ρ, ok, m, q⟩ => by
  unfold sIf at q
  cases e1 : fe ρ with
  | none => rw [e1] at q; exact q.elim
  | some d =>
    rw [e1] at q
    cases d with
    | bool k =>
      refine ⟨O, ρ, k, ok, e1, fun H1 s1 => ?_⟩
      cases k with
      | true => exact iteT ⟨O, ρ, ok.same s1, m.go s1 .refl, post_same (cut_same s1) q⟩
      | false => exact iteF ⟨O, ρ, ok.same s1, m.go s1 .refl, post_same (cut_same s1) q⟩
    | _ => exact q.elim
theorem psv_while {body : List Stmt} (n : Nat) (hp : PassesOwn (model X.prog X.w) X.A X.env X.xe) (hc : PVT X c fe) (hb : PBV X He Oa body f) : PSV X He Oa (.While c body [] pos) (whileF fe f n) := PS.mono (ps_while hp hc hb) fun D σ H h => by
  refine ⟨fun m σ H => tS X He Oa (whileF fe f m) D σ H, ⟨n, h⟩, fun m σ H ⟨O, ρ, ok, am, q⟩ => ?_⟩
  cases m with
  | zero => exact q.elim
  | succ m =>
    have q2 : PostS X He Oa O H D ((fe ρ).bind fun x => match x with
      | .bool true => sSeq f (whileF fe f m) ρ
      | .bool false => some (.nx ρ)
      | _ => none) := q
    cases e1 : fe ρ with
    | none => rw [e1] at q2; exact q2.elim
    | some d =>
      rw [e1] at q2
      cases d with
      | bool k =>
        refine ⟨O, ρ, k, ok, e1, fun H1 s1 => ?_⟩
        cases k with
        | true =>
          refine iteT ⟨fun σ' H' => tS X He Oa (whileF fe f m) D σ' H', fun σ' H' z => ⟨m, Nat.lt_succ_self m, z⟩, O, ρ, ok.same s1, am.go s1 .refl, ?_⟩
          have q3 : PostS X He Oa O H D (sSeq f (whileF fe f m) ρ) := q2
          unfold sSeq at q3
          cases e2 : f ρ with
          | none => rw [e2] at q3; exact q3.elim
          | some r =>
            rw [e2] at q3
            cases r with
            | nx ρ' => exact fun O' σ' H' ok' m' s => ⟨O', ρ', ok', m', post_same ((cut_same s1).trans s) q3⟩
            | rt d => exact q3
        | false => exact iteF (q2 O σ H1 (ok.same s1) (am.go s1 .refl) (cut_same s1))
      | _ => exact q2.elim

/-! ### what is walked -/
/-- it yields these data, as long as what is not owned stands -/
def JOk (X : Cx) (J : It) (O : Addr → Prop) (H : Hp) (ds : List PyData) : Prop := ∀ O' H', Same (cut O H) (cut O' H') → ∀ i : Nat,
  (ds.length ≤ i → J.stop i H') ∧ ∀ d, ds[i]? = some d → J.go i H' ∧ ∀ x H'', J.yld i H' x H'' → H'' = H' ∧ RpX X (cut O' H') x d
def tI (X : Cx) (f : FI) : TI := fun σ H R => ∃ O ρ ds, EnvX X O ρ σ H ∧ f ρ = some ds ∧ ∀ J H1, Same H H1 → JOk X J O H1 ds → R J H1
theorem PI.mono {iter : Expr} {t t' : TI} (h : PI X tg iter t) (m : ∀ σ H R, t' σ H R → t σ H R) : PI X tg iter t' := ⟨fun pins s σ H R I q => h.run pins s σ H R I (m σ H R q)⟩
theorem jok_list {O : Addr → Prop} {H : Hp} {a : Addr} {xs : List V} {ds : List PyData} (h : cut O H a = some (.lst xs)) (r : RpAllX X (cut O H) xs ds) : JOk X (Itl X.K a) O H ds := by
  intro O' H' s i
  have hq : SqL X.K H' a xs := SqL.of (cut_of (s _ _ h)).1
  refine ⟨fun hi => ⟨xs, hq, by rw [r.len]; exact hi⟩, fun d hd => ?_⟩
  obtain ⟨x, hx, rx⟩ := r.at hd
  refine ⟨⟨xs, x, hq, hx⟩, fun y H'' z => ⟨z.1, ?_⟩⟩
  have e := (z.2 xs hq).symm.trans hx
  cases e
  exact rx.mono s
theorem jok_tup {O : Addr → Prop} {H : Hp} {a : Addr} {xs : List V} {ds : List PyData} (h : SqT X.K (cut O H) a xs) (r : RpAllX X (cut O H) xs ds) : JOk X (Itt X.K a) O H ds := by
  intro O' H' s i
  have hq : SqT X.K H' a xs := Same.seqT cut_le (Same.seqT s h)
  refine ⟨fun hi => ⟨xs, hq, by rw [r.len]; exact hi⟩, fun d hd => ?_⟩
  obtain ⟨x, hx, rx⟩ := r.at hd
  refine ⟨⟨xs, x, hq, hx⟩, fun y H'' z => ⟨z.1, ?_⟩⟩
  have e := (z.2 xs hq).symm.trans hx
  cases e
  exact rx.mono s
def rngD (lo hi : Int) : List PyData := (List.range (hi - lo).toNat).map fun i => PyData.int (lo + (i : Nat))
theorem jok_rng {O : Addr → Prop} {H : Hp} {lo hi : Int} : JOk X (Itr lo (hi - lo).toNat) O H (rngD lo hi) := by
  intro O' H' s i
  refine ⟨fun h => ?_, fun d hd => ?_⟩
  · unfold rngD at h
    rw [List.length_map, List.length_range] at h
    exact h
  · unfold rngD at hd
    rw [List.getElem?_map] at hd
    by_cases h : i < (hi - lo).toNat
    · rw [List.getElem?_range h] at hd
      cases hd
      refine ⟨h, fun x H'' z => ⟨z.1, ?_⟩⟩
      rw [z.2]
      exact .int _
    · rw [List.getElem?_eq_none (by rw [List.length_range]; omega)] at hd
      cases hd
def iL (f : FE) : FI := fun ρ => (f ρ).bind fun x => match x with
  | .list ds => some ds
  | _ => none
def iT (f : FE) : FI := fun ρ => (f ρ).bind fun x => match x with
  | .tuple ds => some ds
  | _ => none
def iR2 (f f' : FE) : FI := fun ρ => (f ρ).bind fun x => (f' ρ).bind fun y => match x, y with
  | .int i, .int j => if -(2 ^ 62) ≤ i ∧ i < 2 ^ 62 ∧ -(2 ^ 62) ≤ j ∧ j < 2 ^ 62 then some (rngD i j) else none
  | _, _ => none
def iR1 (f : FE) : FI := fun ρ => (f ρ).bind fun x => match x with
  | .int j => if -(2 ^ 62) ≤ j ∧ j < 2 ^ 62 then some (rngD 0 j) else none
  | _ => none
theorem piv_list (he : PV X e fe) : PI X tg e (tI X (iL fe)) := PI.mono (pi_list he) fun σ H R ⟨O, ρ, ds, ok, e1, q⟩ => by
  obtain ⟨x, e2, e1⟩ := Option.bind_eq_some_iff.mp e1
  cases x with
  | list zs =>
    cases e1
    refine ⟨O, ρ, _, ok, e2, fun v H1 s1 r1 => ?_⟩
    obtain ⟨a, xs, rfl, h1, ra⟩ := rp_lst r1
    exact ⟨a, rfl, ⟨xs, SqL.of (cut_of h1).1⟩, q _ H1 s1 (jok_list h1 ra)⟩
  | _ => cases e1
theorem piv_tup (he : PV X e fe) : PI X tg e (tI X (iT fe)) := PI.mono (pi_tup he) fun σ H R ⟨O, ρ, ds, ok, e1, q⟩ => by
  obtain ⟨x, e2, e1⟩ := Option.bind_eq_some_iff.mp e1
  cases x with
  | tuple zs =>
    cases e1
    refine ⟨O, ρ, _, ok, e2, fun v H1 s1 r1 => ?_⟩
    obtain ⟨a, xs, rfl, h1, ra⟩ := rp_tup r1
    exact ⟨a, rfl, ⟨xs, Same.seqT cut_le h1⟩, q _ H1 s1 (jok_tup h1 ra)⟩
  | _ => cases e1
theorem piv_rng1 {a : Expr} {p : Pos} {fa : FE} (hg : Gl X "range") (hm : X.mg "range" = none) (ha : PV X a fa) (hsa : starEach [a] X.env = (false, eval a X.env) :: starEach [] X.env := by rfl) (hs : starEach [a] X.env = [(false, eval a X.env)] := by rfl) :
    PI X tg (.Call (.Name "range" p) [a] [] pos) (tI X (iR1 fa)) := PI.mono (pi_range1 hg hm (pa_cons ha pa_nil hsa) hs) fun σ H R ⟨O, ρ, ds, ok, e1, q⟩ => by
  obtain ⟨x, e2, e1⟩ := Option.bind_eq_some_iff.mp e1
  cases x with
  | int j =>
    simp only at e1
    split at e1
    · rename_i hb
      cases e1
      refine ⟨O, ρ, _, ok, e2, fun v H1 s1 r1 => ⟨j, by rw [rp_int r1], hb.1, hb.2, ?_⟩⟩
      have z := q (Itr 0 (j - 0).toNat) H1 s1 jok_rng
      rw [Int.sub_zero] at z
      exact z
    · cases e1
  | _ => cases e1
theorem piv_rng2 {a b : Expr} {p : Pos} {fa fb : FE} (hg : Gl X "range") (hm : X.mg "range" = none) (ha : PV X a fa) (hb : PV X b fb) (hsa : starEach [a, b] X.env = (false, eval a X.env) :: starEach [b] X.env := by rfl) (hsb : starEach [b] X.env = (false, eval b X.env) :: starEach [] X.env := by rfl)
    (hs : starEach [a, b] X.env = [(false, eval a X.env), (false, eval b X.env)] := by rfl) (hs2 : starEach [b] X.env = [(false, eval b X.env)] := by rfl) :
    PI X tg (.Call (.Name "range" p) [a, b] [] pos) (tI X (iR2 fa fb)) := PI.mono (pi_range2 hg hm (pa_cons ha (pa_cons hb pa_nil hsb) hsa) hs hs2) fun σ H R ⟨O, ρ, ds, ok, e1, q⟩ => by
  obtain ⟨x, e2, e1⟩ := Option.bind_eq_some_iff.mp e1
  obtain ⟨y, e3, e1⟩ := Option.bind_eq_some_iff.mp e1
  cases x with
  | int i =>
    cases y with
    | int j =>
      simp only at e1
      split at e1
      · rename_i hb
        cases e1
        refine ⟨O, ρ, _, ok, e2, fun v H1 s1 r1 => ⟨O, ρ, _, ok.same s1, e3, fun u H2 s2 r2 => ?_⟩⟩
        rw [rp_int r1, rp_int r2]
        exact ⟨i, j, rfl, hb, q _ H2 (s1.trans s2) jok_rng⟩
      · cases e1
    | _ => cases e1
  | _ => cases e1
/-! ### for -/
theorem psv_for {iter : Expr} {body : List Stmt} {it : FI} {g : FT} {is : List Nat} (hp : PassesOwn (model X.prog X.w) X.A X.env X.xe) (hc : X.calm = true) (hi : PI X tg iter (tI X it)) (hg : PG X tg (tG X is g)) (hb : PBV X He Oa body f)
    (hs : ∀ x, foldedSetIterable iter X.env x = pure x := by intro _; rfl) : PSV X He Oa (.For tg iter body [] pos) (sFor it g f) := PS.mono (ps_for hp hc hi hg hb hs) fun D σ H ⟨O, ρ, ok, m, q⟩ => by
  unfold sFor at q
  cases e1 : it ρ with
  | none => rw [e1] at q; exact q.elim
  | some ds =>
    rw [e1] at q
    have q : PostS X He Oa O H D (forF g f ds ρ) := q
    refine ⟨O, ρ, ds, ok, e1, fun J H1 s1 jok => ?_⟩
    refine ⟨fun i n σ' H' => n = ds.length - i ∧ i ≤ ds.length ∧ ∃ O' ρ', EnvX X O' ρ' σ' H' ∧ Amb He Oa O' ρ' σ' H' ∧ Same (cut O H1) (cut O' H') ∧ PostS X He Oa O' H' D (forF g f (ds.drop i) ρ'),
      ⟨ds.length, rfl, Nat.zero_le _, O, ρ, ok.same s1, m.go s1 .refl, Same.refl _, post_same (cut_same s1) q⟩, ?_⟩
    rintro i n σ' H' ⟨rfl, hi, O', ρ', ok', m', s', q'⟩
    by_cases hlt : i < ds.length
    · have hd : ds[i]? = some ds[i] := List.getElem?_eq_getElem hlt
      obtain ⟨go, yl⟩ := (jok O' H' s' i).2 _ hd
      refine .inr ⟨go, fun σ2 H2 => ∃ O2 ρ2, EnvX X O2 ρ2 σ2 H2 ∧ Amb He Oa O2 ρ2 σ2 H2 ∧ Same (cut O H1) (cut O2 H2) ∧ PostS X He Oa O2 H2 D (forF g f (ds.drop (i + 1)) ρ2), fun σ2 H2 z => ⟨ds.length - (i + 1), by omega, rfl, hlt, z⟩, fun x H'' y => ?_⟩
      obtain ⟨rfl, rx⟩ := yl x H'' y
      rw [List.drop_eq_getElem_cons hlt] at q'
      have q' : PostS X He Oa O' H'' D ((g ds[i] ρ').bind fun ρ1 => sSeq f (forF g f (ds.drop (i + 1))) ρ1) := q'
      cases e2 : g ds[i] ρ' with
      | none => rw [e2] at q'; exact q'.elim
      | some ρ1 =>
        rw [e2] at q'
        have q' : PostS X He Oa O' H'' D (sSeq f (forF g f (ds.drop (i + 1))) ρ1) := q'
        refine ⟨O', ρ', ds[i], ρ1, ok', rx, e2, fun σ1 ok1 l1 _ _ => ⟨O', ρ1, ok1, m'.go (Same.refl _) l1, ?_⟩⟩
        unfold sSeq at q'
        cases e3 : f ρ1 with
        | none => rw [e3] at q'; exact q'.elim
        | some r =>
          rw [e3] at q'
          cases r with
          | nx ρ2 => exact fun O2 σ2 H2 ok2 m2 s2 => ⟨O2, ρ2, ok2, m2, s'.trans s2, post_same s2 q'⟩
          | rt d => exact q'
    · have e : i = ds.length := by omega
      subst e
      rw [List.drop_length] at q'
      exact .inl ⟨(jok O' H' s' _).1 (Nat.le_refl _), q' O' σ' H' ok' m' (Same.refl _)⟩
end

/-! ### comprehensions -/
def compF (g : FT) (ft fe : FE) : List PyData → PEnv → Option (List PyData)
  | [], _ => some []
  | d :: ds, ρ => (g d ρ).bind fun ρ1 => (ft ρ1).bind fun x => match x with
    | .bool true => (fe ρ1).bind fun y => (compF g ft fe ds ρ).bind fun ys => some (y :: ys)
    | .bool false => compF g ft fe ds ρ
    | _ => none
/-- a comprehension's list -/
def fComp (vs : List Nat) (it : FI) (g : FT) (ft fe : FE) : FE := fun ρ => (it ρ).bind fun ds => if ds.length ≤ 100000 then (compF g ft fe ds (wipeE ρ vs)).bind fun ys => some (.list ys) else none
section
variable {X : Cx}
theorem PTs.mono {ifs : List Expr} {t t' : TT} (h : PTs X ifs t) (m : ∀ σ H Q, t' σ H Q → t σ H Q) : PTs X ifs t' := ⟨fun pins s σ H Q I q => h.run pins s σ H Q I (m σ H Q q)⟩
theorem ptv_nil : PTs X [] (tVT X (fC (.bool true))) := PTs.mono pts_nil fun σ H Q ⟨O, ρ, b, ok, e, q⟩ => by
  cases e
  exact q H (Same.refl H)
theorem ptv_one {c : Expr} {f : FE} (h : PVT X c f) : PTs X [c] (tVT X f) := pts_one h
theorem comp_of {vs is : List Nat} {it : FI} {g : FT} {ft fe : FE} (his : ∀ i ∈ is, i ∈ vs) (σ : L2.St) (H : Hp) (Q : VK) (h : tV X (fComp vs it g ft fe) σ H Q) : tLc (tI X it) (tG X is g) (tVT X ft) (tV X fe) vs σ H Q := by
  obtain ⟨O, ρ, z, ok, e, q⟩ := h
  obtain ⟨ds, e1, e⟩ := Option.bind_eq_some_iff.mp e
  split at e
  · rename_i hlen
    obtain ⟨zs, e2, e⟩ := Option.bind_eq_some_iff.mp e
    cases e
    refine ⟨O, ρ, ds, ok, e1, fun J H1 s1 jok D hD => ?_⟩
    have ok1 : EnvX X O ρ σ H1 := ok.same s1
    have okD : EnvX X (fun a => O a ∨ a = D) ρ σ (upd H1 D (.lst [])) := ok1.more hD
    have nD : ¬ O D := ok1.sub.no hD
    have sc0 : Same (cut O H1) (cut (fun a => O a ∨ a = D) (upd H1 D (.lst []))) := fun a x e => by
      obtain ⟨q1, n1⟩ := cut_of e
      have ne : a ≠ D := ne_of_none q1 hD
      rw [cut_at (fun z => z.elim n1 ne), upd_ne ne]
      exact q1
    refine ⟨fun i m H' => m = ds.length - i ∧ i ≤ ds.length ∧ EnvX X (fun a => O a ∨ a = D) (wipeE ρ vs) (wipe σ vs) H' ∧ Same (cut O H1) (cut (fun a => O a ∨ a = D) H') ∧ Same H1 H' ∧
      ∃ acc ys rest, H' D = some (.lst acc) ∧ RpAllX X (cut (fun a => O a ∨ a = D) H') acc ys ∧ acc.length ≤ i ∧ compF g ft fe (ds.drop i) (wipeE ρ vs) = some rest ∧ zs = ys ++ rest,
      ⟨ds.length, rfl, Nat.zero_le _, okD.wiped vs, sc0, same_upd hD, [], [], zs, upd_same, .nil, Nat.zero_le _, e2, rfl⟩, ?_⟩
    rintro i m H' ⟨rfl, hi, ok', sc, sh, acc, ys, rest, eD, ra, la, ec, ez⟩
    by_cases hlt : i < ds.length
    · obtain ⟨go, yl⟩ := (jok _ H' sc i).2 _ (List.getElem?_eq_getElem hlt)
      refine .inr ⟨go, fun H2 => i + 1 ≤ ds.length ∧ EnvX X (fun a => O a ∨ a = D) (wipeE ρ vs) (wipe σ vs) H2 ∧ Same (cut O H1) (cut (fun a => O a ∨ a = D) H2) ∧ Same H1 H2 ∧
        ∃ acc ys rest, H2 D = some (.lst acc) ∧ RpAllX X (cut (fun a => O a ∨ a = D) H2) acc ys ∧ acc.length ≤ i + 1 ∧ compF g ft fe (ds.drop (i + 1)) (wipeE ρ vs) = some rest ∧ zs = ys ++ rest,
        fun H2 z => ⟨ds.length - (i + 1), by omega, rfl, z⟩, fun x H'' y => ?_⟩
      obtain ⟨rfl, rx⟩ := yl x H'' y
      rw [List.drop_eq_getElem_cons hlt] at ec
      obtain ⟨ρ1, e3, ec⟩ := Option.bind_eq_some_iff.mp ec
      obtain ⟨t, e4, ec⟩ := Option.bind_eq_some_iff.mp ec
      refine ⟨_, _, ds[i], ρ1, ok', rx, e3, fun σ1 okσ l1 n1 k1 => ⟨?_, ?_⟩⟩
      · rw [wipe_same (σ := wipe σ vs) n1 fun j hj => k1 j fun z => hj (his j z), wipe_idem]
      · cases t with
        | bool k =>
          cases k with
          | true =>
            obtain ⟨y', e5, ec⟩ := Option.bind_eq_some_iff.mp ec
            obtain ⟨rs, e6, ec⟩ := Option.bind_eq_some_iff.mp ec
            cases ec
            refine ⟨_, ρ1, true, okσ, e4, fun H3 s3 => iteT ⟨_, ρ1, y', okσ.same s3, e5, fun u H4 s4 r4 => ?_⟩⟩
            have s34 := s3.trans s4
            have eD4 := s34 _ _ eD
            have oD : (fun a => O a ∨ a = D) D := .inr rfl
            refine ⟨acc, eD4, ?_, hlt, ?_, ?_, ?_, acc ++ [u], ys ++ [y'], rs, upd_same, ?_, ?_, e6, ?_⟩
            · rw [sizeLine_eq]
              omega
            · have base := ok'.same s34
              refine ⟨fun a za => ?_, base.len, fun j d ed => ?_, fun j d ed => ?_, fun j d ed => ?_, base.one⟩
              · by_cases ea : a = D
                · rw [ea, upd_same]
                  exact fun z => by cases z
                · rw [upd_ne ea]
                  exact base.sub a za
              · obtain ⟨v, q1, q2⟩ := base.val j d ed
                rw [cut_upd oD]
                exact ⟨v, q1, q2⟩
              · obtain ⟨a, v, q1, q2, q3, q4⟩ := ok1.wiped vs |>.lst j d ed
                have ea : a ≠ D := fun z => nD (z ▸ q2)
                obtain ⟨a', v', p1, p2, p3, p4⟩ := base.lst j d ed
                rw [q1] at p1
                cases p1
                rw [cut_upd oD]
                exact ⟨a, v', q1, .inl q2, by rw [upd_ne ea]; exact p3, p4⟩
              · obtain ⟨a, v, q1, q2, q3, q4⟩ := ok1.wiped vs |>.dct j d ed
                have ea : a ≠ D := fun z => nD (z ▸ q2)
                obtain ⟨a', v', p1, p2, p3, p4⟩ := base.dct j d ed
                rw [q1] at p1
                cases p1
                rw [cut_upd oD]
                exact ⟨a, v', q1, .inl q2, by rw [upd_ne ea]; exact p3, p4⟩
            · rw [cut_upd oD]
              exact sc.trans (cut_same s34)
            · intro a ua ea
              have na : a ≠ D := ne_of_none ea hD
              rw [upd_ne na]
              exact s34 _ _ (sh _ _ ea)
            · rw [cut_upd oD]
              exact (ra.mono (cut_same s34)).app (.cons r4 .nil)
            · rw [List.length_append, List.length_singleton]
              omega
            · rw [List.append_assoc]
              exact ez
          | false =>
            refine ⟨_, ρ1, false, okσ, e4, fun H3 s3 => iteF ⟨hlt, ok'.same s3, sc.trans (cut_same s3), sh.trans s3, acc, ys, rest, s3 _ _ eD, ra.mono (cut_same s3), by omega, ec, ez⟩⟩
        | _ => cases ec
    · have e : i = ds.length := by omega
      subst e
      rw [List.drop_length] at ec
      cases ec
      rw [List.append_nil] at ez
      subst ez
      refine .inl ⟨(jok _ H' sc _).1 (Nat.le_refl _), q _ H' (s1.trans sh) (.lst (a := D) (xs := acc) ?_ ?_)⟩
      · rw [cut_at nD]
        exact eD
      · exact ra.mono (cut_sub fun a z => .inl z)
  · cases e
theorem pv_comp {elt tg iter : Expr} {ifs : List Expr} {scope : Scope} {own : List (Str × Nat)} {pos : Pos} {it : FI} {g : FT} {is : List Nat} {ft fe : FE} (hc : X.calm = true) (hN : X.N.Nodup) (hi : PI X tg iter (tI X it)) (ok : BlkOk X.N X.env.scope scope own)
    (hg : ∀ (s : Shared) (H : Hp) (C : Addr) (cl : List (Str × Addr)) (fp : List Addr), PG (X.blk s H scope (compEnvC scope cl C X.env) fp) tg (tG X is g)) (ht : ∀ (s : Shared) (H : Hp) (C : Addr) (cl : List (Str × Addr)) (fp : List Addr), PTs (X.blk s H scope (compEnvC scope cl C X.env) fp) ifs (tVT X ft))
    (he : ∀ (s : Shared) (H : Hp) (C : Addr) (cl : List (Str × Addr)) (fp : List Addr), PE (X.blk s H scope (compEnvC scope cl C X.env) fp) elt (tV X fe)) (his : ∀ i ∈ is, i ∈ own.map (·.2)) (hs : ∀ x, foldedSetIterable iter X.env x = pure x := by intro _; rfl) :
    PV X (.ListComp elt [⟨tg, iter, ifs, 0⟩] scope pos) (fComp (own.map (·.2)) it g ft fe) := PE.mono (pe_lc hc hN hi ok hg ht he hs) (comp_of his)
theorem psv_setComp {He : Hp} {Oa : Addr → Prop} {i : Nat} {y : Str} {py spos : Pos} {elt tg iter : Expr} {ifs : List Expr} {scope : Scope} {own : List (Str × Nat)} {pos : Pos} {it : FI} {g : FT} {is : List Nat} {ft fe : FE} (hc : X.calm = true) (hN : X.N.Nodup) (hy : X.N[i]? = some y) (hyl : X.env.scope.names.lookup y = some .local)
    (hsw : swapsWith (.ListComp elt [⟨tg, iter, ifs, 0⟩] scope pos) (some (.Name y py)) spos.line X.env = pure true) (hi : PI X tg iter (tI X it)) (ok : BlkOk X.N X.env.scope scope own)
    (hg : ∀ (s : Shared) (H : Hp) (C : Addr) (cl : List (Str × Addr)) (fp : List Addr), PG (X.blk s H scope (compEnvC scope cl C X.env) fp) tg (tG X is g)) (ht : ∀ (s : Shared) (H : Hp) (C : Addr) (cl : List (Str × Addr)) (fp : List Addr), PTs (X.blk s H scope (compEnvC scope cl C X.env) fp) ifs (tVT X ft))
    (he : ∀ (s : Shared) (H : Hp) (C : Addr) (cl : List (Str × Addr)) (fp : List Addr), PE (X.blk s H scope (compEnvC scope cl C X.env) fp) elt (tV X fe)) (his : ∀ i ∈ is, i ∈ own.map (·.2)) (hs : ∀ x, foldedSetIterable iter X.env x = pure x := by intro _; rfl) :
    PSV X He Oa (.Assign [.Name y py] (.ListComp elt [⟨tg, iter, ifs, 0⟩] scope pos) spos) (sSet i (fComp (own.map (·.2)) it g ft fe)) := PS.mono (ps_setLc hc hN hy hyl hsw hi ok hg ht he hs) fun D σ H ⟨O, ρ, ok, m, q⟩ => by
  unfold sSet at q
  cases e1 : fComp (own.map (·.2)) it g ft fe ρ with
  | none => rw [e1] at q; exact q.elim
  | some d =>
    rw [e1] at q
    exact comp_of his σ H _ ⟨O, ρ, d, ok, e1, fun v H1 s1 r1 => q O _ H1 ((ok.same s1).put i r1) (m.go s1 (ownLe_put i d v ok.len)) (cut_same s1)⟩
end

/-! ### a def -/
def startE (n : Nat) (ds : List PyData) : PEnv := ds.map (fun d => some (EV.val d)) ++ List.replicate (n - ds.length) none
def endOf : Option Out → Option PyData
  | some (.rt d) => some d
  | some (.nx _) => some .none
  | none => none
/-- what a def computes of its arguments, by its body -/
def runF (n : Nat) (f : FS) : List PyData → Option PyData := fun ds => endOf (f (startE n ds))
theorem start_ok {P : Program} {w : World} {K : PySem.W.Frag} {O : Addr → Prop} {H : Hp} {N : List Str} {vs : List V} {ds : List PyData} (sub : Sub O H) (r : RpAll P w K (cut O H) vs ds) : EnvOk P w K O (startE N.length ds) (L2.start N vs) H := by
  have hl := r.len
  have key : ∀ (i : Nat) (x : EV), (startE N.length ds)[i]? = some (some x) → ∃ d, ds[i]? = some d ∧ x = .val d := fun i x h => by
    unfold startE at h
    by_cases hi : i < (ds.map (fun d => some (EV.val d))).length
    · rw [List.getElem?_append_left hi, List.getElem?_map] at h
      cases q : ds[i]? with
      | none => rw [q] at h; cases h
      | some d =>
        rw [q] at h
        cases h
        exact ⟨d, rfl, rfl⟩
    · rw [List.getElem?_append_right (by omega)] at h
      obtain ⟨h1, h2⟩ := List.getElem?_eq_some_iff.mp h
      rw [List.getElem_replicate] at h2
      cases h2
  refine ⟨sub, ?_, fun i d h => ?_, fun i d h => ?_, fun i d h => ?_, fun i j a ⟨e, h, o⟩ => ?_⟩
  · unfold startE L2.start
    simp only [List.length_append, List.length_map, List.length_replicate]
    omega
  · obtain ⟨d', e1, e2⟩ := key i _ h
    cases e2
    obtain ⟨x, e3, rx⟩ := r.at e1
    refine ⟨x, ?_, rx⟩
    unfold L2.start
    have hi : i < (vs.map some).length := by
      rw [List.length_map]
      exact (List.getElem?_eq_some_iff.mp e3).1
    rw [List.getElem?_append_left hi, List.getElem?_map, e3]
    rfl
  · obtain ⟨d', e1, e2⟩ := key i _ h
    cases e2
  · obtain ⟨d', e1, e2⟩ := key i _ h
    cases e2
  · obtain ⟨d', e1, e2⟩ := key i _ h
    subst e2
    exact o.elim
/-- THE RULE for a def of data -/
theorem fn_pure {P : Program} {w : World} {K : PySem.W.Frag} {mg : Str → Option Value} {base : Heap} {x : Str} {st : Stmt} {fa : Addr} {fd : FuncData} {N ps : List Str} {k n : Nat} {φ : List PyData → Option PyData} {f : FS} (F : FunD K x x (defArgs st) (defBody st) (defScope st) [] [] fa fd) (S : FnScope N ps (defScope st))
    (hn : ps.length = n) (hφ : ∀ ds d, φ ds = some d → runF N.length f ds = some d)
    (hb : ∀ (cdv : Value) (A : Around) (outer : List Env) (s : Shared) (H He : Hp) (Oa : Addr → Prop), Room k (A.deeper (envOfC x (defScope st) s.heap.objs.size fa cdv)) →
      PBV (cxOf CX0 P w K mg base N x (defScope st) fa cdv A outer s H E0).nox He Oa (defBody st) f) :
    FnOk P w K mg base CX0 (k + 1) fa fd ps (spP P w K n φ) := by
  refine FunD.ok F S (fun vs H Q E h => ?_) (fun cdv A outer s H vs Q E hr h => ?_)
  · obtain ⟨O, ds, d, _, r, hl, _⟩ := h
    rw [r.len, hl, hn]
  · obtain ⟨O, ds, d, sub, r, hl, e, q⟩ := h
    have e1 := hφ ds d e
    refine ⟨_, PSs.nox (X := cxOf CX0 P w K mg base N x (defScope st) fa cdv A outer s H E) (hb cdv A outer s H H O hr), O, startE N.length ds, start_ok sub r, ⟨Same.refl H, fun _ z => z, fun a z1 z2 => absurd z1 z2, fun i a ⟨ev, h1, h2⟩ _ => ?_⟩, ?_⟩
    · unfold startE at h1
      by_cases hi : i < (ds.map (fun d => some (EV.val d))).length
      · rw [List.getElem?_append_left hi, List.getElem?_map] at h1
        cases q : ds[i]? with
        | none => rw [q] at h1; cases h1
        | some d =>
          rw [q] at h1
          cases h1
          exact h2.elim
      · rw [List.getElem?_append_right (by omega)] at h1
        obtain ⟨h3, h4⟩ := List.getElem?_eq_some_iff.mp h1
        rw [List.getElem_replicate] at h4
        cases h4
    · unfold runF at e1
      cases e2 : f (startE N.length ds) with
      | none => rw [e2] at e1; cases e1
      | some o =>
        rw [e2] at e1
        cases o with
        | rt d' =>
          cases e1
          exact fun v H' s1 r1 => q v H' s1 r1
        | nx ρ' =>
          cases e1
          exact fun O' σ' H' ok' m' _ => q .non H' m'.keep .non
end L3

/-! L3E: isinstance, sorted, list(range), owned lists. -/
namespace L3
open PySem PySem.Spec PyProof.Rows L2

/-! ### isinstance -/
def tyD : PyData → Option String
  | .int _ => some "int"
  | .str _ => some "str"
  | .bool _ => some "bool"
  | .list _ => some "list"
  | .tuple _ => some "tuple"
  | _ => none
def gIsi (T : String) (d : PyData) : Option PyData := (tyD d).bind fun t => (kitB t T).map PyData.bool
section
variable {X : Cx} {e : Expr} {es : List Expr} {f f' : FE} {pos : Pos}
theorem ty_of {H : Hp} {O : Addr → Prop} {v : V} {d : PyData} {t : String} (h : tyD d = some t) (r : RpX X (cut O H) v d) : TyX X.K H v (.type t) := by
  cases d with
  | int i =>
    cases h
    rw [rp_int r]
    exact .base (.int i)
  | str i =>
    cases h
    rw [rp_str r]
    exact .base (.str i)
  | bool i =>
    cases h
    rw [rp_bl r]
    exact .base (.bl i)
  | list ds =>
    cases h
    obtain ⟨a, xs, rfl, h1, _⟩ := rp_lst r
    exact .base (.lst (cut_of h1).1)
  | tuple ds =>
    cases h
    obtain ⟨a, xs, rfl, h1, _⟩ := rp_tup r
    rcases Same.seqT cut_le h1 with (h2 | ⟨o, h2⟩) | ⟨o, its, n, h2, hc, _⟩
    · exact .base (.tup h2)
    · exact .fTuple h2
    · exact .kTuple h2 hc
  | _ => cases h
theorem pv_isi {T : String} {x T' : Str} {p p' : Pos} (he : PV X e f) (hg : Gl X x) (hm : X.mg x = none) (hv : bootBuiltins x = some (.builtin "isinstance")) (hgT : Gl X T') (hmT : X.mg T' = none) (hvT : bootBuiltins T' = some (.type T))
    (hn : x ≠ "__name__" := by decide) (hdb : (x == ("__debug__" : Str)) = false := by decide) (hnT : T' ≠ "__name__" := by decide) (hdbT : (T' == ("__debug__" : Str)) = false := by decide)
    (hs1 : starEach [e, .Name T' p'] X.env = (false, eval e X.env) :: starEach [.Name T' p'] X.env := by rfl) (hs2 : starEach [.Name T' p'] X.env = (false, eval (.Name T' p') X.env) :: starEach [] X.env := by rfl)
    (hpl : (backTo pos (starEach [Expr.Name T' p'] X.env)).any (·.1) = false := by rfl) : PV X (.Call (.Name x p) [e, .Name T' p'] [] pos) (o1 (gIsi T) f) :=
  PE.mono (pe_callB call_isi hg hm hv (pa_cons he (pa_cons (pe_bltn (v := .ty T) hgT hmT hvT rfl hnT hdbT) pa_nil hs2) hs1) hn hdb hs1 hpl) fun σ H Q ⟨O, ρ, z, ok, e1, q⟩ => by
    obtain ⟨d, e2, e1⟩ := Option.bind_eq_some_iff.mp e1
    obtain ⟨t, e3, e1⟩ := Option.bind_eq_some_iff.mp e1
    obtain ⟨k, e4, rfl⟩ := Option.map_eq_some_iff.mp e1
    exact ⟨O, ρ, d, ok, e2, fun v H1 s1 r1 => ⟨v, .ty T, .type t, .type T, k, rfl, .ty T, ty_of e3 r1, kit_ty e4, q _ H1 s1 (.bl k)⟩⟩
end

/-! ### sorted of a tuple of ints -/
section
variable {prog : Program} {w : World} {A : Around} {E : Value → Shared → Prop} {s : Shared}
theorem collect_tup {l : Addr} {vs : List Value} {Q : List Value → Shared → Prop} (hl : IsTup s.heap l vs.toArray) (hsz : vs.length ≤ sizeLine)
    (h : Q vs { s with heap := (s.heap.push (seqObj "list" #[] 0)).update s.heap.objs.size (Obj.mapSeq (· ++ vs.toArray)) }) : wpAny (model prog w) A (collect (.ref l)) Q E s := by
  obtain ⟨o, ho, hc, n, hd⟩ := id hl
  have hn : (s.heap.push (seqObj "list" #[] 0)).get? l = some o := Heap.get?_push_of_some _ ho
  unfold collect
  refine wpAny_bind (wpAny_runValue (codeAny_builtin entry_proto_collect' ?_))
  show wpAny _ _ (do again (.builtin "list.__iadd__" ⟨[← newList [], .ref l], []⟩)) _ _ s
  refine wpAny_bind (wpAny_newList (wpAny_pure ⟨Code.quiet_builtin _ (by decide +kernel), codeAny_builtin entry_list_iadd' ?_⟩))
  show wpAny _ _ (Builtin.List.listExtendWith (.ref s.heap.objs.size) (.ref l) (.ref s.heap.objs.size)) _ _ { s with heap := s.heap.push (seqObj "list" #[] 0) }
  unfold Builtin.List.listExtendWith
  refine wpAny_bind (wpAny_typeOf (T := "tuple") ⟨o, hn, hc⟩ ?_)
  have tt : (Value.type "tuple" == Value.type "tuple") = true := by rfl
  rw [if_pos (by rw [tt]; simp)]
  refine wpAny_bind (listItems_at hn hd ?_)
  refine wpAny_bind (listItems_at (xs := #[]) (n := 0) (Heap.get?_push_size _ rfl) rfl ?_)
  rw [if_neg (by simp)]
  refine wpAny_bind (listUpdate_at (xs := #[]) (n := 0) (Heap.get?_push_size _ rfl) rfl ?_ (Nat.zero_le _) (by show (#[] ++ vs.toArray).size ≤ sizeLine + 1; simp only [Array.size_append, List.size_toArray, List.length_nil]; omega))
  refine wpAny_pure ?_
  show wpAny (model prog w) A (do
      let o ← load s.heap.objs.size
      match o.data with
      | .seq xs _ => pure xs.toList
      | _ => unsupported "internal:collect") Q E { s with heap := (s.heap.push (seqObj "list" #[] 0)).update s.heap.objs.size (Obj.mapSeq (· ++ vs.toArray)) }
  refine wpAny_bind (wpAny_load (get?_update_seq (Heap.get?_push_size _ rfl) _) ?_)
  show wpAny _ _ (pure ((#[] : Array Value) ++ vs.toArray).toList) Q E _
  have same : ((#[] : Array Value) ++ vs.toArray).toList = vs := by simp
  rw [same]
  exact wpAny_pure h
theorem sorted_tup {l : Addr} {vs : List Value} {ns : List Int} {Q : Value → Shared → Prop} (hl : IsTup s.heap l vs.toArray) (hI : IntsAre vs ns) (h64 : vs.length < 64)
    (h : ∀ (out : Array Value) (ns' : List Int), IntsAre out.toList ns' → ns'.Perm ns → ns'.Pairwise (· ≤ ·) → Q (.ref (s.heap.objs.size + 1)) { s with heap := sortedAll s.heap vs out }) :
    wpAny (model prog w) A (call (.builtin "sorted") [.ref l]) Q E s := by
  refine Calls.call_function_entry kind_sorted plain_sorted entry_sorted (args_sorted1 _) ?_
  unfold Builtin.«sorted»
  refine wpAny_bind (m := checkCount "sorted" 1 1 _) (wpAny_pure ?_)
  refine wpAny_bind (collect_tup hl (by rw [sizeLine_eq]; omega) ?_)
  refine wpAny_bind (wpAny_newList ?_ (by rw [sizeLine_eq]; omega))
  have hs1 : ((s.heap.push (seqObj "list" #[] 0)).update s.heap.objs.size (Obj.mapSeq (· ++ vs.toArray))).objs.size = s.heap.objs.size + 1 := by
    rw [Heap.size_update, size_push']
  have ho1 : (((s.heap.push (seqObj "list" #[] 0)).update s.heap.objs.size (Obj.mapSeq (· ++ vs.toArray))).push (seqObj "list" vs.toArray 0)).get? (s.heap.objs.size + 1) = some (seqObj "list" vs.toArray 0) := by
    rw [← hs1]
    exact Heap.get?_push_size _ rfl
  show wpAny _ _ _ _ _ { s with heap := ((s.heap.push (seqObj "list" #[] 0)).update s.heap.objs.size (Obj.mapSeq (· ++ vs.toArray))).push (seqObj "list" vs.toArray 0) }
  rw [hs1]
  refine wpAny_bind (wpAny_holding (wpAny_call_entry slot_list_sort ⟨_, ho1, rfl⟩ entry_list_sort (list_sort_tree ho1 hI h64 fun out ns' a1 a2 a3 => ⟨_, rfl, ?_⟩) (args_list_sort _)))
  exact wpAny_pure ⟨_, rfl, h out ns' a1 a2 a3⟩
end
def rSortT (K : PySem.W.Frag) : List V → Hp → VK → Prop := fun vs H Q => ∃ (a : Addr) (ns : List Int), vs = [V.ref a] ∧ SqT K H a (ns.map V.int) ∧ ns.length < 64 ∧
  ∀ (ns' : List Int) (p : Addr), ns'.Perm ns → ns'.Pairwise (· ≤ ·) → H p = none → Q (.ref p) (upd H p (.lst (ns'.map V.int)))
theorem cr_sortT {X : Cx} : CallR X (.builtin "sorted") (rSortT X.K) := by
  intro pins s σ H vs us Q I r h
  obtain ⟨a, ns, rfl, hs, h64, q⟩ := h
  obtain ⟨its, rv, hl, _⟩ := I.tuple hs
  rw [Vals.ref1 r]
  have hi := rv.ints
  refine sorted_tup hl hi (by rw [hi.length]; exact h64) fun out ns' h1 h2 h3 => ?_
  obtain ⟨ep, he'⟩ := PyProof.Rows.sortedAll_at s.heap its out
  have hlen : (ns'.map V.int).length ≤ sizeLine := by
    rw [List.length_map, h2.length_eq]
    exact small64 h64
  exact ⟨.ref _, upd H (s.heap.objs.size + 1) (.lst (ns'.map V.int)), I.laid (t' := s.toks) (fun _ _ => PyProof.Rows.sortedAll_old) (Nat.le_succ _) ⟨hlen, out.toList, ep, vals_of_ints h1, he'⟩, rfl, q ns' _ h2 h3 (I.hok.fresh (Nat.le_succ _))⟩
/-- ints out of data -/
def toInts : List PyData → Option (List Int)
  | [] => some []
  | .int i :: r => (toInts r).map (i :: ·)
  | _ :: _ => none
theorem toInts_of : ∀ {ds : List PyData} {ns : List Int}, toInts ds = some ns → ds = ns.map PyData.int
  | [], _, h => by cases h; rfl
  | .int i :: r, ns, h => by
    obtain ⟨ms, e, rfl⟩ := Option.map_eq_some_iff.mp h
    rw [toInts_of e]
    rfl
  | .none :: _, _, h => by cases h
  | .bool _ :: _, _, h => by cases h
  | .str _ :: _, _, h => by cases h
  | .list _ :: _, _, h => by cases h
  | .tuple _ :: _, _, h => by cases h
  | .dict _ :: _, _, h => by cases h
theorem ints_rp {P : Program} {w : World} {K : PySem.W.Frag} {H : Hp} : ∀ {ns : List Int} {vs : List V}, RpAll P w K H vs (ns.map PyData.int) → vs = ns.map V.int
  | [], _, .nil => rfl
  | _ :: _, _, .cons h r => by
    rw [rp_int h, ints_rp r]
    rfl
theorem rp_ints {P : Program} {w : World} {K : PySem.W.Frag} {H : Hp} : ∀ ns : List Int, RpAll P w K H (ns.map V.int) (ns.map PyData.int)
  | [] => .nil
  | i :: r => .cons (.int i) (rp_ints r)
def gSortT : List PyData → Option PyData
  | [.tuple xs] => (toInts xs).bind fun ns => if ns.length < 64 then some (.list ((ns.mergeSort fun a b => decide (a ≤ b)).map PyData.int)) else none
  | _ => none
def gSortL : List PyData → Option PyData
  | [.list xs] => (toInts xs).bind fun ns => if ns.length < 64 then some (.list ((ns.mergeSort fun a b => decide (a ≤ b)).map PyData.int)) else none
  | _ => none
theorem sort_one {ns ns' : List Int} (h : ns'.Perm ns) (hs : ns'.Pairwise (· ≤ ·)) : ns' = ns.mergeSort fun a b => decide (a ≤ b) := by
  have h2 : (ns.mergeSort fun a b => decide (a ≤ b)).Pairwise fun a b => decide (a ≤ b) = true := List.pairwise_mergeSort (fun a b c x y => by simp only [decide_eq_true_eq] at *; omega) (fun a b => by simp only [Bool.or_eq_true, decide_eq_true_eq]; omega) ns
  exact List.Perm.eq_of_pairwise (le := fun a b : Int => a ≤ b) (fun a b _ _ x y => by omega) hs (h2.imp fun x => by simpa using x) (h.trans (List.mergeSort_perm ns _).symm)
theorem gv_sortT {X : Cx} : GivesA X (rSortT X.K) gSortT := by
  intro O H vs ds z Q sub hv ez q
  unfold gSortT at ez
  split at ez
  · obtain ⟨ns, e1, e2⟩ := Option.bind_eq_some_iff.mp ez
    split at e2
    · rename_i hl
      cases e2
      cases hv with
      | cons h1 h2 =>
        cases h2
        rw [toInts_of e1] at h1
        obtain ⟨p, xs, rfl, h3, r⟩ := rp_tup h1
        rw [ints_rp r] at h3
        refine ⟨p, ns, rfl, Same.seqT cut_le h3, hl, fun ns' l hp hs hn => q _ _ (same_upd hn) (.lst (cut_newat sub hn) ?_)⟩
        rw [sort_one hp hs]
        exact rp_ints _
    · cases e2
  · cases ez
theorem gv_sortL {X : Cx} : GivesA X (rSorted X.K) gSortL := by
  intro O H vs ds z Q sub hv ez q
  unfold gSortL at ez
  split at ez
  · obtain ⟨ns, e1, e2⟩ := Option.bind_eq_some_iff.mp ez
    split at e2
    · rename_i hl
      cases e2
      cases hv with
      | cons h1 h2 =>
        cases h2
        rw [toInts_of e1] at h1
        obtain ⟨p, xs, rfl, h3, r⟩ := rp_lst h1
        rw [ints_rp r] at h3
        refine ⟨p, ns, rfl, SqL.of (cut_of h3).1, hl, fun ns' l hp hs hn => q _ _ (same_upd hn) (.lst (cut_newat sub hn) ?_)⟩
        rw [sort_one hp hs]
        exact rp_ints _
    · cases e2
  · cases ez
/-! ### list(range(a, b)) -/
def dRange : PyData → PyData → Option PyData
  | .int i, .int j => if 0 ≤ i ∧ i ≤ 16777216 ∧ 0 ≤ j ∧ j ≤ 16777216 then some (.list (rngD i j)) else none
  | _, _ => none
theorem pv_listRg {X : Cx} {a b : Expr} {f f' : FE} {p p' pos pos' : Pos} (hc : X.calm = true) (hgl : Gl X "list") (hml : X.mg "list" = none) (hg : Gl X "range") (hm : X.mg "range" = none) (ha : PV X a f) (hb : PV X b f')
    (na : starEach [a, b] X.env = (false, eval a X.env) :: starEach [b] X.env := by rfl) (nb : starEach [b] X.env = (false, eval b X.env) :: starEach [] X.env := by rfl) (hp : (backTo pos (starEach [b] X.env)).any (·.1) = false := by rfl)
    (nr : starEach [Expr.Call (.Name "range" p) [a, b] [] pos] X.env = (false, eval (.Call (.Name "range" p) [a, b] [] pos) X.env) :: starEach [] X.env := by rfl) :
    PV X (.Call (.Name "list" p') [.Call (.Name "range" p) [a, b] [] pos] [] pos') (o2 dRange f f') := PE.mono (pe_listRg hc hgl hml (prg_2 hg hm ha hb na nb hp) nr) fun σ H Q ⟨O, ρ, z, ok, e, q⟩ => by
  obtain ⟨x, e1, e⟩ := Option.bind_eq_some_iff.mp e
  obtain ⟨y, e2, e⟩ := Option.bind_eq_some_iff.mp e
  cases x with
  | int i =>
    cases y with
    | int j =>
      unfold dRange at e
      simp only at e
      split at e
      · rename_i hb
        cases e
        refine ⟨O, ρ, _, ok, e1, fun v H1 s1 r1 => ⟨O, ρ, _, ok.same s1, e2, fun u H2 s2 r2 => ⟨i, j, rp_int r1, rp_int r2, RgOk.of_le hb.1 hb.2.2.2 hb.2.1 hb.2.2.1, fun n hn => ?_⟩⟩⟩
        have sub := ok.sub.same (s1.trans s2)
        refine q _ _ (s1.trans (s2.trans (same_upd hn))) (.lst (cut_newat sub hn) ?_)
        unfold rgV rngD
        have key : ∀ l : List Nat, RpAllX X (cut O (upd H2 n (.lst (rgV i j)))) (l.map fun k => V.int (i + (k : Nat))) (l.map fun k => PyData.int (i + (k : Nat))) := fun l => by
          induction l with
          | nil => exact .nil
          | cons k r ih => exact .cons (.int _) ih
        exact key _
      · cases e
    | _ => cases e
  | _ => cases e

/-! ### new objects that will be changed -/
section
variable (P : Program) (w : World) (K : PySem.W.Frag)
def EVone (O : Addr → Prop) (H : Hp) (v : V) : EV → Prop
  | .val d => Rp P w K (cut O H) v d
  | .lst ds => ∃ p vs, v = .ref p ∧ O p ∧ H p = some (.lst vs) ∧ RpAll P w K (cut O H) vs ds
  | .dct kvs => ∃ p xs, v = .ref p ∧ O p ∧ H p = some (DO P w p xs) ∧ RpD P w K (cut O H) xs kvs
structure EVs (O O' : Addr → Prop) (H H' : Hp) (vs : List V) (es : List EV) : Prop where
  sub : Sub O' H'
  le : ∀ a, O a → O' a
  new : ∀ a, O' a → ¬ O a → H a = none
  one : Paired (EVone P w K O' H') vs es
  out : ∀ (i : Nat) (e : EV) (p : Addr), es[i]? = some e → e.own → vs[i]? = some (.ref p) → ¬ O p
  dis : ∀ (i j : Nat) (e e' : EV) (p : Addr), es[i]? = some e → e.own → es[j]? = some e' → e'.own → vs[i]? = some (V.ref p) → vs[j]? = some (V.ref p) → i = j
end
section
variable {P : Program} {w : World} {K : PySem.W.Frag} {O O' O2 : Addr → Prop} {H H' H2 : Hp} {ρ : PEnv} {σ : L2.St} {vs : List V} {es : List EV} {v : V} {e : EV}
theorem cut_grow (s : Same H H') (new : ∀ a, O' a → ¬ O a → H a = none) : Same (cut O H) (cut O' H') := fun a u h => by
  obtain ⟨h1, h2⟩ := cut_of h
  by_cases z : O' a
  · rw [new a z h2] at h1
    cases h1
  · rw [cut_at z]
    exact s _ _ h1
theorem EVone.go (s : Same H H') (le : ∀ a, O a → O' a) (new : ∀ a, O' a → ¬ O a → H a = none) (h : EVone P w K O H v e) : EVone P w K O' H' v e := by
  have sc := cut_grow s new
  cases e with
  | val d => exact Rp.mono sc h
  | lst ds =>
    obtain ⟨p, vs, e1, o, e2, r⟩ := h
    exact ⟨p, vs, e1, le _ o, s _ _ e2, r.mono sc⟩
  | dct ds =>
    obtain ⟨p, vs, e1, o, e2, r⟩ := h
    exact ⟨p, vs, e1, le _ o, s _ _ e2, r.mono sc⟩
theorem EVone.at (h : EVone P w K O H v e) (ho : e.own) : ∃ p, v = .ref p ∧ O p := by
  cases e with
  | val d => exact ho.elim
  | lst ds => exact let ⟨p, _, e1, o, _⟩ := h; ⟨p, e1, o⟩
  | dct ds => exact let ⟨p, _, e1, o, _⟩ := h; ⟨p, e1, o⟩
theorem EnvOk.grow (h : EnvOk P w K O ρ σ H) (s : Same H H') (sub : Sub O' H') (le : ∀ a, O a → O' a) (new : ∀ a, O' a → ¬ O a → H a = none) : EnvOk P w K O' ρ σ H' := by
  have sc := cut_grow s new
  refine ⟨sub, h.len, fun i d e => ?_, fun i d e => ?_, fun i d e => ?_, h.one⟩
  · obtain ⟨v, e1, r⟩ := h.val i d e
    exact ⟨v, e1, r.mono sc⟩
  · obtain ⟨a, v, e1, o, e2, r⟩ := h.lst i d e
    exact ⟨a, v, e1, le _ o, s _ _ e2, r.mono sc⟩
  · obtain ⟨a, v, e1, o, e2, r⟩ := h.dct i d e
    exact ⟨a, v, e1, le _ o, s _ _ e2, r.mono sc⟩
theorem EnvOk.putE (h : EnvOk P w K O ρ σ H) (i : Nat) (r : EVone P w K O H v e) (hno : ∀ (j : Nat) (a : Addr), e.own → v = .ref a → OwnAt ρ j → σ[j]? = some (some (V.ref a)) → False) : EnvOk P w K O (ρ.set i (some e)) (σ.set i (some v)) H := by
  have hin : ∀ x, (ρ.set i (some e))[i]? = some x → i < σ.length := fun x q => by
    obtain ⟨q1, _⟩ := List.getElem?_eq_some_iff.mp q
    rw [List.length_set, h.len] at q1
    exact q1
  refine ⟨h.sub, by rw [List.length_set, List.length_set, h.len], fun j d q => ?_, fun j d q => ?_, fun j d q => ?_, fun j k a ⟨ej, hj, oj⟩ ⟨ek, hk, ok⟩ q1 q2 => ?_⟩
  · rcases set_at q with ⟨rfl, e2⟩ | ⟨hn, q2⟩
    · cases e2
      exact ⟨v, List.getElem?_set_self (hin _ q), r⟩
    · obtain ⟨x, e1, r1⟩ := h.val j d q2
      exact ⟨x, by rw [List.getElem?_set_ne hn]; exact e1, r1⟩
  · rcases set_at q with ⟨rfl, e2⟩ | ⟨hn, q2⟩
    · cases e2
      obtain ⟨p, vs, rfl, o, e1, r1⟩ := r
      exact ⟨p, vs, List.getElem?_set_self (hin _ q), o, e1, r1⟩
    · obtain ⟨a, x, e1, r1⟩ := h.lst j d q2
      exact ⟨a, x, by rw [List.getElem?_set_ne hn]; exact e1, r1⟩
  · rcases set_at q with ⟨rfl, e2⟩ | ⟨hn, q2⟩
    · cases e2
      obtain ⟨p, vs, rfl, o, e1, r1⟩ := r
      exact ⟨p, vs, List.getElem?_set_self (hin _ q), o, e1, r1⟩
    · obtain ⟨a, x, e1, r1⟩ := h.dct j d q2
      exact ⟨a, x, by rw [List.getElem?_set_ne hn]; exact e1, r1⟩
  · rcases set_at hj with ⟨rfl, e2⟩ | ⟨hn, hj⟩
    · cases e2
      rcases set_at hk with ⟨e3, _⟩ | ⟨hn, hk⟩
      · exact e3
      · rw [List.getElem?_set_ne hn] at q2
        rcases set_at q1 with ⟨_, e4⟩ | ⟨e4, _⟩
        · exact (hno k a oj (Option.some.inj e4) ⟨ek, hk, ok⟩ q2).elim
        · exact absurd rfl e4
    · rw [List.getElem?_set_ne hn] at q1
      rcases set_at hk with ⟨rfl, e2⟩ | ⟨hn2, hk⟩
      · cases e2
        rcases set_at q2 with ⟨_, e4⟩ | ⟨e4, _⟩
        · exact (hno j a ok (Option.some.inj e4) ⟨ej, hj, oj⟩ q1).elim
        · exact absurd rfl e4
      · rw [List.getElem?_set_ne hn2] at q2
        exact h.one j k a ⟨ej, hj, oj⟩ ⟨ek, hk, ok⟩ q1 q2
/-- an owned slot behind one more store -/
theorem own_putE (i : Nat) (j : Nat) (a : Addr) (h : OwnAt (ρ.set i (some e)) j) (q : (σ.set i (some v))[j]? = some (some (V.ref a))) : (e.own ∧ v = .ref a) ∨ (OwnAt ρ j ∧ σ[j]? = some (some (V.ref a))) := by
  obtain ⟨ej, hj, oj⟩ := h
  rcases set_at hj with ⟨rfl, e2⟩ | ⟨hn, hj⟩
  · cases e2
    rcases set_at q with ⟨_, e4⟩ | ⟨e4, _⟩
    · exact .inl ⟨oj, Option.some.inj e4⟩
    · exact absurd rfl e4
  · rw [List.getElem?_set_ne hn] at q
    exact .inr ⟨⟨ej, hj, oj⟩, q⟩
end
abbrev FF := PEnv → Option EV
abbrev FFs := PEnv → Option (List EV)
def tF (X : Cx) (g : FF) : TE := fun σ H Q => ∃ O ρ e, EnvX X O ρ σ H ∧ g ρ = some e ∧ ∀ v H' O', Same H H' → EVs X.prog X.w X.K O O' H H' [v] [e] → Q v H'
def tFs (X : Cx) (g : FFs) : TA := fun σ H Q => ∃ O ρ es, EnvX X O ρ σ H ∧ g ρ = some es ∧ ∀ vs H' O', Same H H' → EVs X.prog X.w X.K O O' H H' vs es → Q vs H'
def vF (f : FE) : FF := fun ρ => (f ρ).map EV.val
def lF (r : FA) : FF := fun ρ => (r ρ).map EV.lst
def fs0 : FFs := fun _ => some []
def fsC (g : FF) (r : FFs) : FFs := fun ρ => (g ρ).bind fun e => (r ρ).bind fun es => some (e :: es)
def sSetF (i : Nat) (g : FF) : FS := fun ρ => (g ρ).bind fun e => some (.nx (ρ.set i (some e)))
def sPar2 (i j : Nat) (g : FFs) : FS := fun ρ => (g ρ).bind fun es => match es with
  | [a, b] => some (.nx ((ρ.set i (some a)).set j (some b)))
  | _ => none
def sPar3 (i j l : Nat) (g : FFs) : FS := fun ρ => (g ρ).bind fun es => match es with
  | [a, b, c] => some (.nx (((ρ.set i (some a)).set j (some b)).set l (some c)))
  | _ => none
section
variable {X : Cx} {He : Hp} {Oa : Addr → Prop} {st : Stmt} {e : Expr} {es : List Expr} {f : FE} {fa : FA} {g : FF} {r : FFs} {pos : Pos}
theorem pf_val (h : PV X e f) : PE X e (tF X (vF f)) := PE.mono h fun σ H Q ⟨O, ρ, ev, ok, e1, q⟩ => by
  obtain ⟨d, e2, rfl⟩ := Option.map_eq_some_iff.mp e1
  refine ⟨O, ρ, d, ok, e2, fun v H1 s1 r1 => q v H1 O s1 ⟨ok.sub.same s1, fun _ z => z, fun a z1 z2 => absurd z1 z2, .cons r1 .nil, fun i e' p h1 h2 h3 => ?_, fun i j e1 e2 p h1 h2 _ _ _ _ => ?_⟩⟩
  · cases i with
    | zero =>
      cases h1
      exact h2.elim
    | succ i => simp at h1
  · cases i with
    | zero =>
      cases h1
      exact h2.elim
    | succ i => simp at h1
theorem fresh_evs {O : Addr → Prop} {H : Hp} {p : Addr} {u : HO} {ev : EV} (sub : Sub O H) (hp : H p = none) (r : EVone X.prog X.w X.K (fun a => O a ∨ a = p) (upd H p u) (.ref p) ev) : EVs X.prog X.w X.K O (fun a => O a ∨ a = p) H (upd H p u) [.ref p] [ev] := by
  refine ⟨fun a z => ?_, fun _ z => .inl z, fun a z1 z2 => ?_, .cons r .nil, fun i e' p' h1 h2 h3 => ?_, fun i j e1 e2 p' h1 _ h2 _ _ _ => ?_⟩
  · by_cases ea : a = p
    · rw [ea, upd_same]
      exact fun z => by cases z
    · rw [upd_ne ea]
      exact sub a (z.elim id fun z => absurd z ea)
  · rcases z1 with z | z
    · exact absurd z z2
    · rw [z]
      exact hp
  · cases i with
    | zero =>
      cases h3
      exact sub.no hp
    | succ i => simp at h1
  · cases i with
    | zero =>
      cases j with
      | zero => rfl
      | succ j => simp at h2
    | succ i => simp at h1
theorem cut_more {O : Addr → Prop} {H : Hp} {p : Addr} {u : HO} (hp : H p = none) : Same (cut O H) (cut (fun a => O a ∨ a = p) (upd H p u)) := cut_grow (same_upd hp) fun a z1 z2 => by
  rcases z1 with z | z
  · exact absurd z z2
  · rw [z]
    exact hp
theorem EVs.trans {P : Program} {w : World} {K : PySem.W.Frag} {O O1 O2 : Addr → Prop} {H H1 H2 : Hp} {v : V} {vs : List V} {ev : EV} {evs : List EV} (a : EVs P w K O O1 H H1 [v] [ev]) (b : EVs P w K O1 O2 H1 H2 vs evs) (s1 : Same H H1) (s2 : Same H1 H2) : EVs P w K O O2 H H2 (v :: vs) (ev :: evs) := by
  have hv : EVone P w K O1 H1 v ev := by cases a.one with | cons h _ => exact h
  refine ⟨b.sub, fun x z => b.le x (a.le x z), fun x z1 z2 => ?_, .cons (hv.go s2 b.le b.new) b.one, fun i e' p h1 h2 h3 => ?_, fun i j e1 e2 p h1 o1 h2 o2 q1 q2 => ?_⟩
  · by_cases z : O1 x
    · exact a.new x z z2
    · exact s1.free (b.new x z1 z)
  · cases i with
    | zero => exact a.out 0 e' p h1 h2 h3
    | succ i => exact fun z => b.out i e' p h1 h2 h3 (a.le _ z)
  · have cross : ∀ (k : Nat) (e' : EV), evs[k]? = some e' → e'.own → vs[k]? = some (V.ref p) → ev.own → v = V.ref p → False := fun k e' hk ok qk oe qe => by
      obtain ⟨p', e5, o5⟩ := hv.at oe
      rw [e5] at qe
      cases qe
      exact b.out k e' _ hk ok qk o5
    cases i with
    | zero =>
      cases j with
      | zero => rfl
      | succ j =>
        cases h1
        exact (cross j e2 h2 o2 q2 o1 (Option.some.inj q1)).elim
    | succ i =>
      cases j with
      | zero =>
        cases h2
        exact (cross i e1 h1 o1 q1 o2 (Option.some.inj q2)).elim
      | succ j => exact congrArg (· + 1) (b.dis i j e1 e2 p h1 o1 h2 o2 q1 q2)
theorem pf_lst {n : Nat} (h : PVA X es fa) (hl : LenA fa n) (hn : n ≤ 30 := by decide) : PE X (.List es pos) (tF X (lF fa)) := PE.mono (pe_lst h) fun σ H Q ⟨O, ρ, ev, ok, e1, q⟩ => by
  obtain ⟨ds, e2, rfl⟩ := Option.map_eq_some_iff.mp e1
  refine ⟨O, ρ, ds, ok, e2, fun vs H1 s1 r1 => ⟨?_, fun p hp => ?_⟩⟩
  · rw [r1.len, hl.of ρ ds e2]
    exact small30 hn
  · have sub1 := ok.sub.same s1
    have z := fresh_evs (X := X) (u := .lst vs) (ev := .lst ds) sub1 hp ⟨p, vs, rfl, .inr rfl, upd_same, r1.mono (cut_more hp)⟩
    refine q _ _ _ (s1.trans (same_upd hp)) ⟨z.sub, z.le, fun a z1 z2 => s1.free (z.new a z1 z2), z.one, z.out, z.dis⟩
theorem pfs_nil : PA X [] (tFs X fs0) := PA.mono pa_nil fun σ H Q ⟨O, ρ, ds, ok, e, q⟩ => by
  cases e
  exact q [] H O (Same.refl H) ⟨ok.sub, fun _ z => z, fun a z1 z2 => absurd z1 z2, .nil, fun i e p h => by simp at h, fun i j e e' p h => by simp at h⟩
theorem pfs_cons (ha : PE X e (tF X g)) (hr : PA X es (tFs X r)) (hs : starEach (e :: es) X.env = (false, eval e X.env) :: starEach es X.env := by rfl) : PA X (e :: es) (tFs X (fsC g r)) := PA.mono (pa_cons ha hr hs) fun σ H Q ⟨O, ρ, ds, ok, e, q⟩ => by
  obtain ⟨x, e1, e⟩ := Option.bind_eq_some_iff.mp e
  obtain ⟨xs, e2, e⟩ := Option.bind_eq_some_iff.mp e
  cases e
  refine ⟨O, ρ, x, ok, e1, fun v H1 O1 s1 z1 => ⟨O1, ρ, xs, ok.grow s1 z1.sub z1.le z1.new, e2, fun vs H2 O2 s2 z2 => q _ H2 O2 (s1.trans s2) (z1.trans z2 s1 s2)⟩⟩
/-- what follows of the new slots -/
theorem amb_new {O O' : Addr → Prop} {H H' : Hp} {ρ ρ' : PEnv} {σ σ' : L2.St} {vs : List V} {evs : List EV} (m : Amb He Oa O ρ σ H) (s : Same H H') (z : EVs X.prog X.w X.K O O' H H' vs evs)
    (hown : ∀ (j : Nat) (a : Addr), OwnAt ρ' j → σ'[j]? = some (some (V.ref a)) → (∃ (i : Nat) (e : EV), evs[i]? = some e ∧ e.own ∧ vs[i]? = some (V.ref a)) ∨ (OwnAt ρ j ∧ σ[j]? = some (some (V.ref a)))) : Amb He Oa O' ρ' σ' H' := by
  refine ⟨m.keep.trans s, fun a q => z.le a (m.le a q), fun a q1 q2 => ?_, fun j a h e => ?_⟩
  · by_cases y : O a
    · exact m.new a y q2
    · exact m.keep.free (z.new a q1 y)
  · rcases hown j a h e with ⟨i, ev, h1, h2, h3⟩ | ⟨h1, h2⟩
    · exact fun y => z.out i ev a h1 h2 h3 (m.le a y)
    · exact m.slot j a h1 h2
theorem no_own {O O' : Addr → Prop} {H H' : Hp} {ρ : PEnv} {σ : L2.St} {vs : List V} {evs : List EV} (ok : EnvX X O ρ σ H) (z : EVs X.prog X.w X.K O O' H H' vs evs) {i : Nat} {v : V} {ev : EV} (hv : vs[i]? = some v) (he : evs[i]? = some ev) :
    ∀ (j : Nat) (a : Addr), ev.own → v = .ref a → OwnAt ρ j → σ[j]? = some (some (V.ref a)) → False := fun j a o e ⟨ej, hj, oj⟩ q => by
  subst e
  have no := z.out i ev a he o hv
  cases ej with
  | val d => exact oj
  | lst ds =>
    obtain ⟨a', x, e1, o1, _⟩ := ok.lst j ds hj
    rw [e1] at q
    cases q
    exact no o1
  | dct ds =>
    obtain ⟨a', x, e1, o1, _⟩ := ok.dct j ds hj
    rw [e1] at q
    cases q
    exact no o1
theorem psv_setF {i : Nat} {x : Str} {pos' : Pos} (he : PE X e (tF X g)) (hN : X.N.Nodup) (hi : X.N[i]? = some x) (hx : Loc X.env.scope x) (hs : swapsWith e (some (.Name x pos')) pos.line X.env = pure false := by rfl)
    (hf : X.fn x = true ∨ X.env.scope.names.lookup x = some .local := by first | exact .inl rfl | exact .inr rfl) : PSV X He Oa (.Assign [.Name x pos'] e pos) (sSetF i g) :=
  PS.mono (ps_set hN hi hx he hs hf) fun D σ H ⟨O, ρ, ok, m, q⟩ => by
    unfold sSetF at q
    cases e1 : g ρ with
    | none => rw [e1] at q; exact q.elim
    | some ev =>
      rw [e1] at q
      refine ⟨O, ρ, ev, ok, e1, fun v H1 O1 s1 z => ?_⟩
      have hv : EVone X.prog X.w X.K O1 H1 v ev := by cases z.one with | cons h _ => exact h
      have ok1 := ok.grow s1 z.sub z.le z.new
      refine q O1 _ H1 (ok1.putE i hv (no_own ok z (i := 0) rfl rfl)) (amb_new m s1 z fun j a h1 h2 => ?_) (cut_grow s1 z.new)
      rcases own_putE i j a h1 h2 with ⟨h3, h4⟩ | h3
      · exact .inl ⟨0, ev, rfl, h3, by rw [h4]; rfl⟩
      · exact .inr h3
theorem psv_par2 {i j : Nat} {x y : Str} {a b : Expr} {px py pt : Pos} {kt k2 pt2} (hc : X.calm = true) (hN : X.N.Nodup) (hi : X.N[i]? = some x) (hj : X.N[j]? = some y) (hij : i ≠ j)
    (hx : X.env.scope.names.lookup x = some .local) (hy : X.env.scope.names.lookup y = some .local) (ha : PA X [a, b] (tFs X r))
    (hw : swappedStores [.Tuple [.Name x px, .Name y py] kt pt] (.Tuple [a, b] k2 pt2) X.env = pure (some [x, y]))
    (hs : swapsWithSole [.Tuple [.Name x px, .Name y py] kt pt] (.Tuple [a, b] k2 pt2) pos.line X.env = pure false := by rfl) :
    PSV X He Oa (.Assign [.Tuple [.Name x px, .Name y py] kt pt] (.Tuple [a, b] k2 pt2) pos) (sPar2 i j r) := PS.mono (ps_par hc hN hi hj hij hx hy ha hw hs) fun D σ H ⟨O, ρ, ok, m, q⟩ => by
  unfold sPar2 at q
  cases e1 : r ρ with
  | none => rw [e1] at q; exact q.elim
  | some evs =>
    rw [e1] at q
    match evs, q, e1 with
    | [], q, _ => exact q.elim
    | [_], q, _ => exact q.elim
    | _ :: _ :: _ :: _, q, _ => exact q.elim
    | [ea, eb], q, e1 =>
      refine ⟨O, ρ, _, ok, e1, fun vs H1 O1 s1 z => ?_⟩
      obtain ⟨va, vb, rfl, ra, rb⟩ : ∃ va vb, vs = [va, vb] ∧ EVone X.prog X.w X.K O1 H1 va ea ∧ EVone X.prog X.w X.K O1 H1 vb eb := by
        cases z.one with
        | cons h1 t => cases t with
          | cons h2 t => cases t; exact ⟨_, _, rfl, h1, h2⟩
      refine ⟨va, vb, rfl, ?_⟩
      have ok1 := ok.grow s1 z.sub z.le z.new
      have ok2 := ok1.putE i ra (no_own ok z (i := 0) rfl rfl)
      have ok3 := ok2.putE j rb fun k a o e h1 h2 => by
        rcases own_putE i k a h1 h2 with ⟨h3, h4⟩ | ⟨h3, h4⟩
        · subst e h4
          exact absurd (z.dis 0 1 ea eb a rfl h3 rfl o rfl rfl) (by decide)
        · exact no_own ok z (i := 1) rfl rfl k a o e h3 h4
      refine q O1 _ H1 ok3 (amb_new m s1 z fun k a h1 h2 => ?_) (cut_grow s1 z.new)
      rcases own_putE j k a h1 h2 with ⟨h3, h4⟩ | ⟨h3, h4⟩
      · exact .inl ⟨1, eb, rfl, h3, by rw [h4]; rfl⟩
      · rcases own_putE i k a h3 h4 with ⟨h3, h4⟩ | h3
        · exact .inl ⟨0, ea, rfl, h3, by rw [h4]; rfl⟩
        · exact .inr h3
theorem psv_par3 {i j l : Nat} {x y z' : Str} {a b c : Expr} {px py pz pt : Pos} {kt k2 pt2} (hc : X.calm = true) (hN : X.N.Nodup) (hi : X.N[i]? = some x) (hj : X.N[j]? = some y) (hl : X.N[l]? = some z') (hij : i ≠ j) (hil : i ≠ l) (hjl : j ≠ l)
    (hx : X.env.scope.names.lookup x = some .local) (hy : X.env.scope.names.lookup y = some .local) (hz : X.env.scope.names.lookup z' = some .local) (ha : PA X [a, b, c] (tFs X r))
    (hw : swappedStores [.Tuple [.Name x px, .Name y py, .Name z' pz] kt pt] (.Tuple [a, b, c] k2 pt2) X.env = pure (some [x, y, z']))
    (hs : swapsWithSole [.Tuple [.Name x px, .Name y py, .Name z' pz] kt pt] (.Tuple [a, b, c] k2 pt2) pos.line X.env = pure false := by rfl) :
    PSV X He Oa (.Assign [.Tuple [.Name x px, .Name y py, .Name z' pz] kt pt] (.Tuple [a, b, c] k2 pt2) pos) (sPar3 i j l r) := PS.mono (ps_par3 hc hN hi hj hl hij hil hjl hx hy hz ha hw hs) fun D σ H ⟨O, ρ, ok, m, q⟩ => by
  unfold sPar3 at q
  cases e1 : r ρ with
  | none => rw [e1] at q; exact q.elim
  | some evs =>
    rw [e1] at q
    match evs, q, e1 with
    | [], q, _ => exact q.elim
    | [_], q, _ => exact q.elim
    | [_, _], q, _ => exact q.elim
    | _ :: _ :: _ :: _ :: _, q, _ => exact q.elim
    | [ea, eb, ec], q, e1 =>
      refine ⟨O, ρ, _, ok, e1, fun vs H1 O1 s1 z => ?_⟩
      obtain ⟨va, vb, vc, rfl, ra, rb, rc⟩ : ∃ va vb vc, vs = [va, vb, vc] ∧ EVone X.prog X.w X.K O1 H1 va ea ∧ EVone X.prog X.w X.K O1 H1 vb eb ∧ EVone X.prog X.w X.K O1 H1 vc ec := by
        cases z.one with
        | cons h1 t => cases t with
          | cons h2 t => cases t with
            | cons h3 t => cases t; exact ⟨_, _, _, rfl, h1, h2, h3⟩
      refine ⟨va, vb, vc, rfl, ?_⟩
      have ok1 := ok.grow s1 z.sub z.le z.new
      have ok2 := ok1.putE i ra (no_own ok z (i := 0) rfl rfl)
      have ok3 := ok2.putE j rb fun k a o e h1 h2 => by
        rcases own_putE i k a h1 h2 with ⟨h3, h4⟩ | ⟨h3, h4⟩
        · subst e h4
          exact absurd (z.dis 0 1 ea eb a rfl h3 rfl o rfl rfl) (by decide)
        · exact no_own ok z (i := 1) rfl rfl k a o e h3 h4
      have ok4 := ok3.putE l rc fun k a o e h1 h2 => by
        rcases own_putE j k a h1 h2 with ⟨h3, h4⟩ | ⟨h3, h4⟩
        · subst e h4
          exact absurd (z.dis 1 2 eb ec a rfl h3 rfl o rfl rfl) (by decide)
        · rcases own_putE i k a h3 h4 with ⟨h3, h4⟩ | ⟨h3, h4⟩
          · subst e h4
            exact absurd (z.dis 0 2 ea ec a rfl h3 rfl o rfl rfl) (by decide)
          · exact no_own ok z (i := 2) rfl rfl k a o e h3 h4
      refine q O1 _ H1 ok4 (amb_new m s1 z fun k a h1 h2 => ?_) (cut_grow s1 z.new)
      rcases own_putE l k a h1 h2 with ⟨h3, h4⟩ | ⟨h3, h4⟩
      · exact .inl ⟨2, ec, rfl, h3, by rw [h4]; rfl⟩
      · rcases own_putE j k a h3 h4 with ⟨h3, h4⟩ | ⟨h3, h4⟩
        · exact .inl ⟨1, eb, rfl, h3, by rw [h4]; rfl⟩
        · rcases own_putE i k a h3 h4 with ⟨h3, h4⟩ | h3
          · exact .inl ⟨0, ea, rfl, h3, by rw [h4]; rfl⟩
          · exact .inr h3
end
end L3

/-! L3F: lists and dicts that a def of its own changes; dicts with nested keys. -/
namespace L3
open PySem PySem.Spec PyProof.Rows L2

/-! ### owned lists -/
def frzE (j : Nat) : PEnv → Option PEnv := fun ρ => match ρ[j]? with
  | some (some (.lst ds)) => some (ρ.set j (some (.val (.list ds))))
  | some (some (.dct kvs)) => some (ρ.set j (some (.val (.dict kvs))))
  | _ => none
/-- from here on what stands at slot j is not changed any more -/
def sFrz (j : Nat) (f : FS) : FS := fun ρ => (frzE j ρ).bind f
def sApp (i : Nat) (f : FE) : FS := fun ρ => match ρ[i]? with
  | some (some (.lst ds)) => (f ρ).bind fun d => if ds.length < 100000 then some (.nx (ρ.set i (some (.lst (ds ++ [d]))))) else none
  | _ => none
def sExt (i : Nat) (f : FE) : FS := fun ρ => match ρ[i]? with
  | some (some (.lst ds)) => (f ρ).bind fun d => match d with
    | .list es => if ds.length + es.length ≤ 100000 then some (.nx (ρ.set i (some (.lst (ds ++ es))))) else none
    | _ => none
  | _ => none
def sPop (i j : Nat) : FS := fun ρ => match ρ[j]? with
  | some (some (.lst ds)) => (ds[ds.length - 1]?).bind fun d => some (.nx ((ρ.set j (some (.lst ds.dropLast))).set i (some (.val d))))
  | _ => none
section
variable {P : Program} {w : World} {K : PySem.W.Frag} {O O' : Addr → Prop} {ρ : PEnv} {σ : L2.St} {H H' : Hp}
theorem own_unset {i j : Nat} {d : PyData} (h : OwnAt (ρ.set j (some (.val d))) i) : i ≠ j ∧ OwnAt ρ i := by
  obtain ⟨e, q, o⟩ := h
  rcases set_at q with ⟨_, e2⟩ | ⟨hn, q⟩
  · cases e2
    exact o.elim
  · exact ⟨hn.symm, e, q, o⟩
/-- a slot of a list that is owned, as one that is not -/
theorem freeze_list (ok : EnvOk P w K O ρ σ H) {j : Nat} {ds : List PyData} (h : ρ[j]? = some (some (EV.lst ds))) : ∃ (a : Addr) (vs : List V), σ[j]? = some (some (V.ref a)) ∧ O a ∧ H a = some (.lst vs) ∧ Same (cut O H) (cut (fun b => O b ∧ b ≠ a) H) ∧
    EnvOk P w K (fun b => O b ∧ b ≠ a) (ρ.set j (some (.val (.list ds)))) σ H := by
  obtain ⟨a, vs, e1, o, e2, r⟩ := ok.lst j ds h
  have sc : Same (cut O H) (cut (fun b => O b ∧ b ≠ a) H) := cut_sub fun b z => z.1
  refine ⟨a, vs, e1, o, e2, sc, fun b z => ok.sub b z.1, by rw [List.length_set, ok.len], fun i d q => ?_, fun i d q => ?_, fun i d q => ?_, fun i k b hi hk q1 q2 => ?_⟩
  · rcases set_at q with ⟨rfl, e3⟩ | ⟨hn, q⟩
    · cases e3
      refine ⟨_, e1, .lst (a := a) (xs := vs) ?_ (r.mono sc)⟩
      rw [cut_at (fun z => z.2 rfl)]
      exact e2
    · obtain ⟨v, q1, r1⟩ := ok.val i d q
      exact ⟨v, q1, r1.mono sc⟩
  · rcases set_at q with ⟨_, e3⟩ | ⟨hn, q⟩
    · cases e3
    · obtain ⟨b, v, q1, o1, q2, r1⟩ := ok.lst i d q
      refine ⟨b, v, q1, ⟨o1, fun z => hn ?_⟩, q2, r1.mono sc⟩
      subst z
      exact ok.one j i _ ⟨_, h, trivial⟩ ⟨_, q, trivial⟩ e1 q1
  · rcases set_at q with ⟨_, e3⟩ | ⟨hn, q⟩
    · cases e3
    · obtain ⟨b, v, q1, o1, q2, r1⟩ := ok.dct i d q
      refine ⟨b, v, q1, ⟨o1, fun z => hn ?_⟩, q2, r1.mono sc⟩
      subst z
      exact ok.one j i _ ⟨_, h, trivial⟩ ⟨_, q, trivial⟩ e1 q1
  · exact ok.one i k b (own_unset hi).2 (own_unset hk).2 q1 q2
theorem freeze_dict (ok : EnvOk P w K O ρ σ H) {j : Nat} {kvs : List (PyData × PyData)} (h : ρ[j]? = some (some (EV.dct kvs))) : ∃ (a : Addr) (xs : List Ent), σ[j]? = some (some (V.ref a)) ∧ O a ∧ H a = some (DO P w a xs) ∧
    ∀ o, Same (cut O H) (cut (fun b => O b ∧ b ≠ a) (upd H a (.frz o (DO P w a xs)))) ∧ EnvOk P w K (fun b => O b ∧ b ≠ a) (ρ.set j (some (.val (.dict kvs)))) σ (upd H a (.frz o (DO P w a xs))) := by
  obtain ⟨a, xs, e1, o, e2, r⟩ := ok.dct j kvs h
  refine ⟨a, xs, e1, o, e2, fun ob => ?_⟩
  have sc : Same (cut O H) (cut (fun b => O b ∧ b ≠ a) (upd H a (.frz ob (DO P w a xs)))) := fun b u q => by
    obtain ⟨q1, q2⟩ := cut_of q
    have ne : b ≠ a := fun z => q2 (z ▸ o)
    rw [cut_at fun z => q2 z.1, upd_ne ne]
    exact q1
  refine ⟨sc, fun b z => ?_, by rw [List.length_set, ok.len], fun i d q => ?_, fun i d q => ?_, fun i d q => ?_, fun i k b hi hk q1 q2 => ?_⟩
  · rw [upd_ne z.2]
    exact ok.sub b z.1
  · rcases set_at q with ⟨rfl, e3⟩ | ⟨hn, q⟩
    · cases e3
      refine ⟨_, e1, .dct (a := a) (o := ob) (xs := xs) ?_ (r.mono sc)⟩
      rw [cut_at (fun z => z.2 rfl), upd_same]
    · obtain ⟨v, q1, r1⟩ := ok.val i d q
      exact ⟨v, q1, r1.mono sc⟩
  · rcases set_at q with ⟨_, e3⟩ | ⟨hn, q⟩
    · cases e3
    · obtain ⟨b, v, q1, o1, q2, r1⟩ := ok.lst i d q
      have ne : b ≠ a := fun z => hn (by
        subst z
        exact ok.one j i _ ⟨_, h, trivial⟩ ⟨_, q, trivial⟩ e1 q1)
      exact ⟨b, v, q1, ⟨o1, ne⟩, by rw [upd_ne ne]; exact q2, r1.mono sc⟩
  · rcases set_at q with ⟨_, e3⟩ | ⟨hn, q⟩
    · cases e3
    · obtain ⟨b, v, q1, o1, q2, r1⟩ := ok.dct i d q
      have ne : b ≠ a := fun z => hn (by
        subst z
        exact ok.one j i _ ⟨_, h, trivial⟩ ⟨_, q, trivial⟩ e1 q1)
      exact ⟨b, v, q1, ⟨o1, ne⟩, by rw [upd_ne ne]; exact q2, r1.mono sc⟩
  · exact ok.one i k b (own_unset hi).2 (own_unset hk).2 q1 q2
/-- the list of an owned slot changes -/
theorem EnvOk.write (ok : EnvOk P w K O ρ σ H) {j : Nat} {a : Addr} {ds ds' : List PyData} {vs' : List V} (h : ρ[j]? = some (some (EV.lst ds))) (ha : σ[j]? = some (some (V.ref a))) (o : O a) (r : RpAll P w K (cut O H) vs' ds') :
    EnvOk P w K O (ρ.set j (some (.lst ds'))) σ (upd H a (.lst vs')) := by
  have ce : cut O (upd H a (.lst vs')) = cut O H := cut_upd o
  refine ⟨fun b z => ?_, by rw [List.length_set, ok.len], fun i d q => ?_, fun i d q => ?_, fun i d q => ?_, fun i k b ⟨ei, hi, oi⟩ ⟨ek, hk, o2⟩ q1 q2 => ?_⟩
  · by_cases e : b = a
    · rw [e, upd_same]
      exact fun z => by cases z
    · rw [upd_ne e]
      exact ok.sub b z
  · rcases set_at q with ⟨_, e3⟩ | ⟨hn, q⟩
    · cases e3
    · rw [ce]
      exact ok.val i d q
  · rcases set_at q with ⟨rfl, e3⟩ | ⟨hn, q⟩
    · cases e3
      rw [ce]
      exact ⟨a, vs', ha, o, upd_same, r⟩
    · obtain ⟨b, v, q1, o1, q2, r1⟩ := ok.lst i d q
      have ne : b ≠ a := fun z => hn (by
        subst z
        exact ok.one j i _ ⟨_, h, trivial⟩ ⟨_, q, trivial⟩ ha q1)
      rw [ce]
      exact ⟨b, v, q1, o1, by rw [upd_ne ne]; exact q2, r1⟩
  · rcases set_at q with ⟨_, e3⟩ | ⟨hn, q⟩
    · cases e3
    · obtain ⟨b, v, q1, o1, q2, r1⟩ := ok.dct i d q
      have ne : b ≠ a := fun z => hn (by
        subst z
        exact ok.one j i _ ⟨_, h, trivial⟩ ⟨_, q, trivial⟩ ha q1)
      rw [ce]
      exact ⟨b, v, q1, o1, by rw [upd_ne ne]; exact q2, r1⟩
  · have back : ∀ (m : Nat) (e : EV), (ρ.set j (some (EV.lst ds')))[m]? = some (some e) → e.own → OwnAt ρ m := fun m e q o => by
      rcases set_at q with ⟨rfl, _⟩ | ⟨_, q⟩
      · exact ⟨_, h, trivial⟩
      · exact ⟨e, q, o⟩
    exact ok.one i k b (back i ei hi oi) (back k ek hk o2) q1 q2
theorem EnvOk.writeD (ok : EnvOk P w K O ρ σ H) {j : Nat} {a : Addr} {ds ds' : List (PyData × PyData)} {xs' : List Ent} (h : ρ[j]? = some (some (EV.dct ds))) (ha : σ[j]? = some (some (V.ref a))) (o : O a) (r : RpD P w K (cut O H) xs' ds') :
    EnvOk P w K O (ρ.set j (some (.dct ds'))) σ (upd H a (DO P w a xs')) := by
  have ce : cut O (upd H a (DO P w a xs')) = cut O H := cut_upd o
  refine ⟨fun b z => ?_, by rw [List.length_set, ok.len], fun i d q => ?_, fun i d q => ?_, fun i d q => ?_, fun i k b ⟨ei, hi, oi⟩ ⟨ek, hk, o2⟩ q1 q2 => ?_⟩
  · by_cases e : b = a
    · rw [e, upd_same]
      exact fun z => by cases z
    · rw [upd_ne e]
      exact ok.sub b z
  · rcases set_at q with ⟨_, e3⟩ | ⟨hn, q⟩
    · cases e3
    · rw [ce]
      exact ok.val i d q
  · rcases set_at q with ⟨_, e3⟩ | ⟨hn, q⟩
    · cases e3
    · obtain ⟨b, v, q1, o1, q2, r1⟩ := ok.lst i d q
      have ne : b ≠ a := fun z => hn (by
        subst z
        exact ok.one j i _ ⟨_, h, trivial⟩ ⟨_, q, trivial⟩ ha q1)
      rw [ce]
      exact ⟨b, v, q1, o1, by rw [upd_ne ne]; exact q2, r1⟩
  · rcases set_at q with ⟨rfl, e3⟩ | ⟨hn, q⟩
    · cases e3
      rw [ce]
      exact ⟨a, xs', ha, o, upd_same, r⟩
    · obtain ⟨b, v, q1, o1, q2, r1⟩ := ok.dct i d q
      have ne : b ≠ a := fun z => hn (by
        subst z
        exact ok.one j i _ ⟨_, h, trivial⟩ ⟨_, q, trivial⟩ ha q1)
      rw [ce]
      exact ⟨b, v, q1, o1, by rw [upd_ne ne]; exact q2, r1⟩
  · have back : ∀ (m : Nat) (e : EV), (ρ.set j (some (EV.dct ds')))[m]? = some (some e) → e.own → OwnAt ρ m := fun m e q o => by
      rcases set_at q with ⟨rfl, _⟩ | ⟨_, q⟩
      · exact ⟨_, h, trivial⟩
      · exact ⟨e, q, o⟩
    exact ok.one i k b (back i ei hi oi) (back k ek hk o2) q1 q2
theorem ownLe_write {j : Nat} {e e' : EV} (h : ρ[j]? = some (some e)) (o : e.own) : OwnLe (ρ.set j (some e')) σ ρ σ := fun i a ⟨ei, q, oi⟩ q2 => by
  rcases set_at q with ⟨rfl, _⟩ | ⟨_, q⟩
  · exact ⟨⟨e, h, o⟩, q2⟩
  · exact ⟨⟨ei, q, oi⟩, q2⟩
end
section
variable {X : Cx} {He : Hp} {Oa : Addr → Prop} {st : Stmt} {e o : Expr} {es : List Expr} {f : FE} {fs : FS} {pos cpos apos : Pos}
theorem keep_upd {H : Hp} {a : Addr} {u : HO} (k : Same He H) (n : He a = none) : Same He (upd H a u) := fun b x q => by
  have ne : b ≠ a := ne_of_none q n
  rw [upd_ne ne]
  exact k b x q
theorem psv_frz {j : Nat} (h : PSV X He Oa st fs) : PSV X He Oa st (sFrz j fs) := by
  refine ⟨fun pins s σ H D I hw => ?_⟩
  obtain ⟨O, ρ, ok, m, q⟩ := hw
  unfold sFrz frzE at q
  split at q
  · rename_i ds hj
    obtain ⟨a, vs, e1, oa, e2, sc, ok'⟩ := freeze_list ok hj
    have na : ¬ Oa a := m.slot j a ⟨_, hj, trivial⟩ e1
    refine h.run pins s σ H D I ⟨_, _, ok', ⟨m.keep, fun b z => ⟨m.le b z, fun e => na (e ▸ z)⟩, fun b z1 z2 => m.new b z1.1 z2, fun i b hi q1 => m.slot i b (own_unset hi).2 q1⟩, post_same sc q⟩
  · rename_i kvs hj
    obtain ⟨a, xs, e1, oa, e2, rest⟩ := freeze_dict ok hj
    have na : ¬ Oa a := m.slot j a ⟨_, hj, trivial⟩ e1
    obtain ⟨od, I'⟩ := I.lock e2 trivial
    obtain ⟨sc, ok'⟩ := rest od
    refine h.run pins s σ _ D I' ⟨_, _, ok', ⟨keep_upd m.keep (m.new a oa na), fun b z => ⟨m.le b z, fun e => na (e ▸ z)⟩, fun b z1 z2 => m.new b z1.1 z2, fun i b hi q1 => m.slot i b (own_unset hi).2 q1⟩, post_same sc q⟩
  · exact q.elim
theorem amb_write {O : Addr → Prop} {ρ ρ' : PEnv} {σ : L2.St} {H : Hp} {a : Addr} {u : HO} (m : Amb He Oa O ρ σ H) (oa : O a) (na : ¬ Oa a) (l : OwnLe ρ' σ ρ σ) : Amb He Oa O ρ' σ (upd H a u) :=
  ⟨keep_upd m.keep (m.new a oa na), m.le, m.new, fun i b h q => let ⟨h1, q1⟩ := l i b h q; m.slot i b h1 q1⟩
theorem psv_app {i : Nat} (ho : PE X o (tVar i)) (he : PV X e f) (hbase : attributeBase o "append" X.env (eval o X.env) = eval o X.env := by rfl)
    (hfew : ((backTo cpos (starEach [e] X.env)).all (fun x => !x.1) && (backToKw cpos (keywordEach [] X.env)).all (fun x => x.1.isSome)
      && decide (([e] : List Expr).length + ([] : List Keyword).length + (if ([] : List Keyword).isEmpty then 0 else 1) < 30)) = true := by rfl)
    (hline : (apos.endLine == cpos.line) = true := by rfl) (hs : starEach [e] X.env = (false, eval e X.env) :: starEach [] X.env := by rfl) (hplain : (backTo cpos (starEach ([] : List Expr) X.env)).any (·.1) = false := by rfl)
    (hsw : swapsWith (.Call (.Attribute o "append" apos) [e] [] cpos) none pos.line X.env = pure false := by rfl) :
    PSV X He Oa (.Expr (.Call (.Attribute o "append" apos) [e] [] cpos) pos) (sApp i f) := by
  refine PS.mono (ps_expr (pe_bm PySem.F.plainAttrs_list PySem.F.slot_list_append PySem.F.type_list_append mt_append ho (pa_cons he pa_nil hs) hbase hfew hline hs hplain) hsw) fun D σ H ⟨O, ρ, ok, m, q⟩ => ?_
  unfold sApp at q
  split at q
  · rename_i ds hj
    obtain ⟨a, vs, e1, oa, e2, r⟩ := ok.lst i ds hj
    cases e3 : f ρ with
    | none => rw [e3] at q; exact q.elim
    | some d =>
      rw [e3] at q
      simp only [Option.bind_some] at q
      split at q
      · rename_i hlen
        refine ⟨_, e1, .inl ⟨rfl, _, SqL.of e2⟩, O, ρ, d, ok, e3, fun v H1 s1 r1 => ⟨a, vs, v, rfl, rfl, s1 _ _ e2, ?_, ?_⟩⟩
        · rw [r.len, sizeLine_eq]
          omega
        · have na : ¬ Oa a := m.slot i a ⟨_, hj, trivial⟩ e1
          refine q O σ _ ((ok.same s1).write hj e1 oa ((r.mono (cut_same s1)).app (.cons r1 .nil))) (amb_write (m.go s1 .refl) oa na (ownLe_write hj trivial)) ?_
          rw [cut_upd oa]
          exact cut_same s1
      · exact q.elim
  · exact q.elim
theorem psv_ext {i : Nat} (ho : PE X o (tVar i)) (he : PV X e f) (hbase : attributeBase o "extend" X.env (eval o X.env) = eval o X.env := by rfl)
    (hfew : ((backTo cpos (starEach [e] X.env)).all (fun x => !x.1) && (backToKw cpos (keywordEach [] X.env)).all (fun x => x.1.isSome)
      && decide (([e] : List Expr).length + ([] : List Keyword).length + (if ([] : List Keyword).isEmpty then 0 else 1) < 30)) = true := by rfl)
    (hline : (apos.endLine == cpos.line) = true := by rfl) (hs : starEach [e] X.env = (false, eval e X.env) :: starEach [] X.env := by rfl) (hplain : (backTo cpos (starEach ([] : List Expr) X.env)).any (·.1) = false := by rfl)
    (hsw : swapsWith (.Call (.Attribute o "extend" apos) [e] [] cpos) none pos.line X.env = pure false := by rfl) :
    PSV X He Oa (.Expr (.Call (.Attribute o "extend" apos) [e] [] cpos) pos) (sExt i f) := by
  refine PS.mono (ps_expr (pe_bm PySem.F.plainAttrs_list PySem.F.slot_list_extend PySem.F.type_list_extend mt_extend ho (pa_cons he pa_nil hs) hbase hfew hline hs hplain) hsw) fun D σ H ⟨O, ρ, ok, m, q⟩ => ?_
  unfold sExt at q
  split at q
  · rename_i ds hj
    obtain ⟨a, vs, e1, oa, e2, r⟩ := ok.lst i ds hj
    cases e3 : f ρ with
    | none => rw [e3] at q; exact q.elim
    | some d =>
      rw [e3] at q
      simp only [Option.bind_some] at q
      split at q
      · rename_i zs
        split at q
        · rename_i hlen
          refine ⟨_, e1, .inl ⟨rfl, _, SqL.of e2⟩, O, ρ, _, ok, e3, fun v H1 s1 r1 => ?_⟩
          obtain ⟨b, ys, rfl, e4, r2⟩ := rp_lst r1
          refine ⟨a, b, vs, ys, rfl, rfl, s1 _ _ e2, (cut_of e4).1, ?_, ?_⟩
          · rw [r.len, r2.len, sizeLine_eq]
            omega
          · have na : ¬ Oa a := m.slot i a ⟨_, hj, trivial⟩ e1
            refine q O σ _ ((ok.same s1).write hj e1 oa ((r.mono (cut_same s1)).app r2)) (amb_write (m.go s1 .refl) oa na (ownLe_write hj trivial)) ?_
            rw [cut_upd oa]
            exact cut_same s1
        · exact q.elim
      · exact q.elim
  · exact q.elim
theorem psv_pop {i j : Nat} {x : Str} {pos' : Pos} (ho : PE X o (tVar j)) (hN : X.N.Nodup) (hi : X.N[i]? = some x) (hx : Loc X.env.scope x) (hbase : attributeBase o "pop" X.env (eval o X.env) = eval o X.env := by rfl) (hline : (apos.endLine == cpos.line) = true := by rfl)
    (hs : swapsWith (.Call (.Attribute o "pop" apos) [] [] cpos) (some (.Name x pos')) pos.line X.env = pure false := by rfl) (hf : X.fn x = true ∨ X.env.scope.names.lookup x = some .local := by first | exact .inl rfl | exact .inr rfl) :
    PSV X He Oa (.Assign [.Name x pos'] (.Call (.Attribute o "pop" apos) [] [] cpos) pos) (sPop i j) := by
  refine PS.mono (ps_set hN hi hx (pe_bm0 PySem.F.plainAttrs_list PySem.F.slot_list_pop PySem.F.type_list_pop mt_pop ho hbase hline) hs hf) fun D σ H ⟨O, ρ, ok, m, q⟩ => ?_
  unfold sPop at q
  split at q
  · rename_i ds hj
    obtain ⟨a, vs, e1, oa, e2, r⟩ := ok.lst j ds hj
    cases e3 : ds[ds.length - 1]? with
    | none => rw [e3] at q; exact q.elim
    | some d =>
      rw [e3] at q
      obtain ⟨v, e4, rv⟩ := r.at e3
      have na : ¬ Oa a := m.slot j a ⟨_, hj, trivial⟩ e1
      have ok1 := ok.write hj e1 oa r.dropLast
      have m1 := amb_write (u := .lst vs.dropLast) m oa na (ownLe_write (e' := .lst ds.dropLast) hj trivial)
      have rv1 : RpX X (cut O (upd H a (.lst vs.dropLast))) v d := by
        rw [cut_upd oa]
        exact rv
      refine ⟨_, e1, .inl ⟨rfl, _, SqL.of e2⟩, a, vs, v, rfl, rfl, e2, by rw [r.len]; exact e4, q O _ _ (ok1.put i rv1) (m1.go (Same.refl _) (ownLe_put i d v ok1.len)) ?_⟩
      rw [cut_upd oa]
      exact Same.refl _
  · exact q.elim
/-! ### looking at what is owned -/
def flat1 : PyData → Bool
  | .int _ => true
  | .bool _ => true
  | _ => false
/-- an expression that looks at the owned list of slot i and gives a number or a truth value -/
def fThaw (i : Nat) (f : FE) : FE := fun ρ => match ρ[i]? with
  | some (some (.lst ds)) => (f (ρ.set i (some (.val (.list ds))))).bind fun d => if flat1 d then some d else none
  | _ => none
theorem flat1_rp {H H' : Hp} {v : V} {d : PyData} (h : flat1 d = true) (r : RpX X H v d) : RpX X H' v d := by
  cases d with
  | int i =>
    rw [rp_int r]
    exact .int i
  | bool i =>
    rw [rp_bl r]
    exact .bl i
  | _ => cases h
theorem pv_thaw (i : Nat) (h : PV X e f) : PV X e (fThaw i f) := PE.mono h fun σ H Q ⟨O, ρ, d, ok, e1, q⟩ => by
  unfold fThaw at e1
  split at e1
  · rename_i ds hj
    obtain ⟨d', e2, e3⟩ := Option.bind_eq_some_iff.mp e1
    split at e3
    · rename_i hf
      cases e3
      obtain ⟨a, vs, _, _, _, _, ok'⟩ := freeze_list ok hj
      exact ⟨_, _, d, ok', e2, fun v H' s r => q v H' s (flat1_rp hf r)⟩
    · cases e3
  · cases e1
theorem pvt_thaw (i : Nat) (h : PVT X e f) : PVT X e (fThaw i f) := PT.mono h fun σ H Q ⟨O, ρ, d, ok, e1, q⟩ => by
  unfold fThaw at e1
  split at e1
  · rename_i ds hj
    obtain ⟨d', e2, e3⟩ := Option.bind_eq_some_iff.mp e1
    split at e3
    · rename_i hf
      cases e3
      obtain ⟨a, vs, _, _, _, _, ok'⟩ := freeze_list ok hj
      exact ⟨_, _, d, ok', e2, q⟩
    · cases e3
  · cases e1
/-- an item of an owned list -/
def fOIx (i : Nat) (f : FE) : FE := fun ρ => match ρ[i]? with
  | some (some (.lst ds)) => (f ρ).bind fun d => dIdx (.list ds) d
  | _ => none
theorem pv_oix {i : Nat} (ho : PE X o (tVar i)) (hb : PV X e f) (hs : PlainIx e := by exact fun _ _ => rfl) : PV X (.Subscript o e pos) (fOIx i f) := PE.mono (pe_ix ix_list ho hb hs) fun σ H Q ⟨O, ρ, z, ok, e1, q⟩ => by
  unfold fOIx at e1
  split at e1
  · rename_i ds hj
    obtain ⟨d, e2, e3⟩ := Option.bind_eq_some_iff.mp e1
    obtain ⟨a, vs, e4, oa, e5, r⟩ := ok.lst i ds hj
    refine ⟨_, e4, O, ρ, d, ok, e2, fun v H1 s1 r1 => ?_⟩
    cases d with
    | int k =>
      obtain ⟨u, e6, r2⟩ := r.atI (show L2.atI ds k = some z from e3)
      exact ⟨a, vs, k, u, rfl, rp_int r1, SqL.of (s1 _ _ e5), e6, q u H1 s1 (r2.mono (cut_same s1))⟩
    | _ => cases e3
  · cases e1
end

/-! ### dicts with nested keys -/
def dGet (kvs : List (PyData × PyData)) (k : PyData) : Option PyData := (kvs.find? fun p => decide (nk p.1 = nk k)).map (·.2)
def dPut (kvs : List (PyData × PyData)) (k v : PyData) : List (PyData × PyData) :=
  if (dGet kvs k).isSome then kvs.map fun p => if nk p.1 = nk k then (p.1, v) else p else kvs ++ [(k, v)]
def nGet (xs : List Ent) (k : NestedKey) : Option V := (xs.find? fun p => decide (p.1 = k)).map (·.2.2)
def nPut (xs : List Ent) (k : NestedKey) (b : Addr) (v : V) : List Ent :=
  if (nGet xs k).isSome then xs.map fun p => if p.1 = k then (p.1, p.2.1, v) else p else xs ++ [(k, b, v)]
section
variable {P : Program} {w : World} {K : PySem.W.Frag} {H : Hp}
theorem get_rp {k : PyData} : ∀ {xs : List Ent} {kvs : List (PyData × PyData)}, RpD P w K H xs kvs → (nGet xs (nk k)).isSome = (dGet kvs k).isSome ∧ ∀ d, dGet kvs k = some d → ∃ v, nGet xs (nk k) = some v ∧ Rp P w K H v d
  | _, _, .nil => ⟨rfl, fun d h => by cases h⟩
  | _, _, .cons (kd := kd) (vd := vd) (v := v) (xs := xs) (kvs := kvs) _ h1 h2 r => by
    by_cases e : nk kd = nk k
    · refine ⟨?_, fun d h => ⟨v, ?_, ?_⟩⟩
      · simp [nGet, dGet, e]
      · simp [nGet, e]
      · simp [dGet, e] at h
        rw [← h]
        exact h2
    · obtain ⟨q1, q2⟩ := get_rp (k := k) r
      refine ⟨?_, fun d h => ?_⟩
      · simpa [nGet, dGet, e] using q1
      · have h' : dGet kvs k = some d := by simpa [dGet, e] using h
        obtain ⟨u, q3, q4⟩ := q2 d h'
        exact ⟨u, by simpa [nGet, e] using q3, q4⟩
theorem put_rp {k d : PyData} {b : Addr} {v : V} (kt : keyTop k = true) (rk : Rp P w K H (.ref b) k) (rv : Rp P w K H v d) {xs : List Ent} {kvs : List (PyData × PyData)} (r : RpD P w K H xs kvs) : RpD P w K H (nPut xs (nk k) b v) (dPut kvs k d) := by
  have hm : ∀ {xs : List Ent} {kvs : List (PyData × PyData)}, RpD P w K H xs kvs → RpD P w K H (xs.map fun p => if p.1 = nk k then (p.1, p.2.1, v) else p) (kvs.map fun p => if nk p.1 = nk k then (p.1, d) else p) := by
    intro xs kvs r
    induction kvs generalizing xs with
    | nil => cases r; exact .nil
    | cons p kvs ih =>
      obtain ⟨kd, vd⟩ := p
      cases r with
      | cons h0 h1 h2 r =>
        simp only [List.map_cons]
        by_cases e : nk kd = nk k
        · rw [if_pos e, if_pos e]
          exact .cons h0 h1 rv (ih r)
        · rw [if_neg e, if_neg e]
          exact .cons h0 h1 h2 (ih r)
  have ha : ∀ {xs : List Ent} {kvs : List (PyData × PyData)}, RpD P w K H xs kvs → RpD P w K H (xs ++ [(nk k, b, v)]) (kvs ++ [(k, d)]) := by
    intro xs kvs r
    induction kvs generalizing xs with
    | nil => cases r; exact .cons kt rk rv .nil
    | cons p kvs ih =>
      cases r with
      | cons h0 h1 h2 r => exact .cons h0 h1 h2 (ih r)
  unfold nPut dPut
  rw [(get_rp r).1]
  split
  · exact hm r
  · exact ha r
theorem get_ent {k : NestedKey} : ∀ {xs : List Ent} {ys : List EntV}, Paired EntR xs ys → (nGet xs k).isSome = (atKey ys k).isSome ∧ ∀ v, nGet xs k = some v → ∃ p, atKey ys k = some p ∧ RelV v p.2
  | _, _, .nil => ⟨rfl, fun d h => by cases h⟩
  | _, _, .cons (a := a) (b := b) (l₁ := l1) (l₂ := l2) h r => by
    obtain ⟨h1, h2, h3⟩ := h
    by_cases e : a.1 = k
    · have e' : b.1 = k := h1 ▸ e
      refine ⟨?_, fun d h => ⟨b.2, ?_, ?_⟩⟩
      · simp [nGet, atKey, e, e']
      · simp [atKey, e']
      · simp [nGet, e] at h
        rw [← h]
        exact h3
    · have e' : ¬ b.1 = k := h1 ▸ e
      obtain ⟨q1, q2⟩ := get_ent (k := k) r
      refine ⟨?_, fun d h => ?_⟩
      · simpa [nGet, atKey, e, e'] using q1
      · obtain ⟨p, q3, q4⟩ := q2 d (by simpa [nGet, e] using h)
        exact ⟨p, by simpa [atKey, e'] using q3, q4⟩
theorem put_ent {k : NestedKey} {b : Addr} {v : V} {u : Value} (rv : RelV v u) {xs : List Ent} {ys : List EntV} (r : Paired EntR xs ys) : Paired EntR (nPut xs k b v) (storedH ys k b u) := by
  have hm : ∀ {xs : List Ent} {ys : List EntV}, Paired EntR xs ys → Paired EntR (xs.map fun p => if p.1 = k then (p.1, p.2.1, v) else p) (ys.map (putAt k u)) := by
    intro xs ys r
    induction r with
    | nil => exact .nil
    | @cons a b l1 l2 h r ih =>
      refine .cons ?_ ih
      obtain ⟨h1, h2, h3⟩ := h
      by_cases e : a.1 = k
      · have e' : b.1 = k := h1 ▸ e
        simp only [putAt, if_pos e, if_pos e']
        exact ⟨h1, h2, rv⟩
      · have e' : ¬ b.1 = k := h1 ▸ e
        simp only [putAt, if_neg e, if_neg e']
        exact ⟨h1, h2, h3⟩
  unfold nPut storedH
  rw [(get_ent r).1]
  split
  · exact hm r
  · exact Paired.snoc r ⟨rfl, rfl, rv⟩
theorem nPut_len (xs : List Ent) (k : NestedKey) (b : Addr) (v : V) : (nPut xs k b v).length ≤ xs.length + 1 := by
  unfold nPut
  split
  · rw [List.length_map]
    omega
  · rw [List.length_append]
    exact Nat.le_refl _
end
section
variable {X : Cx} {pins : List (Addr × Obj)} {σ : L2.St} {H : Hp} {s : Shared} {a b : Addr} {xs : List Ent} {kvs : List (PyData × PyData)} {k : PyData}
/-- a dict of ours, told or locked -/
def RdN (X : Cx) (H : Hp) (a : Addr) (xs : List Ent) : Prop := H a = some (DO X.prog X.w a xs) ∨ ∃ o, H a = some (.frz o (DO X.prog X.w a xs))
theorem rdN_phi (I : Inv X pins σ H s) (h : RdN X H a xs) : dphi X.prog X.w a xs s.heap := by
  rcases h with h | ⟨o, h⟩
  · exact (I.hok a _ h).1
  · obtain ⟨_, z⟩ := I.hok a _ h
    exact z.1
theorem isKey_all (I : Inv X pins σ H s) : ∀ {xs : List Ent} {kvs : List (PyData × PyData)} {ys : List EntV}, RpDX X H xs kvs → Paired EntR xs ys → ∀ y ∈ ys, (nestedKind X.prog X.w).is s.heap y.1 y.2.1
  | _, _, _, .nil, .nil => fun y hy => by cases hy
  | _, _, _, .cons kt h1 _ r, .cons h p => fun y hy => by
    rcases List.mem_cons.mp hy with e | hy
    · subst e
      obtain ⟨e1, e2, _⟩ := h
      rw [← e1, ← e2]
      exact Rp.keyTop I kt h1
    · exact isKey_all I r p y hy
theorem dict_at (I : Inv X pins σ H s) (h : RdN X H a xs) (r : RpDX X H xs kvs) : (a == sysModules) = false ∧ xs.length ≤ sizeLine ∧ ∃ ys, Paired EntR xs ys ∧ s.heap.DictOfH (nestedKind X.prog X.w) a ys := by
  obtain ⟨z, m, ys, p, o, es, ep, e1, e2, e3, e4, e5⟩ := rdN_phi I h
  exact ⟨m, z, ys, p, o, es, ep, e1, e2, e3, e4, isKey_all I r p, e5⟩
theorem room8 (hu : X.A.units + 64 < cLine) : (nestedKind X.prog X.w).room X.A.in1 := by
  show X.A.units + 1 + 8 < cLine
  omega
/-- k in d, k not in d -/
def rInN (X : Cx) (neg : Bool) : R2 := fun x y H Q => ∃ a b xs kvs k, x = .ref b ∧ y = .ref a ∧ RdN X H a xs ∧ RpDX X H xs kvs ∧ keyTop k = true ∧ RpX X H (.ref b) k ∧ Q (.bl (if neg then !(dGet kvs k).isSome else (dGet kvs k).isSome)) H
theorem op_inN (hu : X.A.units + 64 < cLine) : OpR X (compareOp .In) (rInN X false) := by
  intro pins s σ H x y v u Q I rx ry h
  obtain ⟨a, b, xs, kvs, k, rfl, rfl, hd, rd, kt, rk, q⟩ := h
  cases rx
  cases ry
  obtain ⟨m, z, ys, p, hm⟩ := dict_at I hd rd
  refine wpAny_in_heap (room8 hu) (Rp.keyTop I kt rk) m hm ⟨.bl _, H, I.tok _, rfl, ?_⟩
  rw [← (get_ent p).1, (get_rp rd).1]
  exact q
theorem op_notInN (hu : X.A.units + 64 < cLine) : OpR X (compareOp .NotIn) (rInN X true) := by
  intro pins s σ H x y v u Q I rx ry h
  obtain ⟨a, b, xs, kvs, k, rfl, rfl, hd, rd, kt, rk, q⟩ := h
  cases rx
  cases ry
  obtain ⟨m, z, ys, p, hm⟩ := dict_at I hd rd
  show wpAny _ _ (do return Value.bool (!(← contains (.ref a) (.ref b)))) _ _ s
  refine wpAny_bind (wpAny_contains_heap (room8 hu) (Rp.keyTop I kt rk) m hm (wpAny_pure ⟨.bl _, H, I.tok _, rfl, ?_⟩))
  rw [← (get_ent p).1, (get_rp rd).1]
  exact q
/-- d[k], there -/
def rGetN (X : Cx) : R2 := fun x y H Q => ∃ a b xs kvs k v d, x = .ref a ∧ y = .ref b ∧ RdN X H a xs ∧ RpDX X H xs kvs ∧ keyTop k = true ∧ RpX X H (.ref b) k ∧ dGet kvs k = some d ∧ nGet xs (nk k) = some v ∧ Q v H
theorem ix_N (hu : X.A.units + 64 < cLine) {a b : Expr} {ta tb : TE} {pos : Pos} (ha : PE X a ta) (hb : PE X b tb) (hs : PlainIx b) : PE X (.Subscript a b pos) (tOp (rGetN X) ta tb) := by
  refine ⟨fun pins s σ H Q I h => ?_⟩
  refine Subscript_ (binT ha hb I h fun v u s2 x y H2 I2 rx ry q => ?_)
  obtain ⟨a, b, xs, kvs, k, z, d, rfl, rfl, hd, rd, kt, rk, e1, e2, q⟩ := q
  cases rx
  cases ry
  obtain ⟨m, _, ys, p, hm⟩ := dict_at I2 hd rd
  obtain ⟨pr, e3, rv⟩ := (get_ent p).2 z e2
  refine tail_any hm.typeIs F.slot_dict_getitem.lookup (wpAny_getItem_heap (room8 hu) (Rp.keyTop I2 kt rk) hm e3 ⟨z, H2, I2.tok _, rv, q⟩) (hs _ _)
/-- d[k] = v -/
def rSetN (X : Cx) : TSet := fun o i v H Q => ∃ a b xs kvs k, o = .ref a ∧ i = .ref b ∧ H a = some (DO X.prog X.w a xs) ∧ RpDX X H xs kvs ∧ keyTop k = true ∧ RpX X H (.ref b) k ∧ xs.length < 100000 ∧ Q (upd H a (DO X.prog X.w a (nPut xs (nk k) b v)))
theorem set_N (hu : X.A.units + 64 < cLine) : PSet X (rSetN X) := by
  intro pins s σ H o i v ov iv u Q I ro ri rv h
  obtain ⟨a, b, xs, kvs, k, rfl, rfl, hd, rd, kt, rk, hl, q⟩ := h
  cases ro
  cases ri
  obtain ⟨m, z, ys, p, hm⟩ := dict_at I (.inl hd) rd
  have hlen : xs.length = ys.length := Paired.length p
  refine wpAny_setItem_heap (room8 hu) (Rp.keyTop I kt rk) hm (fun h' hm' sb => ⟨_, I.write (t' := s.toks + (nestedKind X.prog X.w).draws (nk k)) (x := a) (e := a) (by rw [hd]; trivial) (.inl rfl) (fun c w hc e => (sb.2 c hc).trans e) ?_ ?_, q⟩) (by rw [← hlen]; exact z)
  · obtain ⟨o, _, _, e, _⟩ := hm'
    exact ⟨o, e⟩
  · obtain ⟨o, es, ep, e1, e2, e3, e4, _, e5⟩ := hm'
    refine DO_ok ⟨?_, m, _, put_ent rv p, o, es, ep, e1, e2, e3, e4, e5⟩
    have := nPut_len xs (nk k) b v
    rw [sizeLine_eq]
    omega
/-- {} -/
def tDNewN (X : Cx) : TE := fun _ H Q => ∀ p, H p = none → Q (.ref p) (upd H p (DO X.prog X.w p []))
theorem dphi_empty {P : Program} {w : World} (h : Heap) (hb : sysModules < h.objs.size) : dphi P w h.objs.size [] (h.push { cls := .type "dict", data := .dict #[] }) :=
  ⟨Nat.zero_le _, beq_eq_false_iff_ne.mpr (Ne.symm (Nat.ne_of_lt hb)), [], .nil, _, #[], 0, Heap.get?_push_size _ rfl, ⟨rfl, rfl, rfl⟩, rfl, rfl, List.nodup_nil⟩
theorem pe_dnewN {pos : Pos} : PE X (.Dict [] [] pos) (tDNewN X) := ⟨fun pins s σ H Q I h =>
  wpAny_Dict_empty ⟨.ref s.heap.objs.size, _, I.laid (a := s.heap.objs.size) (o := DO X.prog X.w s.heap.objs.size []) (t' := s.toks) (fun _ _ q => Heap.get?_push_of_some _ q) (Nat.le_refl _) (DO_ok (dphi_empty s.heap I.big)), rfl, h _ (I.hok.fresh (Nat.le_refl _))⟩⟩
/-- {k: v} -/
def tDispN (X : Cx) (tk tv : TE) : TE := fun σ H Q => ∀ p, H p = none → tk σ (upd H p (DO X.prog X.w p [])) fun x H1 => tv σ H1 fun y H2 => ∃ b k, x = .ref b ∧ H2 p = some (DO X.prog X.w p []) ∧ keyTop k = true ∧ RpX X H2 (.ref b) k ∧ Q (.ref p) (upd H2 p (DO X.prog X.w p [(nk k, b, y)]))
theorem disp1 {prog : Program} {w : World} {A : Around} {E : Value → Shared → Prop} {s : Shared} {env : Env} {keys : List (Option Expr)} {values : List Expr} {pos : Pos} {pairs : List (Sem Value × Sem Value)} {Q : Value → Shared → Prop} (hu : (nestedKind prog w).room A)
    (hshape : (evalEachOpt keys env).zip ((evalEach values env).map fun v => do let x ← v; standAt pos; pure x) = pairs.map fun p => (some p.1, p.2)) (h0 : pairs ≠ []) (hlen : pairs.length ≤ 15)
    (h : wpAny (model prog w) A (evalPairs pairs) (fun vs s₁ => ∃ ps, CarriesH (nestedKind prog w) s₁.heap vs ps ∧ s₁.heap.DictOfH (nestedKind prog w) s.heap.objs.size [] ∧
      ∀ h' tk, h'.DictOfH (nestedKind prog w) s.heap.objs.size (storedAllH [] ps) → Heap.SameBut s.heap.objs.size s₁.heap h' → Q (.ref s.heap.objs.size) { s₁ with heap := h', toks := tk }) E
      { s with heap := s.heap.push { cls := .type "dict", data := .dict #[] } }) : wpAny (model prog w) A (eval (.Dict keys values pos) env) Q E s := by
  rw [arm_eval_Dict, hshape, dictDisplay_pairs pairs h0 (by omega)]
  refine wpAny_bind (wpAny_standAt (wpAny_bind (wpAny_subDictH (knd := nestedKind prog w) (Q := fun d s' => wpAny (model prog w) A (pure (Value.ref d)) Q E s') hu hlen (wpAny_mono h (fun vs s₁ h₁ => ?_) fun _ _ e => e))))
  obtain ⟨ps, hc, hm, hq⟩ := h₁
  exact ⟨ps, hc, hm, fun h' tk a b => wpAny_pure (hq h' tk a b)⟩
theorem pe_dispN {k v : Expr} {tk tv : TE} {pos : Pos} (hu : X.A.units + 64 < cLine) (hk : PE X k tk) (hv : PE X v tv) : PE X (.Dict [some k] [v] pos) (tDispN X tk tv) := by
  refine ⟨fun pins s σ H Q I h => ?_⟩
  have hn := I.hok.fresh (Nat.le_refl s.heap.objs.size)
  have I1 : Inv X pins σ (upd H s.heap.objs.size (DO X.prog X.w s.heap.objs.size [])) { s with heap := s.heap.push { cls := .type "dict", data := .dict #[] } } :=
    I.laid (a := s.heap.objs.size) (o := DO X.prog X.w s.heap.objs.size []) (t' := s.toks) (fun _ _ q => Heap.get?_push_of_some _ q) (Nat.le_refl _) (DO_ok (dphi_empty s.heap I.big))
  refine disp1 (pairs := pairTrees [some k] [v] X.env pos) (by show X.A.units + 8 < cLine; omega) (by rfl) (by simp [pairTrees]) (by simp [pairTrees]) ?_
  refine pairTrees_cons_walk (thn (hk.run pins _ σ _ _ I1 (h _ hn)) fun u s1 ⟨x, H1, J1, rx, q1⟩ => thn (hv.run pins s1 σ H1 _ J1 q1) fun u2 s2 ⟨y, H2, J2, ry, b, kd, ex, hp, kt, rk, q⟩ => pairTrees_nil_walk ?_)
  subst ex
  cases rx
  have ik := Rp.keyTop J2 kt rk
  obtain ⟨m, z, ys, p, hm⟩ := dict_at (kvs := []) J2 (.inl hp) .nil
  cases p
  refine ⟨[(nk kd, b, u2)], ⟨rfl, rfl, ik, trivial⟩, hm, fun h' tk hk' sb => ?_⟩
  have hk2 : h'.DictOfH (nestedKind X.prog X.w) s.heap.objs.size [(nk kd, b, u2)] := hk'
  refine ⟨.ref s.heap.objs.size, _, J2.write (t' := tk) (x := s.heap.objs.size) (e := s.heap.objs.size) (o := DO X.prog X.w s.heap.objs.size [(nk kd, b, y)]) (by rw [hp]; trivial) (.inl rfl) (fun c w hc e => (sb.2 c hc).trans e) ?_ ?_, rfl, q⟩
  · obtain ⟨o, _, _, e, _⟩ := hk2
    exact ⟨o, e⟩
  · obtain ⟨o, es, ep, e1, e2, e3, e4, _, e5⟩ := hk2
    exact DO_ok ⟨by rw [sizeLine_eq]; show 1 ≤ 16777216; decide, m, _, .cons ⟨rfl, rfl, ry⟩ .nil, o, es, ep, e1, e2, e3, e4, e5⟩
end
end L3

/-! L3G: dicts in expressions, statements and loops. -/
namespace L3
open PySem PySem.Spec PyProof.Rows L2

def dF0 : FF := fun _ => some (.dct [])
def dF1 (f f' : FE) : FF := fun ρ => (f ρ).bind fun k => (f' ρ).bind fun v => if keyTop k then some (.dct [(k, v)]) else none
def fFz (g : FF) : FE := fun ρ => (g ρ).bind fun e => match e with
  | .dct kvs => some (.dict kvs)
  | _ => none
def dInD (neg : Bool) : PyData → PyData → Option PyData
  | k, .dict kvs => if keyTop k then some (.bool (if neg then !(dGet kvs k).isSome else (dGet kvs k).isSome)) else none
  | _, _ => none
def dGetD : PyData → PyData → Option PyData
  | .dict kvs, k => if keyTop k then dGet kvs k else none
  | _, _ => none
def fOIn (neg : Bool) (i : Nat) (f : FE) : FE := fun ρ => match ρ[i]? with
  | some (some (.dct kvs)) => (f ρ).bind fun k => dInD neg k (.dict kvs)
  | _ => none
def fOGet (i : Nat) (f : FE) : FE := fun ρ => match ρ[i]? with
  | some (some (.dct kvs)) => (f ρ).bind fun k => dGetD (.dict kvs) k
  | _ => none
def sPut (i : Nat) (fk fv : FE) : FS := fun ρ => match ρ[i]? with
  | some (some (.dct kvs)) => (fv ρ).bind fun v => (fk ρ).bind fun k => if keyTop k ∧ kvs.length < 100000 then some (.nx (ρ.set i (some (.dct (dPut kvs k v))))) else none
  | _ => none
def iK (f : FE) : FI := fun ρ => (f ρ).bind fun x => match x with
  | .dict kvs => some (kvs.map (·.1))
  | _ => none
def gLenD : List PyData → Option PyData
  | [.dict kvs] => some (.int kvs.length)
  | _ => none
section
variable {X : Cx} {He : Hp} {Oa : Addr → Prop} {st : Stmt} {e o a b tg : Expr} {es : List Expr} {f f' : FE} {g : FF} {pos cpos apos : Pos}
/-- a state of what stands, looked at again -/
theorem PE.ghost {t : TE} (h : PE X e t) : PE X e (fun σ H Q => t σ H fun v H' => ∃ p u, v = V.ref p ∧ H' p = some u ∧ Mut (some u) ∧ ∀ ob, Q v (upd H' p (.frz ob u))) := by
  refine ⟨fun pins s σ H Q I hw => thn (h.run pins s σ H _ I hw) fun u s1 ⟨v, H1, I1, r1, p, w, ev, ep, mu, q⟩ => ?_⟩
  obtain ⟨ob, I2⟩ := I1.lock ep mu
  exact ⟨v, _, I2, r1, q ob⟩
theorem pf_dnew : PE X (.Dict [] [] pos) (tF X dF0) := PE.mono pe_dnewN fun σ H Q ⟨O, ρ, ev, ok, e1, q⟩ => by
  cases e1
  exact fun p hp => q _ _ _ (same_upd hp) (fresh_evs (X := X) ok.sub hp ⟨p, [], rfl, .inr rfl, upd_same, .nil⟩)
theorem keyTop_ref {H : Hp} {v : V} {k : PyData} (kt : keyTop k = true) (r : RpX X H v k) : ∃ b, v = .ref b := by
  cases k with
  | tuple ds =>
    obtain ⟨b, xs, e, _⟩ := rp_tup r
    exact ⟨b, e⟩
  | _ => exact absurd kt (by simp [keyTop, isTupD])
theorem pf_disp (hu : X.A.units + 64 < cLine) (hk : PV X a f) (hv : PV X b f') : PE X (.Dict [some a] [b] pos) (tF X (dF1 f f')) := PE.mono (pe_dispN hu hk hv) fun σ H Q ⟨O, ρ, ev, ok, e1, q⟩ => by
  obtain ⟨k, e2, e1⟩ := Option.bind_eq_some_iff.mp e1
  obtain ⟨v, e3, e1⟩ := Option.bind_eq_some_iff.mp e1
  split at e1
  · rename_i kt
    cases e1
    intro p hp
    have okp := ok.more (p := p) (u := DO X.prog X.w p []) hp
    refine ⟨_, ρ, k, okp, e2, fun x H1 s1 r1 => ⟨_, ρ, v, okp.same s1, e3, fun y H2 s2 r2 => ?_⟩⟩
    obtain ⟨c, rfl⟩ := keyTop_ref kt r1
    have ep : H2 p = some (DO X.prog X.w p []) := s2 _ _ (s1 _ _ upd_same)
    have op : (fun a => O a ∨ a = p) p := .inr rfl
    have r1' := r1.mono (cut_same s2)
    refine ⟨c, k, rfl, ep, kt, r1'.mono cut_le, q _ _ (fun a => O a ∨ a = p) ?_ ⟨fun d z => ?_, fun _ z => .inl z, fun d z1 z2 => ?_, .cons ⟨p, _, rfl, op, upd_same, ?_⟩ .nil, fun i e' p' h1 h2 h3 => ?_, fun i j e1 e2 p' h1 _ h2 _ _ _ => ?_⟩⟩
    · intro d u ed
      have ne : d ≠ p := ne_of_none ed hp
      rw [upd_ne ne]
      exact s2 _ _ (s1 _ _ (same_upd hp _ _ ed))
    · by_cases ed : d = p
      · rw [ed, upd_same]
        exact fun z => by cases z
      · rw [upd_ne ed]
        exact (okp.same (s1.trans s2)).sub d z
    · rcases z1 with z | z
      · exact absurd z z2
      · rw [z]
        exact hp
    · rw [cut_upd op]
      exact .cons kt r1' r2 .nil
    · cases i with
      | zero =>
        cases h3
        exact ok.sub.no hp
      | succ i => simp at h1
    · cases i with
      | zero =>
        cases j with
        | zero => rfl
        | succ j => simp at h2
      | succ i => simp at h1
  · cases e1
/-- a new dict that is not changed any more -/
theorem pv_fz (h : PE X e (tF X g)) : PV X e (fFz g) := PE.mono (PE.ghost h) fun σ H Q ⟨O, ρ, d, ok, e1, q⟩ => by
  obtain ⟨ev, e2, e1⟩ := Option.bind_eq_some_iff.mp e1
  cases ev with
  | dct kvs =>
    cases e1
    refine ⟨O, ρ, _, ok, e2, fun v H1 O1 s1 z => ?_⟩
    obtain ⟨p, xs, rfl, op, ep, rd⟩ : EVone X.prog X.w X.K O1 H1 v (.dct kvs) := by cases z.one with | cons h _ => exact h
    refine ⟨p, _, rfl, ep, trivial, fun ob => ?_⟩
    have np : ¬ O p := z.out 0 _ p rfl trivial rfl
    have hp : H p = none := z.new p op np
    have sc : Same (cut O1 H1) (cut O (upd H1 p (.frz ob (DO X.prog X.w p xs)))) := fun c u ec => by
      obtain ⟨q1, q2⟩ := cut_of ec
      have ne : c ≠ p := fun z => q2 (z ▸ op)
      rw [cut_at (fun y => q2 (z.le c y)), upd_ne ne]
      exact q1
    refine q _ _ (fun c u ec => ?_) (.dct (a := p) (o := ob) (xs := xs) ?_ (rd.mono sc))
    · rw [upd_ne (ne_of_none ec hp)]
      exact s1 _ _ ec
    · rw [cut_at np, upd_same]
  | _ => cases e1
theorem g_inD (neg : Bool) : Gives2 X (rInN X neg) (dInD neg) := by
  intro O H x y d e z Q sub hx hy ez q
  unfold dInD at ez
  split at ez
  · rename_i kvs
    split at ez
    · rename_i kt
      cases ez
      obtain ⟨c, rfl⟩ := keyTop_ref kt hx
      cases hy with
      | dct h r => exact ⟨_, c, _, kvs, d, rfl, rfl, .inr ⟨_, (cut_of h).1⟩, r.mono cut_le, kt, hx.mono cut_le, q _ H (Same.refl H) (.bl _)⟩
    · cases ez
  · cases ez
theorem g_getD : Gives2 X (rGetN X) dGetD := by
  intro O H x y d e z Q sub hx hy ez q
  unfold dGetD at ez
  split at ez
  · rename_i kvs
    split at ez
    · rename_i kt
      obtain ⟨c, rfl⟩ := keyTop_ref kt hy
      cases hx with
      | dct h r =>
        obtain ⟨v, e1, r1⟩ := (get_rp r).2 z ez
        exact ⟨_, c, _, kvs, e, v, z, rfl, rfl, .inr ⟨_, (cut_of h).1⟩, r.mono cut_le, kt, hy.mono cut_le, ez, e1, q v H (Same.refl H) r1⟩
    · cases ez
  · cases ez
theorem pv_getD (hu : X.A.units + 64 < cLine) (ha : PV X a f) (hb : PV X b f') (hs : PlainIx b := by exact fun _ _ => rfl) : PV X (.Subscript a b pos) (o2 dGetD f f') := PE.mono (ix_N hu ha hb hs) (tOp_of g_getD)
theorem tInO {neg : Bool} {i : Nat} (σ : L2.St) (H : Hp) (Q : VK) (h : tV X (fOIn neg i f) σ H Q) : tOp (rInN X neg) (tV X f) (tVar i) σ H Q := by
  obtain ⟨O, ρ, z, ok, e1, q⟩ := h
  unfold fOIn at e1
  split at e1
  · rename_i kvs hj
    obtain ⟨k, e2, e3⟩ := Option.bind_eq_some_iff.mp e1
    obtain ⟨p, xs, e4, op, e5, r⟩ := ok.dct i kvs hj
    unfold dInD at e3
    simp only at e3
    split at e3
    · rename_i kt
      cases e3
      refine ⟨O, ρ, k, ok, e2, fun v H1 s1 r1 => ⟨_, e4, ?_⟩⟩
      obtain ⟨c, rfl⟩ := keyTop_ref kt r1
      exact ⟨p, c, xs, kvs, k, rfl, rfl, .inl (s1 _ _ e5), (r.mono (cut_same s1)).mono cut_le, kt, r1.mono cut_le, q _ H1 s1 (.bl _)⟩
    · cases e3
  · cases e1
theorem pvt_inO {i : Nat} (hu : X.A.units + 64 < cLine) (ha : PV X a f) (ho : PE X o (tVar i)) (hm : behindInMarks .In o = false := by rfl) : PVT X (.Compare a [.In] [o] pos) (fOIn false i f) := PT.mono (pt_cmpR (op_inN hu) ha ho hm) (tTest_of tInO)
theorem pvt_notinO {i : Nat} (hu : X.A.units + 64 < cLine) (ha : PV X a f) (ho : PE X o (tVar i)) (hm : behindInMarks .NotIn o = false := by rfl) : PVT X (.Compare a [.NotIn] [o] pos) (fOIn true i f) := PT.mono (pt_cmpR (op_notInN hu) ha ho hm) (tTest_of tInO)
theorem pvt_inD (hu : X.A.units + 64 < cLine) (ha : PV X a f) (hb : PV X b f') (hm : behindInMarks .In b = false := by rfl) : PVT X (.Compare a [.In] [b] pos) (o2 (dInD false) f f') := pvt_cmp (op_inN hu) (g_inD false) ha hb hm
theorem pv_getO {i : Nat} (hu : X.A.units + 64 < cLine) (ho : PE X o (tVar i)) (hb : PV X b f) (hs : PlainIx b := by exact fun _ _ => rfl) : PV X (.Subscript o b pos) (fOGet i f) := PE.mono (ix_N hu ho hb hs) fun σ H Q ⟨O, ρ, z, ok, e1, q⟩ => by
  unfold fOGet at e1
  split at e1
  · rename_i kvs hj
    obtain ⟨k, e2, e3⟩ := Option.bind_eq_some_iff.mp e1
    obtain ⟨p, xs, e4, op, e5, r⟩ := ok.dct i kvs hj
    unfold dGetD at e3
    simp only at e3
    split at e3
    · rename_i kt
      refine ⟨_, e4, O, ρ, k, ok, e2, fun v H1 s1 r1 => ?_⟩
      obtain ⟨c, rfl⟩ := keyTop_ref kt r1
      obtain ⟨u, e6, r6⟩ := (get_rp r).2 z e3
      exact ⟨p, c, xs, kvs, k, u, z, rfl, rfl, .inl (s1 _ _ e5), (r.mono (cut_same s1)).mono cut_le, kt, r1.mono cut_le, e3, e6, q u H1 s1 (r6.mono (cut_same s1))⟩
    · cases e3
  · cases e1
theorem psv_put {i : Nat} {fk fv : FE} {spos : Pos} (hu : X.A.units + 64 < cLine) (he : PV X e fv) (ho : PE X o (tVar i)) (hk : PV X a fk)
    (ha : ∀ v, assign (.Subscript o a spos) X.env v = (do
      let ov ← holding [v] (eval o X.env)
      let iv ← holding [v, ov] (eval a X.env)
      standAt spos
      holding [v, ov, iv] (setItem ov iv v)
      release [v, ov, iv] []) := by intro _; rfl)
    (hs : swapsWithSole [.Subscript o a spos] e pos.line X.env = pure false := by rfl) (hw : swappedStores [.Subscript o a spos] e X.env = pure none := by rfl)
    (h1 : (assignEach [.Subscript o a spos] X.env).map (·.2) = [assign (.Subscript o a spos) X.env] := by rfl) : PSV X He Oa (.Assign [.Subscript o a spos] e pos) (sPut i fk fv) :=
  PS.mono (ps_asg he (pg_sub ho hk (set_N hu) ha) hs hw h1) fun D σ H ⟨O, ρ, ok, m, q⟩ => by
    unfold sPut at q
    split at q
    · rename_i kvs hj
      obtain ⟨p, xs, e4, op, e5, r⟩ := ok.dct i kvs hj
      cases e1 : fv ρ with
      | none => rw [e1] at q; exact q.elim
      | some v =>
        rw [e1] at q
        cases e2 : fk ρ with
        | none => simp only [Option.bind_some, e2] at q; exact q.elim
        | some k =>
          simp only [Option.bind_some, e2] at q
          split at q
          · rename_i hc
            refine ⟨O, ρ, v, ok, e1, fun y H1 s1 r1 => ⟨_, e4, O, ρ, k, ok.same s1, e2, fun x H2 s2 r2 => ?_⟩⟩
            obtain ⟨c, rfl⟩ := keyTop_ref hc.1 r2
            have s12 := s1.trans s2
            have rd := r.mono (cut_same s12)
            have na : ¬ Oa p := m.slot i p ⟨_, hj, trivial⟩ e4
            refine ⟨p, c, xs, kvs, k, rfl, rfl, s12 _ _ e5, rd.mono cut_le, hc.1, r2.mono cut_le, by rw [r.len]; exact hc.2, ?_⟩
            refine q O σ _ ((ok.same s12).writeD hj e4 op (put_rp hc.1 r2 (r1.mono (cut_same s2)) rd)) (amb_write (m.go s12 .refl) op na (ownLe_write hj trivial)) ?_
            rw [cut_upd op]
            exact cut_same s12
          · exact q.elim
    · exact q.elim
/-! ### for k in d -/
def ItN (X : Cx) (d : Addr) (o : Obj) (xs : List Ent) : It :=
  ⟨fun i H => H d = some (.frz o (DO X.prog X.w d xs)) ∧ i < xs.length, fun i H x H' => H' = H ∧ ∃ en, xs[i]? = some en ∧ x = .ref en.2.1, fun i H => H d = some (.frz o (DO X.prog X.w d xs)) ∧ xs.length ≤ i⟩
theorem frz_at {Y : Cx} {pins : List (Addr × Obj)} {σ : L2.St} {H : Hp} {s : Shared} {d : Addr} {ob : Obj} {xs : List Ent} (I : Inv Y pins σ H s) (h : H d = some (.frz ob (DO Y.prog Y.w d xs))) :
    (d == sysModules) = false ∧ s.heap.get? d = some ob ∧ ob.ExactDict ∧ ∃ es ep, ob.data = .dict es ep ∧ es.size = xs.length ∧ ∀ (i : Nat) (en : Ent), xs[i]? = some en → ∃ de : DictEntry, es[i]? = some de ∧ de.key = .ref en.2.1 := by
  obtain ⟨hd, x⟩ := I.hok d _ h
  obtain ⟨z, m, ys, p, o, es, ep, e1, e2, e3, e4, e5⟩ := x.1
  rw [hd] at e1
  cases e1
  have hl : xs.length = ys.length := Paired.length p
  have hz : es.size = ys.length := by rw [← Array.length_toList, e4, List.length_map]
  refine ⟨m, hd, e2, es, ep, e3, by omega, fun i en he => ?_⟩
  obtain ⟨y, hy, r⟩ := paired_get p he
  refine ⟨entryOfKey (nestedKind Y.prog Y.w) y, ?_, ?_⟩
  · rw [← Array.getElem?_toList, e4, List.getElem?_map, hy]
    rfl
  · show Value.ref y.2.1 = _
    rw [r.2.1]
theorem turn_N {tg : Expr} {d : Addr} {o : Obj} {xs : List Ent} {es : Array DictEntry} {ep : Nat} (it : Addr) (hod : o.data = .dict es ep) : Turn X.prog X.w X.K tg (ItN X d o xs) [it] it (fun i h => h.IsKeyIter it d i xs.length ep) where
  mem := by simp
  obj := fun i h st b hb => by
    have eb : b = it := by simpa using hb
    subst eb
    obtain ⟨oi, e, c, dd⟩ := st
    exact ⟨oi, e, fun v z => by rw [dd] at z; cases z⟩
  keep := fun i h h' st k => st.at fun oi e => k it (by simp) oi e
  item := by
    intro Y hP hw hK hc i pins s σ H E I hf st hg
    obtain ⟨hd, hi⟩ := hg
    have hd' : H d = some (.frz o (DO Y.prog Y.w d xs)) := by rw [hP, hw]; exact hd
    obtain ⟨f0, f1, f2, f3, f4, f5⟩ := hf it (by simp)
    obtain ⟨hs, hgd, hx, es', ep', hdt, hsz, ent⟩ := frz_at I hd'
    obtain ⟨rfl, rfl⟩ := dict_ep hod hdt
    have he : xs[i]? = some xs[i] := List.getElem?_eq_getElem hi
    obtain ⟨en, hen, hkey⟩ := ent i _ he
    rw [← hP, ← hw]
    refine next_key_item st hgd hdt hsz hen fun h' st' sb => ?_
    have I1 : Inv Y pins σ H { s with heap := h' } := I.turned (t' := s.toks) (fun b ob hb e => (sb.2 b hb).trans e) f0 f1 f3 f4 f5
    obtain ⟨oi, e, c, dd⟩ := id st'
    exact ⟨en.key, rfl, go_of (s := { s with heap := h' }) e c dd (by decide) ⟨.ref xs[i].2.1, H, I1, hkey, ⟨rfl, xs[i], he, rfl⟩, st', fun b hb => (hf b hb).1⟩⟩
  done := by
    intro Y hP hw hK hc i pins s σ H E I hf st hg
    obtain ⟨hd, hi⟩ := hg
    have hd' : H d = some (.frz o (DO Y.prog Y.w d xs)) := by rw [hP, hw]; exact hd
    obtain ⟨f0, f1, f2, f3, f4, f5⟩ := hf it (by simp)
    obtain ⟨hs, hgd, hx, es', ep', hdt, hsz, ent⟩ := frz_at I hd'
    obtain ⟨rfl, rfl⟩ := dict_ep hod hdt
    rw [← hP, ← hw]
    exact next_key_end (I.ok.hd hc) st hgd hdt hsz hi fun h' eb => ⟨rfl, I.turned (t' := s.toks) (fun b ob hb e => eb b ob hb e) f0 f1 f3 f4 f5⟩
  self := fun A i s Q E st h => by
    refine wpAny_pyIter_slot st.typeIs F.slot_dict_keyiterator_iter (wpAny_call_entry F.slot_dict_keyiterator_iter st.typeIs F.entry_dict_keyiterator_iter ?_ (F.args_dict_keyiterator_iter_1 _))
    show wpAny _ _ (ret (.ref it)) _ _ s
    exact wpAny_pure ⟨_, rfl, "dict_keyiterator", _, st.typeIs, F.slot_dict_keyiterator_next.lookup, h⟩
theorem key_at {P : Program} {w : World} {K : PySem.W.Frag} {H : Hp} : ∀ {xs : List Ent} {kvs : List (PyData × PyData)} {i : Nat} {k : PyData}, RpD P w K H xs kvs → (kvs.map (·.1))[i]? = some k → ∃ en, xs[i]? = some en ∧ Rp P w K H (.ref en.2.1) k
  | _, _, _, _, .nil, h => by simp at h
  | _, _, 0, _, .cons _ h1 _ r, h => by
    simp only [List.map_cons, List.getElem?_cons_zero, Option.some.injEq] at h
    subst h
    exact ⟨_, rfl, h1⟩
  | _, _, i + 1, _, .cons _ _ _ r, h => by
    simp only [List.map_cons, List.getElem?_cons_succ] at h
    obtain ⟨en, e1, e2⟩ := key_at (i := i) r h
    exact ⟨en, by rw [List.getElem?_cons_succ]; exact e1, e2⟩
theorem piv_keys (he : PV X e f) : PI X tg e (tI X (iK f)) := by
  refine ⟨fun pins s σ H R I h => ?_⟩
  obtain ⟨O, ρ, ds, ok, e1, q⟩ := h
  obtain ⟨x, e2, e1⟩ := Option.bind_eq_some_iff.mp e1
  cases x with
  | dict kvs =>
    cases e1
    refine thn (he.run pins s σ H (fun v H1 => Same H H1 ∧ RpX X (cut O H1) v (.dict kvs)) I ⟨O, ρ, _, ok, e2, fun v H1 s1 r1 => ⟨s1, r1⟩⟩) fun u s1 ⟨v, H1, I1, rv, sm, r1⟩ => ?_
    cases r1 with
    | dct hd rd =>
      rename_i p ob xs
      cases rv
      have hd1 := (cut_of hd).1
      obtain ⟨hs, hgd, hx, es, ep, hdt, hsz, ent⟩ := frz_at I1 hd1
      refine iter_keys hs hgd hx hdt (pi_one (tk := s1.toks) I1 _ (turn_N (X := X) (xs := xs) _ hdt) ⟨_, Heap.get?_push_size _ rfl, rfl, by rw [hsz] <;> rfl⟩ (q _ H1 sm ?_))
      intro O' H' sc i
      have hd2 := (cut_of (sc _ _ hd)).1
      refine ⟨fun hi => ⟨hd2, by rw [rd.len]; rw [List.length_map] at hi; exact hi⟩, fun d hk => ?_⟩
      obtain ⟨en, e3, r3⟩ := key_at rd hk
      refine ⟨⟨hd2, (List.getElem?_eq_some_iff.mp e3).1⟩, fun y H'' ⟨z1, en', z2, z3⟩ => ⟨z1, ?_⟩⟩
      rw [e3] at z2
      cases z2
      rw [z3]
      exact r3.mono sc
  | _ => cases e1
/-! ### len(d) -/
def rLenN (X : Cx) : List V → Hp → VK → Prop := fun vs H Q => ∃ p xs kvs, vs = [.ref p] ∧ RdN X H p xs ∧ RpDX X H xs kvs ∧ Q (.int kvs.length) H
theorem call_lenN : CallR X (.builtin "len") (rLenN X) := by
  intro pins s σ H vs us Q I r h
  obtain ⟨p, xs, kvs, rfl, hd, rd, q⟩ := h
  obtain ⟨u, rfl, rx⟩ := vals1 r
  cases rx
  obtain ⟨m, z, ys, pr, hm⟩ := dict_at I hd rd
  have hl : kvs.length = ys.length := by rw [← rd.len]; exact Paired.length pr
  have hz := rd.len
  rw [sizeLine_eq] at z
  refine call_len_dictH m hm (by omega) ⟨.int kvs.length, H, I.tok _, ⟨_, by rw [hl]⟩, q⟩
theorem gv_lenD : GivesA X (rLenN X) gLenD := by
  intro O H vs ds z Q sub hv ez q
  unfold gLenD at ez
  split at ez
  · cases ez
    cases hv with
    | cons h1 h2 =>
      cases h2
      cases h1 with
      | dct hd rd => exact ⟨_, _, _, rfl, .inr ⟨_, (cut_of hd).1⟩, rd.mono cut_le, q _ H (Same.refl H) (.int _)⟩
  · cases ez
end
end L3

/-! L3H: defs by name; what the text's top gives. -/
namespace L3
open PySem PySem.Spec PyProof.Rows L2

/-- the def x stands at the module's name x -/
def Defd (K : PySem.W.Frag) (mg : Str → Option Value) (x : Str) (st : Stmt) : Prop := ∃ f fd, FunD K x x (defArgs st) (defBody st) (defScope st) [] [] f fd ∧ mg x = some (.ref f)
/-- the def x computes φ of n values, by at most level lv -/
def Ok (P : Program) (w : World) (K : PySem.W.Frag) (mg : Str → Option Value) (base : Heap) (x : Str) (ps : List Str) (lv n : Nat) (φ : List PyData → Option PyData) : Prop :=
  ∃ f fd, mg x = some (.ref f) ∧ PySem.W.keepIn K (.ref f) = true ∧ Binds K fd ps [] ∧ FnOk P w K mg base CX0 lv f fd ps (spP P w K n φ)
section
variable {P : Program} {w : World} {K : PySem.W.Frag} {mg : Str → Option Value} {base : Heap} {x : Str} {st : Stmt} {N ps : List Str} {k n : Nat} {φ : List PyData → Option PyData} {f : FS}
theorem ok_mk (D : Defd K mg x st) (S : FnScope N ps (defScope st)) (hn : ps.length = n)
    (hbd : ∀ (kV doc pm : Value) (an : Option Addr) (cdv ct : Value) (us : List Value), us.length = ps.length → bindArgs (PySem.W.fnOf x x (defArgs st) (defBody st) (defScope st) .none kV doc pm an cdv ct) ⟨us, []⟩ = pure (ps.zip us))
    (hφ : ∀ ds d, φ ds = some d → runF N.length f ds = some d)
    (hb : ∀ (fa : Addr) (cdv : Value) (A : Around) (outer : List Env) (s : Shared) (H He : Hp) (Oa : Addr → Prop), Room k (A.deeper (envOfC x (defScope st) s.heap.objs.size fa cdv)) →
      PBV (cxOf CX0 P w K mg base N x (defScope st) fa cdv A outer s H E0).nox He Oa (defBody st) f) : Ok P w K mg base x ps (k + 1) n φ := by
  obtain ⟨fa, fd, F, hm⟩ := D
  exact ⟨fa, fd, hm, F.kp, F.bindsN hbd, fn_pure F S hn hφ fun cdv A outer s H He Oa hr => hb fa cdv A outer s H He Oa hr⟩
theorem ok_zero (D : Defd K mg x st) (hn : ps.length = n) (hbd : ∀ (kV doc pm : Value) (an : Option Addr) (cdv ct : Value) (us : List Value), us.length = ps.length → bindArgs (PySem.W.fnOf x x (defArgs st) (defBody st) (defScope st) .none kV doc pm an cdv ct) ⟨us, []⟩ = pure (ps.zip us))
    (h : ∀ ds, φ ds = none) : Ok P w K mg base x ps k n φ := by
  obtain ⟨fa, fd, F, hm⟩ := D
  exact ⟨fa, fd, hm, F.kp, F.bindsN hbd, ⟨fun vs H Q E ⟨O, ds, d, _, r, hl, e, _⟩ => (by rw [h] at e; cases e), fun A outer s H args us vs Q E _ _ _ _ ⟨O, ds, d, _, _, _, e, _⟩ => (by rw [h] at e; cases e)⟩⟩
end
section
variable {X : Cx} {e : Expr} {es : List Expr} {r : FA} {pos : Pos}
theorem pv_callO {k lv n : Nat} {ps : List Str} {φ : List PyData → Option PyData} {x : Str} {p : Pos} (F : Ok X.prog X.w X.K X.mg X.base x ps lv n φ) (hr : Room k X.A) (hlv : lv ≤ k) (hg : Gl X x) (ha : PVA X (e :: es) r) (hl : LenA r n)
    (hdb : (x == ("__debug__" : Str)) = false := by decide) (he : starEach (e :: es) X.env = (false, eval e X.env) :: starEach es X.env := by rfl) (hpl : (backTo pos (starEach es X.env)).any (·.1) = false := by rfl) : PV X (.Call (.Name x p) (e :: es) [] pos) (oA φ r) := by
  obtain ⟨f, fd, hm, hk, hb, F⟩ := F
  exact pv_call F (hr.mono hlv) hg hm hk hb ha hl hdb he hpl
def dNeg : PyData → Option PyData
  | .int i => some (.int (-i))
  | _ => none
theorem pv_neg {a : Expr} {f : FE} (h : PV X a f) : PV X (.UnaryOp .USub a pos) (o1 dNeg f) := PE.mono (pe_un un_neg h) fun σ H Q ⟨O, ρ, z, ok, e, q⟩ => by
  obtain ⟨d, e1, e⟩ := Option.bind_eq_some_iff.mp e
  cases d with
  | int i =>
    cases e
    exact ⟨O, ρ, _, ok, e1, fun v H1 s1 r1 => ⟨i, rp_int r1, q _ H1 s1 (.int _)⟩⟩
  | _ => cases e
end
def sDrop (f : FE) : FS := fun ρ => (f ρ).bind fun _ => some (.nx ρ)
theorem psv_drop {X : Cx} {He : Hp} {Oa : Addr → Prop} {e : Expr} {f : FE} {pos : Pos} (h : PV X e f) (hs : swapsWith e none pos.line X.env = pure false := by rfl) : PSV X He Oa (.Expr e pos) (sDrop f) := PS.mono (ps_expr h hs) fun D σ H ⟨O, ρ, ok, m, q⟩ => by
  unfold sDrop at q
  cases e1 : f ρ with
  | none => rw [e1] at q; exact q.elim
  | some d =>
    rw [e1] at q
    exact ⟨O, ρ, d, ok, e1, fun v H1 s1 _ => q O σ H1 (ok.same s1) (m.go s1 .refl) (cut_same s1)⟩
/-- the built-in names that the text does not bind, its constants -/
structure Bi (K : PySem.W.Frag) (mg : Str → Option Value) : Prop where
  isinstance : mg "isinstance" = none
  int : mg "int" = none
  bool : mg "bool" = none
  tuple : mg "tuple" = none
  str : mg "str" = none
  list : mg "list" = none
  len : mg "len" = none
  max : mg "max" = none
  min : mg "min" = none
  abs : mg "abs" = none
  all : mg "all" = none
  sorted : mg "sorted" = none
  range : mg "range" = none
  MOST : ∃ t, mg "MOST" = some (.int 6 t)
  DEEDS : ∃ t, mg "DEEDS" = some (.int 40 t)
  FAMILY : ∃ a, mg "FAMILY" = some (.ref a) ∧ ∀ H, SqT K H a [.str "heights", .str "levels", .str "once", .str "plain", .str "rebuilt", .str "splayed", .str "top", .str "weights"]
  WORDS : ∃ a, mg "WORDS" = some (.ref a) ∧ ∀ H, SqT K H a [.str "ask", .str "in", .str "out"]
def famD : PyData := .tuple [.str "heights", .str "levels", .str "once", .str "plain", .str "rebuilt", .str "splayed", .str "top", .str "weights"]
def wordsD : PyData := .tuple [.str "ask", .str "in", .str "out"]
section
variable {X : Cx} {pos : Pos}
theorem pv_MOST (T : Bi X.K X.mg) (hg : Gl X "MOST") : PV X (.Name "MOST" pos) (fC (.int 6)) := by
  obtain ⟨t, h⟩ := T.MOST
  exact pv_glob (v := .int 6) hg h ⟨t, rfl⟩ fun _ => .int 6
theorem pv_DEEDS (T : Bi X.K X.mg) (hg : Gl X "DEEDS") : PV X (.Name "DEEDS" pos) (fC (.int 40)) := by
  obtain ⟨t, h⟩ := T.DEEDS
  exact pv_glob (v := .int 40) hg h ⟨t, rfl⟩ fun _ => .int 40
theorem pv_FAMILY (T : Bi X.K X.mg) (hg : Gl X "FAMILY") : PV X (.Name "FAMILY" pos) (fC famD) := by
  obtain ⟨a, h, q⟩ := T.FAMILY
  exact pv_glob (v := .ref a) hg h rfl fun H => .tup (q H) (.cons (.str _) (.cons (.str _) (.cons (.str _) (.cons (.str _) (.cons (.str _) (.cons (.str _) (.cons (.str _) (.cons (.str _) .nil))))))))
theorem pv_WORDS (T : Bi X.K X.mg) (hg : Gl X "WORDS") : PV X (.Name "WORDS" pos) (fC wordsD) := by
  obtain ⟨a, h, q⟩ := T.WORDS
  exact pv_glob (v := .ref a) hg h rfl fun H => .tup (q H) (.cons (.str _) (.cons (.str _) (.cons (.str _) .nil)))
end
end L3

namespace L3
open PySem PySem.Spec PyProof.Rows L2
def topS (i : Nat) : Stmt := PySem.Challenge.pw_turnedtrees_k51_whole_same_keys.main.body.getD i (.Pass ⟨0, 0, 0, 0⟩)
abbrev s_is_number : Stmt := topS 7
abbrev s_keys_of : Stmt := topS 8
abbrev s_size_of : Stmt := topS 9
abbrev s_height_of : Stmt := topS 10
abbrev s_way_to : Stmt := topS 11
abbrev s_left_up : Stmt := topS 13
abbrev s_right_up : Stmt := topS 14
abbrev s_turned : Stmt := topS 15
abbrev s_with_leaf : Stmt := topS 17
abbrev s_least : Stmt := topS 18
abbrev s_greatest : Stmt := topS 19
abbrev s_without : Stmt := topS 20
abbrev s_once_up : Stmt := topS 21
abbrev s_to_top : Stmt := topS 22
abbrev s_way_down : Stmt := topS 23
abbrev s_splayed : Stmt := topS 24
abbrev s_without_splayed : Stmt := topS 25
abbrev s_weight_of : Stmt := topS 27
abbrev s_is_greater : Stmt := topS 29
abbrev s_is_inner : Stmt := topS 30
abbrev s_set_right : Stmt := topS 28
abbrev s_put_right : Stmt := topS 31
abbrev s_take_right : Stmt := topS 32
abbrev s_is_even : Stmt := topS 33
abbrev s_built : Stmt := topS 34
abbrev s_rebuilt : Stmt := topS 35
abbrev s_put_rebuilt : Stmt := topS 36
abbrev s_take_rebuilt : Stmt := topS 37
abbrev s_rank_of : Stmt := topS 39
abbrev s_ranked : Stmt := topS 40
abbrev s_bare : Stmt := topS 41
abbrev s_skew : Stmt := topS 42
abbrev s_split : Stmt := topS 43
abbrev s_put_in : Stmt := topS 44
abbrev s_with_right : Stmt := topS 45
abbrev s_set_back : Stmt := topS 46
abbrev s_take_out : Stmt := topS 47
abbrev s_is_rule : Stmt := topS 50
abbrev s_need_rule : Stmt := topS 51
abbrev s_by_order : Stmt := topS 52
abbrev s_moved : Stmt := topS 55
abbrev s_with_key : Stmt := topS 53
abbrev s_without_key : Stmt := topS 54
abbrev s_behind : Stmt := topS 56
abbrev s_cost_of : Stmt := topS 57
abbrev s_is_deed : Stmt := topS 58
abbrev s_is_load : Stmt := topS 62
abbrev s_need_load : Stmt := topS 63
abbrev s_keys_along : Stmt := topS 64
abbrev s_is_row : Stmt := topS 65
abbrev s_need_row : Stmt := topS 66
abbrev s_is_row_of : Stmt := topS 67
abbrev s_is_of : Stmt := topS 68
abbrev s_run : Stmt := topS 69
abbrev s_need_run : Stmt := topS 70
abbrev s_shapes_along : Stmt := topS 71
abbrev s_costs_along : Stmt := topS 72
abbrev s_deeds_at : Stmt := topS 73
abbrev s_parted : Stmt := topS 75
abbrev s_need_two : Stmt := topS 76
abbrev s_parting_row : Stmt := topS 77
abbrev s_costing_row : Stmt := topS 78
abbrev s_lowest : Stmt := topS 80
abbrev s_sums_from : Stmt := topS 81
abbrev s_mean_of : Stmt := topS 82
abbrev s_need_endless : Stmt := topS 84
abbrev s_pair_graph : Stmt := topS 85
abbrev s_need_lead : Stmt := topS 86
abbrev s_greatest_lead : Stmt := topS 87
abbrev s_law_keys : Stmt := topS 91
abbrev s_law_draw : Stmt := topS 89
abbrev s_law_pick : Stmt := topS 90
abbrev s_law_ranks : Stmt := topS 97
abbrev s_law_rule : Stmt := topS 98
abbrev s_law_deed : Stmt := topS 99
abbrev s_law_load : Stmt := topS 100
abbrev s_law_row : Stmt := topS 102
abbrev s_law_endless_load : Stmt := topS 103
abbrev s_law : Stmt := topS 104
/-- what the text's top gives -/
structure Txt (K : PySem.W.Frag) (mg : Str → Option Value) : Prop where
  bi : Bi K mg
  is_number : Defd K mg "is_number" s_is_number
  keys_of : Defd K mg "keys_of" s_keys_of
  size_of : Defd K mg "size_of" s_size_of
  height_of : Defd K mg "height_of" s_height_of
  way_to : Defd K mg "way_to" s_way_to
  left_up : Defd K mg "left_up" s_left_up
  right_up : Defd K mg "right_up" s_right_up
  turned : Defd K mg "turned" s_turned
  with_leaf : Defd K mg "with_leaf" s_with_leaf
  least : Defd K mg "least" s_least
  greatest : Defd K mg "greatest" s_greatest
  without : Defd K mg "without" s_without
  once_up : Defd K mg "once_up" s_once_up
  to_top : Defd K mg "to_top" s_to_top
  way_down : Defd K mg "way_down" s_way_down
  splayed : Defd K mg "splayed" s_splayed
  without_splayed : Defd K mg "without_splayed" s_without_splayed
  weight_of : Defd K mg "weight_of" s_weight_of
  is_greater : Defd K mg "is_greater" s_is_greater
  is_inner : Defd K mg "is_inner" s_is_inner
  set_right : Defd K mg "set_right" s_set_right
  put_right : Defd K mg "put_right" s_put_right
  take_right : Defd K mg "take_right" s_take_right
  is_even : Defd K mg "is_even" s_is_even
  built : Defd K mg "built" s_built
  rebuilt : Defd K mg "rebuilt" s_rebuilt
  put_rebuilt : Defd K mg "put_rebuilt" s_put_rebuilt
  take_rebuilt : Defd K mg "take_rebuilt" s_take_rebuilt
  rank_of : Defd K mg "rank_of" s_rank_of
  ranked : Defd K mg "ranked" s_ranked
  bare : Defd K mg "bare" s_bare
  skew : Defd K mg "skew" s_skew
  split : Defd K mg "split" s_split
  put_in : Defd K mg "put_in" s_put_in
  with_right : Defd K mg "with_right" s_with_right
  set_back : Defd K mg "set_back" s_set_back
  take_out : Defd K mg "take_out" s_take_out
  is_rule : Defd K mg "is_rule" s_is_rule
  need_rule : Defd K mg "need_rule" s_need_rule
  by_order : Defd K mg "by_order" s_by_order
  moved : Defd K mg "moved" s_moved
  with_key : Defd K mg "with_key" s_with_key
  without_key : Defd K mg "without_key" s_without_key
  behind : Defd K mg "behind" s_behind
  cost_of : Defd K mg "cost_of" s_cost_of
  is_deed : Defd K mg "is_deed" s_is_deed
  is_load : Defd K mg "is_load" s_is_load
  need_load : Defd K mg "need_load" s_need_load
  keys_along : Defd K mg "keys_along" s_keys_along
  is_row : Defd K mg "is_row" s_is_row
  need_row : Defd K mg "need_row" s_need_row
  is_row_of : Defd K mg "is_row_of" s_is_row_of
  is_of : Defd K mg "is_of" s_is_of
  run : Defd K mg "run" s_run
  need_run : Defd K mg "need_run" s_need_run
  shapes_along : Defd K mg "shapes_along" s_shapes_along
  costs_along : Defd K mg "costs_along" s_costs_along
  deeds_at : Defd K mg "deeds_at" s_deeds_at
  parted : Defd K mg "parted" s_parted
  need_two : Defd K mg "need_two" s_need_two
  parting_row : Defd K mg "parting_row" s_parting_row
  costing_row : Defd K mg "costing_row" s_costing_row
  lowest : Defd K mg "lowest" s_lowest
  sums_from : Defd K mg "sums_from" s_sums_from
  mean_of : Defd K mg "mean_of" s_mean_of
  need_endless : Defd K mg "need_endless" s_need_endless
  pair_graph : Defd K mg "pair_graph" s_pair_graph
  need_lead : Defd K mg "need_lead" s_need_lead
  greatest_lead : Defd K mg "greatest_lead" s_greatest_lead
  law_keys : Defd K mg "_law_keys" s_law_keys
  law_draw : Defd K mg "_law_draw" s_law_draw
  law_pick : Defd K mg "_law_pick" s_law_pick
  law_ranks : Defd K mg "_law_ranks" s_law_ranks
  law_rule : Defd K mg "_law_rule" s_law_rule
  law_deed : Defd K mg "_law_deed" s_law_deed
  law_load : Defd K mg "_law_load" s_law_load
  law_row : Defd K mg "_law_row" s_law_row
  law_endless_load : Defd K mg "_law_endless_load" s_law_endless_load
  law : Defd K mg "law" s_law
section
variable {P : Program} {w : World} {K : PySem.W.Frag} {mg : Str → Option Value} {base : Heap}
/-! ### is_number -/
abbrev N_is_number : List Str := ["value", "least", "most"]
theorem sc_is_number : FnScope N_is_number ["value", "least", "most"] (defScope s_is_number) := ⟨rfl, rfl, rfl, by decide +kernel, rfl, by decide +kernel, by decide +kernel⟩
def B_is_number : FS :=
  (sRet (fAnd (o1 (gIsi "int") (fVar 0)) (fAnd (o1 dNot (o1 (gIsi "bool") (fVar 0))) (fChain dLe dLe (fVar 1) (fVar 0) (fVar 2)))))
def F_is_number : List PyData → Option PyData := runF 3 B_is_number
theorem ok_is_number (T : Txt K mg) : Ok P w K mg base "is_number" ["value", "least", "most"] 1 3 F_is_number :=
  ok_mk (k := 0) T.is_number sc_is_number rfl (fun _ _ _ _ _ _ us hl => match us, hl with | [_, _, _], _ => rfl) (fun _ _ h => h) fun fa cdv A outer s H He Oa hr =>
      (show PBV _ He Oa (defBody s_is_number) B_is_number from (pbv_one (psv_ret (pv_and (pv_isi (T := "int") (pv_name 0 (pv 0)) rfl T.bi.isinstance (by decide +kernel) rfl T.bi.int (by decide +kernel)) (pv_and (pv_not (pv_isi (T := "bool") (pv_name 0 (pv 0)) rfl T.bi.isinstance (by decide +kernel) rfl T.bi.bool (by decide +kernel))) (pv_one (pv_chain op_le op_le g_le g_le (pv_name 1 (pv 1)) (pv_name 0 (pv 0)) (pv_name 2 (pv 2)))))))))
/-! ### keys_of -/
abbrev N_keys_of : List Str := ["shape"]
theorem sc_keys_of : FnScope N_keys_of ["shape"] (defScope s_keys_of) := ⟨rfl, rfl, rfl, by decide +kernel, rfl, by decide +kernel, by decide +kernel⟩
def B_keys_of (self : List PyData → Option PyData) : FS :=
  (sRet (fIf (o2 dNeE (fVar 0) (fTup a0)) (o2 dAdd (o2 dAdd (oA self (ac (o2 dIdx (fVar 0) (fC (.int 0))) a0)) (fLst (ac (o2 dIdx (fVar 0) (fC (.int 1))) a0))) (oA self (ac (o2 dIdx (fVar 0) (fC (.int 2))) a0))) (fLst a0)))
def F_keys_of : Nat → List PyData → Option PyData
  | 0 => fun _ => none
  | k + 1 => runF 1 (B_keys_of (F_keys_of k))
theorem ok_keys_of (T : Txt K mg) : ∀ j : Nat, Ok P w K mg base "keys_of" ["shape"] (0 + j) 1 (F_keys_of j) := by
  intro j
  induction j with
  | zero => exact ok_zero T.keys_of rfl (fun _ _ _ _ _ _ us hl => match us, hl with | [_], _ => rfl) fun _ => rfl
  | succ j ih =>
    exact ok_mk (k := 0 + j) T.keys_of sc_keys_of rfl (fun _ _ _ _ _ _ us hl => match us, hl with | [_], _ => rfl) (fun _ _ h => h) fun fa cdv A outer s H He Oa hr =>
      (show PBV _ He Oa (defBody s_keys_of) (B_keys_of (F_keys_of j)) from (pbv_one (psv_ret (pv_ifExp (pvt_cmp (op_neR hr.units) g_neE (pv_name 0 (pv 0)) (pv_tup pva_nil .nil) (nomark _)) (pv_add (pv_add (pv_callO ih hr (by omega) rfl (pva_cons (pv_ix (pv_name 0 (pv 0)) pv_int) pva_nil) (.cons .nil)) (pv_lst (pva_cons (pv_ix (pv_name 0 (pv 0)) pv_int) pva_nil) (.cons .nil))) (pv_callO ih hr (by omega) rfl (pva_cons (pv_ix (pv_name 0 (pv 0)) pv_int) pva_nil) (.cons .nil))) (pv_lst pva_nil .nil)))))
/-! ### size_of -/
abbrev N_size_of : List Str := ["shape"]
theorem sc_size_of : FnScope N_size_of ["shape"] (defScope s_size_of) := ⟨rfl, rfl, rfl, by decide +kernel, rfl, by decide +kernel, by decide +kernel⟩
def B_size_of (self : List PyData → Option PyData) : FS :=
  (sRet (fIf (o2 dNeE (fVar 0) (fTup a0)) (o2 dAdd (o2 dAdd (oA self (ac (o2 dIdx (fVar 0) (fC (.int 0))) a0)) (fC (.int 1))) (oA self (ac (o2 dIdx (fVar 0) (fC (.int 2))) a0))) (fC (.int 0))))
def F_size_of : Nat → List PyData → Option PyData
  | 0 => fun _ => none
  | k + 1 => runF 1 (B_size_of (F_size_of k))
theorem ok_size_of (T : Txt K mg) : ∀ j : Nat, Ok P w K mg base "size_of" ["shape"] (0 + j) 1 (F_size_of j) := by
  intro j
  induction j with
  | zero => exact ok_zero T.size_of rfl (fun _ _ _ _ _ _ us hl => match us, hl with | [_], _ => rfl) fun _ => rfl
  | succ j ih =>
    exact ok_mk (k := 0 + j) T.size_of sc_size_of rfl (fun _ _ _ _ _ _ us hl => match us, hl with | [_], _ => rfl) (fun _ _ h => h) fun fa cdv A outer s H He Oa hr =>
      (show PBV _ He Oa (defBody s_size_of) (B_size_of (F_size_of j)) from (pbv_one (psv_ret (pv_ifExp (pvt_cmp (op_neR hr.units) g_neE (pv_name 0 (pv 0)) (pv_tup pva_nil .nil) (nomark _)) (pv_add (pv_add (pv_callO ih hr (by omega) rfl (pva_cons (pv_ix (pv_name 0 (pv 0)) pv_int) pva_nil) (.cons .nil)) pv_int) (pv_callO ih hr (by omega) rfl (pva_cons (pv_ix (pv_name 0 (pv 0)) pv_int) pva_nil) (.cons .nil))) pv_int))))
/-! ### height_of -/
abbrev N_height_of : List Str := ["shape"]
theorem sc_height_of : FnScope N_height_of ["shape"] (defScope s_height_of) := ⟨rfl, rfl, rfl, by decide +kernel, rfl, by decide +kernel, by decide +kernel⟩
def B_height_of (self : List PyData → Option PyData) : FS :=
  (sRet (fIf (o2 dNeE (fVar 0) (fTup a0)) (o2 dAdd (fC (.int 1)) (oA gMax (ac (oA self (ac (o2 dIdx (fVar 0) (fC (.int 0))) a0)) (ac (oA self (ac (o2 dIdx (fVar 0) (fC (.int 2))) a0)) a0)))) (fC (.int 0))))
def F_height_of : Nat → List PyData → Option PyData
  | 0 => fun _ => none
  | k + 1 => runF 1 (B_height_of (F_height_of k))
theorem ok_height_of (T : Txt K mg) : ∀ j : Nat, Ok P w K mg base "height_of" ["shape"] (0 + j) 1 (F_height_of j) := by
  intro j
  induction j with
  | zero => exact ok_zero T.height_of rfl (fun _ _ _ _ _ _ us hl => match us, hl with | [_], _ => rfl) fun _ => rfl
  | succ j ih =>
    exact ok_mk (k := 0 + j) T.height_of sc_height_of rfl (fun _ _ _ _ _ _ us hl => match us, hl with | [_], _ => rfl) (fun _ _ h => h) fun fa cdv A outer s H He Oa hr =>
      (show PBV _ He Oa (defBody s_height_of) (B_height_of (F_height_of j)) from (pbv_one (psv_ret (pv_ifExp (pvt_cmp (op_neR hr.units) g_neE (pv_name 0 (pv 0)) (pv_tup pva_nil .nil) (nomark _)) (pv_add pv_int (pv_bi (call_max2 rfl) gv_max rfl T.bi.max (by decide +kernel) (pva_cons (pv_callO ih hr (by omega) rfl (pva_cons (pv_ix (pv_name 0 (pv 0)) pv_int) pva_nil) (.cons .nil)) (pva_cons (pv_callO ih hr (by omega) rfl (pva_cons (pv_ix (pv_name 0 (pv 0)) pv_int) pva_nil) (.cons .nil)) pva_nil)))) pv_int))))
/-! ### way_to -/
abbrev N_way_to : List Str := ["shape", "key"]
theorem sc_way_to : FnScope N_way_to ["shape", "key"] (defScope s_way_to) := ⟨rfl, rfl, rfl, by decide +kernel, rfl, by decide +kernel, by decide +kernel⟩
def B_way_to (self : List PyData → Option PyData) : FS :=
  (sSeq (sIf (fOr (o2 dEqE (fVar 0) (fTup a0)) (o2 dEq (o2 dIdx (fVar 0) (fC (.int 1))) (fVar 1))) (sRet (fC (.int 0))) sNext)
  (sRet (o2 dAdd (fC (.int 1)) (oA self (ac (fIf (o2 dLt (fVar 1) (o2 dIdx (fVar 0) (fC (.int 1)))) (o2 dIdx (fVar 0) (fC (.int 0))) (o2 dIdx (fVar 0) (fC (.int 2)))) (ac (fVar 1) a0))))))
def F_way_to : Nat → List PyData → Option PyData
  | 0 => fun _ => none
  | k + 1 => runF 2 (B_way_to (F_way_to k))
theorem ok_way_to (T : Txt K mg) : ∀ j : Nat, Ok P w K mg base "way_to" ["shape", "key"] (0 + j) 2 (F_way_to j) := by
  intro j
  induction j with
  | zero => exact ok_zero T.way_to rfl (fun _ _ _ _ _ _ us hl => match us, hl with | [_, _], _ => rfl) fun _ => rfl
  | succ j ih =>
    exact ok_mk (k := 0 + j) T.way_to sc_way_to rfl (fun _ _ _ _ _ _ us hl => match us, hl with | [_, _], _ => rfl) (fun _ _ h => h) fun fa cdv A outer s H He Oa hr =>
      (show PBV _ He Oa (defBody s_way_to) (B_way_to (F_way_to j)) from (pbv_cons (psv_if (PW.pt (pvw_or (pvt_cmp (op_eqR hr.units) g_eqE (pv_name 0 (pv 0)) (pv_tup pva_nil .nil) (nomark _)) (pvw_one_or (pvt_cmp op_eq g_eq (pv_ix (pv_name 0 (pv 0)) pv_int) (pv_name 1 (pv 1)) (nomark _))))) (pbv_one (psv_ret pv_int)) pbv_nil)
      (pbv_one (psv_ret (pv_add pv_int (pv_callO ih hr (by omega) rfl (pva_cons (pv_ifExp (pvt_cmp op_lt g_lt (pv_name 1 (pv 1)) (pv_ix (pv_name 0 (pv 0)) pv_int) (nomark _)) (pv_ix (pv_name 0 (pv 0)) pv_int) (pv_ix (pv_name 0 (pv 0)) pv_int)) (pva_cons (pv_name 1 (pv 1)) pva_nil)) (.cons (.cons .nil))))))))
/-! ### left_up -/
abbrev N_left_up : List Str := ["part", "left", "top", "right"]
theorem sc_left_up : FnScope N_left_up ["part"] (defScope s_left_up) := ⟨rfl, rfl, rfl, by decide +kernel, rfl, by decide +kernel, by decide +kernel⟩
def B_left_up : FS :=
  (sSeq (sAsg (gT (gsC (gN 1) (gsC (gN 2) (gsC (gN 3) gs0)))) (fVar 0))
  (sRet (fTup (ac (o2 dIdx (fVar 1) (fC (.int 0))) (ac (o2 dIdx (fVar 1) (fC (.int 1))) (ac (fTup (ac (o2 dIdx (fVar 1) (fC (.int 2))) (ac (fVar 2) (ac (fVar 3) a0)))) a0))))))
def F_left_up : List PyData → Option PyData := runF 4 B_left_up
theorem ok_left_up (T : Txt K mg) : Ok P w K mg base "left_up" ["part"] 1 1 F_left_up :=
  ok_mk (k := 0) T.left_up sc_left_up rfl (fun _ _ _ _ _ _ us hl => match us, hl with | [_], _ => rfl) (fun _ _ h => h) fun fa cdv A outer s H He Oa hr =>
      (show PBV _ He Oa (defBody s_left_up) B_left_up from (pbv_cons (psv_asg (pv_name 0 (pv 0)) (pgv_tup rfl (pgvs_cons (pgv_name (pg_name (i := 1) sc_left_up.nd rfl (.inl rfl))) (pgvs_cons (pgv_name (pg_name (i := 2) sc_left_up.nd rfl (.inl rfl))) (pgvs_cons (pgv_name (pg_name (i := 3) sc_left_up.nd rfl (.inl rfl))) pgvs_nil))) (gsC_len (gsC_len (gsC_len gs0_len)))))
      (pbv_one (psv_ret (pv_tup (pva_cons (pv_ix (pv_name 1 (pv 1)) pv_int) (pva_cons (pv_ix (pv_name 1 (pv 1)) pv_int) (pva_cons (pv_tup (pva_cons (pv_ix (pv_name 1 (pv 1)) pv_int) (pva_cons (pv_name 2 (pv 2)) (pva_cons (pv_name 3 (pv 3)) pva_nil))) (.cons (.cons (.cons .nil)))) pva_nil))) (.cons (.cons (.cons .nil))))))))
/-! ### right_up -/
abbrev N_right_up : List Str := ["part", "left", "top", "right"]
theorem sc_right_up : FnScope N_right_up ["part"] (defScope s_right_up) := ⟨rfl, rfl, rfl, by decide +kernel, rfl, by decide +kernel, by decide +kernel⟩
def B_right_up : FS :=
  (sSeq (sAsg (gT (gsC (gN 1) (gsC (gN 2) (gsC (gN 3) gs0)))) (fVar 0))
  (sRet (fTup (ac (fTup (ac (fVar 1) (ac (fVar 2) (ac (o2 dIdx (fVar 3) (fC (.int 0))) a0)))) (ac (o2 dIdx (fVar 3) (fC (.int 1))) (ac (o2 dIdx (fVar 3) (fC (.int 2))) a0))))))
def F_right_up : List PyData → Option PyData := runF 4 B_right_up
theorem ok_right_up (T : Txt K mg) : Ok P w K mg base "right_up" ["part"] 1 1 F_right_up :=
  ok_mk (k := 0) T.right_up sc_right_up rfl (fun _ _ _ _ _ _ us hl => match us, hl with | [_], _ => rfl) (fun _ _ h => h) fun fa cdv A outer s H He Oa hr =>
      (show PBV _ He Oa (defBody s_right_up) B_right_up from (pbv_cons (psv_asg (pv_name 0 (pv 0)) (pgv_tup rfl (pgvs_cons (pgv_name (pg_name (i := 1) sc_right_up.nd rfl (.inl rfl))) (pgvs_cons (pgv_name (pg_name (i := 2) sc_right_up.nd rfl (.inl rfl))) (pgvs_cons (pgv_name (pg_name (i := 3) sc_right_up.nd rfl (.inl rfl))) pgvs_nil))) (gsC_len (gsC_len (gsC_len gs0_len)))))
      (pbv_one (psv_ret (pv_tup (pva_cons (pv_tup (pva_cons (pv_name 1 (pv 1)) (pva_cons (pv_name 2 (pv 2)) (pva_cons (pv_ix (pv_name 3 (pv 3)) pv_int) pva_nil))) (.cons (.cons (.cons .nil)))) (pva_cons (pv_ix (pv_name 3 (pv 3)) pv_int) (pva_cons (pv_ix (pv_name 3 (pv 3)) pv_int) pva_nil))) (.cons (.cons (.cons .nil))))))))
/-! ### turned -/
abbrev N_turned : List Str := ["shape", "key", "left", "top", "right"]
theorem sc_turned : FnScope N_turned ["shape", "key"] (defScope s_turned) := ⟨rfl, rfl, rfl, by decide +kernel, rfl, by decide +kernel, by decide +kernel⟩
def B_turned (self : List PyData → Option PyData) : FS :=
  (sSeq (sAsg (gT (gsC (gN 2) (gsC (gN 3) (gsC (gN 4) gs0)))) (fVar 0))
  (sSeq (sIf (o2 dLt (fVar 1) (fVar 3)) (sRet (fIf (o2 dEq (o2 dIdx (fVar 2) (fC (.int 1))) (fVar 1)) (oA F_left_up (ac (fVar 0) a0)) (fTup (ac (oA self (ac (fVar 2) (ac (fVar 1) a0))) (ac (fVar 3) (ac (fVar 4) a0)))))) sNext)
  (sRet (fIf (o2 dEq (o2 dIdx (fVar 4) (fC (.int 1))) (fVar 1)) (oA F_right_up (ac (fVar 0) a0)) (fTup (ac (fVar 2) (ac (fVar 3) (ac (oA self (ac (fVar 4) (ac (fVar 1) a0))) a0))))))))
def F_turned : Nat → List PyData → Option PyData
  | 0 => fun _ => none
  | k + 1 => runF 5 (B_turned (F_turned k))
theorem ok_turned (T : Txt K mg) : ∀ j : Nat, Ok P w K mg base "turned" ["shape", "key"] (1 + j) 2 (F_turned j) := by
  intro j
  induction j with
  | zero => exact ok_zero T.turned rfl (fun _ _ _ _ _ _ us hl => match us, hl with | [_, _], _ => rfl) fun _ => rfl
  | succ j ih =>
    exact ok_mk (k := 1 + j) T.turned sc_turned rfl (fun _ _ _ _ _ _ us hl => match us, hl with | [_, _], _ => rfl) (fun _ _ h => h) fun fa cdv A outer s H He Oa hr =>
      (show PBV _ He Oa (defBody s_turned) (B_turned (F_turned j)) from (pbv_cons (psv_asg (pv_name 0 (pv 0)) (pgv_tup rfl (pgvs_cons (pgv_name (pg_name (i := 2) sc_turned.nd rfl (.inl rfl))) (pgvs_cons (pgv_name (pg_name (i := 3) sc_turned.nd rfl (.inl rfl))) (pgvs_cons (pgv_name (pg_name (i := 4) sc_turned.nd rfl (.inl rfl))) pgvs_nil))) (gsC_len (gsC_len (gsC_len gs0_len)))))
      (pbv_cons (psv_if (pvt_cmp op_lt g_lt (pv_name 1 (pv 1)) (pv_name 3 (pv 3)) (nomark _)) (pbv_one (psv_ret (pv_ifExp (pvt_cmp op_eq g_eq (pv_ix (pv_name 2 (pv 2)) pv_int) (pv_name 1 (pv 1)) (nomark _)) (pv_callO (ok_left_up T) hr (by omega) rfl (pva_cons (pv_name 0 (pv 0)) pva_nil) (.cons .nil)) (pv_tup (pva_cons (pv_callO ih hr (by omega) rfl (pva_cons (pv_name 2 (pv 2)) (pva_cons (pv_name 1 (pv 1)) pva_nil)) (.cons (.cons .nil))) (pva_cons (pv_name 3 (pv 3)) (pva_cons (pv_name 4 (pv 4)) pva_nil))) (.cons (.cons (.cons .nil))))))) pbv_nil)
      (pbv_one (psv_ret (pv_ifExp (pvt_cmp op_eq g_eq (pv_ix (pv_name 4 (pv 4)) pv_int) (pv_name 1 (pv 1)) (nomark _)) (pv_callO (ok_right_up T) hr (by omega) rfl (pva_cons (pv_name 0 (pv 0)) pva_nil) (.cons .nil)) (pv_tup (pva_cons (pv_name 2 (pv 2)) (pva_cons (pv_name 3 (pv 3)) (pva_cons (pv_callO ih hr (by omega) rfl (pva_cons (pv_name 4 (pv 4)) (pva_cons (pv_name 1 (pv 1)) pva_nil)) (.cons (.cons .nil))) pva_nil))) (.cons (.cons (.cons .nil))))))))))
/-! ### with_leaf -/
abbrev N_with_leaf : List Str := ["shape", "key", "left", "top", "right"]
theorem sc_with_leaf : FnScope N_with_leaf ["shape", "key"] (defScope s_with_leaf) := ⟨rfl, rfl, rfl, by decide +kernel, rfl, by decide +kernel, by decide +kernel⟩
def B_with_leaf (self : List PyData → Option PyData) : FS :=
  (sSeq (sIf (o2 dEqE (fVar 0) (fTup a0)) (sRet (fTup (ac (fTup a0) (ac (fVar 1) (ac (fTup a0) a0))))) sNext)
  (sSeq (sAsg (gT (gsC (gN 2) (gsC (gN 3) (gsC (gN 4) gs0)))) (fVar 0))
  (sRet (fIf (o2 dLt (fVar 1) (fVar 3)) (fTup (ac (oA self (ac (fVar 2) (ac (fVar 1) a0))) (ac (fVar 3) (ac (fVar 4) a0)))) (fTup (ac (fVar 2) (ac (fVar 3) (ac (oA self (ac (fVar 4) (ac (fVar 1) a0))) a0))))))))
def F_with_leaf : Nat → List PyData → Option PyData
  | 0 => fun _ => none
  | k + 1 => runF 5 (B_with_leaf (F_with_leaf k))
theorem ok_with_leaf (T : Txt K mg) : ∀ j : Nat, Ok P w K mg base "with_leaf" ["shape", "key"] (0 + j) 2 (F_with_leaf j) := by
  intro j
  induction j with
  | zero => exact ok_zero T.with_leaf rfl (fun _ _ _ _ _ _ us hl => match us, hl with | [_, _], _ => rfl) fun _ => rfl
  | succ j ih =>
    exact ok_mk (k := 0 + j) T.with_leaf sc_with_leaf rfl (fun _ _ _ _ _ _ us hl => match us, hl with | [_, _], _ => rfl) (fun _ _ h => h) fun fa cdv A outer s H He Oa hr =>
      (show PBV _ He Oa (defBody s_with_leaf) (B_with_leaf (F_with_leaf j)) from (pbv_cons (psv_if (pvt_cmp (op_eqR hr.units) g_eqE (pv_name 0 (pv 0)) (pv_tup pva_nil .nil) (nomark _)) (pbv_one (psv_ret (pv_tup (pva_cons (pv_tup pva_nil .nil) (pva_cons (pv_name 1 (pv 1)) (pva_cons (pv_tup pva_nil .nil) pva_nil))) (.cons (.cons (.cons .nil)))))) pbv_nil)
      (pbv_cons (psv_asg (pv_name 0 (pv 0)) (pgv_tup rfl (pgvs_cons (pgv_name (pg_name (i := 2) sc_with_leaf.nd rfl (.inl rfl))) (pgvs_cons (pgv_name (pg_name (i := 3) sc_with_leaf.nd rfl (.inl rfl))) (pgvs_cons (pgv_name (pg_name (i := 4) sc_with_leaf.nd rfl (.inl rfl))) pgvs_nil))) (gsC_len (gsC_len (gsC_len gs0_len)))))
      (pbv_one (psv_ret (pv_ifExp (pvt_cmp op_lt g_lt (pv_name 1 (pv 1)) (pv_name 3 (pv 3)) (nomark _)) (pv_tup (pva_cons (pv_callO ih hr (by omega) rfl (pva_cons (pv_name 2 (pv 2)) (pva_cons (pv_name 1 (pv 1)) pva_nil)) (.cons (.cons .nil))) (pva_cons (pv_name 3 (pv 3)) (pva_cons (pv_name 4 (pv 4)) pva_nil))) (.cons (.cons (.cons .nil)))) (pv_tup (pva_cons (pv_name 2 (pv 2)) (pva_cons (pv_name 3 (pv 3)) (pva_cons (pv_callO ih hr (by omega) rfl (pva_cons (pv_name 4 (pv 4)) (pva_cons (pv_name 1 (pv 1)) pva_nil)) (.cons (.cons .nil))) pva_nil))) (.cons (.cons (.cons .nil))))))))))
/-! ### least -/
abbrev N_least : List Str := ["shape"]
theorem sc_least : FnScope N_least ["shape"] (defScope s_least) := ⟨rfl, rfl, rfl, by decide +kernel, rfl, by decide +kernel, by decide +kernel⟩
def B_least (self : List PyData → Option PyData) : FS :=
  (sRet (fIf (o2 dEqE (o2 dIdx (fVar 0) (fC (.int 0))) (fTup a0)) (o2 dIdx (fVar 0) (fC (.int 1))) (oA self (ac (o2 dIdx (fVar 0) (fC (.int 0))) a0))))
def F_least : Nat → List PyData → Option PyData
  | 0 => fun _ => none
  | k + 1 => runF 1 (B_least (F_least k))
theorem ok_least (T : Txt K mg) : ∀ j : Nat, Ok P w K mg base "least" ["shape"] (0 + j) 1 (F_least j) := by
  intro j
  induction j with
  | zero => exact ok_zero T.least rfl (fun _ _ _ _ _ _ us hl => match us, hl with | [_], _ => rfl) fun _ => rfl
  | succ j ih =>
    exact ok_mk (k := 0 + j) T.least sc_least rfl (fun _ _ _ _ _ _ us hl => match us, hl with | [_], _ => rfl) (fun _ _ h => h) fun fa cdv A outer s H He Oa hr =>
      (show PBV _ He Oa (defBody s_least) (B_least (F_least j)) from (pbv_one (psv_ret (pv_ifExp (pvt_cmp (op_eqR hr.units) g_eqE (pv_ix (pv_name 0 (pv 0)) pv_int) (pv_tup pva_nil .nil) (nomark _)) (pv_ix (pv_name 0 (pv 0)) pv_int) (pv_callO ih hr (by omega) rfl (pva_cons (pv_ix (pv_name 0 (pv 0)) pv_int) pva_nil) (.cons .nil))))))
/-! ### greatest -/
abbrev N_greatest : List Str := ["shape"]
theorem sc_greatest : FnScope N_greatest ["shape"] (defScope s_greatest) := ⟨rfl, rfl, rfl, by decide +kernel, rfl, by decide +kernel, by decide +kernel⟩
def B_greatest (self : List PyData → Option PyData) : FS :=
  (sRet (fIf (o2 dEqE (o2 dIdx (fVar 0) (fC (.int 2))) (fTup a0)) (o2 dIdx (fVar 0) (fC (.int 1))) (oA self (ac (o2 dIdx (fVar 0) (fC (.int 2))) a0))))
def F_greatest : Nat → List PyData → Option PyData
  | 0 => fun _ => none
  | k + 1 => runF 1 (B_greatest (F_greatest k))
theorem ok_greatest (T : Txt K mg) : ∀ j : Nat, Ok P w K mg base "greatest" ["shape"] (0 + j) 1 (F_greatest j) := by
  intro j
  induction j with
  | zero => exact ok_zero T.greatest rfl (fun _ _ _ _ _ _ us hl => match us, hl with | [_], _ => rfl) fun _ => rfl
  | succ j ih =>
    exact ok_mk (k := 0 + j) T.greatest sc_greatest rfl (fun _ _ _ _ _ _ us hl => match us, hl with | [_], _ => rfl) (fun _ _ h => h) fun fa cdv A outer s H He Oa hr =>
      (show PBV _ He Oa (defBody s_greatest) (B_greatest (F_greatest j)) from (pbv_one (psv_ret (pv_ifExp (pvt_cmp (op_eqR hr.units) g_eqE (pv_ix (pv_name 0 (pv 0)) pv_int) (pv_tup pva_nil .nil) (nomark _)) (pv_ix (pv_name 0 (pv 0)) pv_int) (pv_callO ih hr (by omega) rfl (pva_cons (pv_ix (pv_name 0 (pv 0)) pv_int) pva_nil) (.cons .nil))))))
/-! ### without -/
abbrev N_without : List Str := ["shape", "key", "left", "top", "right", "new"]
theorem sc_without : FnScope N_without ["shape", "key"] (defScope s_without) := ⟨rfl, rfl, rfl, by decide +kernel, rfl, by decide +kernel, by decide +kernel⟩
def B_without (self : List PyData → Option PyData) : FS :=
  (sSeq (sAsg (gT (gsC (gN 2) (gsC (gN 3) (gsC (gN 4) gs0)))) (fVar 0))
  (sSeq (sIf (o2 dLt (fVar 1) (fVar 3)) (sRet (fTup (ac (oA self (ac (fVar 2) (ac (fVar 1) a0))) (ac (fVar 3) (ac (fVar 4) a0))))) sNext)
  (sSeq (sIf (o2 dGt (fVar 1) (fVar 3)) (sRet (fTup (ac (fVar 2) (ac (fVar 3) (ac (oA self (ac (fVar 4) (ac (fVar 1) a0))) a0))))) sNext)
  (sSeq (sIf (fOr (o2 dEqE (fVar 2) (fTup a0)) (o2 dEqE (fVar 4) (fTup a0))) (sRet (fIf (o2 dEqE (fVar 4) (fTup a0)) (fVar 2) (fVar 4))) sNext)
  (sSeq (sSet 5 (oA (F_least 8) (ac (fVar 4) a0)))
  (sRet (fTup (ac (fVar 2) (ac (fVar 5) (ac (oA self (ac (fVar 4) (ac (fVar 5) a0))) a0))))))))))
def F_without : Nat → List PyData → Option PyData
  | 0 => fun _ => none
  | k + 1 => runF 6 (B_without (F_without k))
theorem ok_without (T : Txt K mg) : ∀ j : Nat, Ok P w K mg base "without" ["shape", "key"] (8 + j) 2 (F_without j) := by
  intro j
  induction j with
  | zero => exact ok_zero T.without rfl (fun _ _ _ _ _ _ us hl => match us, hl with | [_, _], _ => rfl) fun _ => rfl
  | succ j ih =>
    exact ok_mk (k := 8 + j) T.without sc_without rfl (fun _ _ _ _ _ _ us hl => match us, hl with | [_, _], _ => rfl) (fun _ _ h => h) fun fa cdv A outer s H He Oa hr =>
      (show PBV _ He Oa (defBody s_without) (B_without (F_without j)) from (pbv_cons (psv_asg (pv_name 0 (pv 0)) (pgv_tup rfl (pgvs_cons (pgv_name (pg_name (i := 2) sc_without.nd rfl (.inl rfl))) (pgvs_cons (pgv_name (pg_name (i := 3) sc_without.nd rfl (.inl rfl))) (pgvs_cons (pgv_name (pg_name (i := 4) sc_without.nd rfl (.inl rfl))) pgvs_nil))) (gsC_len (gsC_len (gsC_len gs0_len)))))
      (pbv_cons (psv_if (pvt_cmp op_lt g_lt (pv_name 1 (pv 1)) (pv_name 3 (pv 3)) (nomark _)) (pbv_one (psv_ret (pv_tup (pva_cons (pv_callO ih hr (by omega) rfl (pva_cons (pv_name 2 (pv 2)) (pva_cons (pv_name 1 (pv 1)) pva_nil)) (.cons (.cons .nil))) (pva_cons (pv_name 3 (pv 3)) (pva_cons (pv_name 4 (pv 4)) pva_nil))) (.cons (.cons (.cons .nil)))))) pbv_nil)
      (pbv_cons (psv_if (pvt_cmp op_gt g_gt (pv_name 1 (pv 1)) (pv_name 3 (pv 3)) (nomark _)) (pbv_one (psv_ret (pv_tup (pva_cons (pv_name 2 (pv 2)) (pva_cons (pv_name 3 (pv 3)) (pva_cons (pv_callO ih hr (by omega) rfl (pva_cons (pv_name 4 (pv 4)) (pva_cons (pv_name 1 (pv 1)) pva_nil)) (.cons (.cons .nil))) pva_nil))) (.cons (.cons (.cons .nil)))))) pbv_nil)
      (pbv_cons (psv_if (PW.pt (pvw_or (pvt_cmp (op_eqR hr.units) g_eqE (pv_name 2 (pv 2)) (pv_tup pva_nil .nil) (nomark _)) (pvw_one_or (pvt_cmp (op_eqR hr.units) g_eqE (pv_name 4 (pv 4)) (pv_tup pva_nil .nil) (nomark _))))) (pbv_one (psv_ret (pv_ifExp (pvt_cmp (op_eqR hr.units) g_eqE (pv_name 4 (pv 4)) (pv_tup pva_nil .nil) (nomark _)) (pv_name 2 (pv 2)) (pv_name 4 (pv 4))))) pbv_nil)
      (pbv_cons (psv_set (i := 5) (pv_callO (ok_least T 8) hr (by omega) rfl (pva_cons (pv_name 4 (pv 4)) pva_nil) (.cons .nil)) sc_without.nd rfl (.inl rfl))
      (pbv_one (psv_ret (pv_tup (pva_cons (pv_name 2 (pv 2)) (pva_cons (pv_name 5 (pv 5)) (pva_cons (pv_callO ih hr (by omega) rfl (pva_cons (pv_name 4 (pv 4)) (pva_cons (pv_name 5 (pv 5)) pva_nil)) (.cons (.cons .nil))) pva_nil))) (.cons (.cons (.cons .nil))))))))))))
/-! ### once_up -/
abbrev N_once_up : List Str := ["shape", "key"]
theorem sc_once_up : FnScope N_once_up ["shape", "key"] (defScope s_once_up) := ⟨rfl, rfl, rfl, by decide +kernel, rfl, by decide +kernel, by decide +kernel⟩
def B_once_up : FS :=
  (sRet (fIf (o2 dEq (o2 dIdx (fVar 0) (fC (.int 1))) (fVar 1)) (fVar 0) (oA (F_turned 8) (ac (fVar 0) (ac (fVar 1) a0)))))
def F_once_up : List PyData → Option PyData := runF 2 B_once_up
theorem ok_once_up (T : Txt K mg) : Ok P w K mg base "once_up" ["shape", "key"] 10 2 F_once_up :=
  ok_mk (k := 9) T.once_up sc_once_up rfl (fun _ _ _ _ _ _ us hl => match us, hl with | [_, _], _ => rfl) (fun _ _ h => h) fun fa cdv A outer s H He Oa hr =>
      (show PBV _ He Oa (defBody s_once_up) B_once_up from (pbv_one (psv_ret (pv_ifExp (pvt_cmp op_eq g_eq (pv_ix (pv_name 0 (pv 0)) pv_int) (pv_name 1 (pv 1)) (nomark _)) (pv_name 0 (pv 0)) (pv_callO (ok_turned T 8) hr (by decide) rfl (pva_cons (pv_name 0 (pv 0)) (pva_cons (pv_name 1 (pv 1)) pva_nil)) (.cons (.cons .nil)))))))
/-! ### to_top -/
abbrev N_to_top : List Str := ["shape", "key"]
theorem sc_to_top : FnScope N_to_top ["shape", "key"] (defScope s_to_top) := ⟨rfl, rfl, rfl, by decide +kernel, rfl, by decide +kernel, by decide +kernel⟩
def B_to_top : FS :=
  (sSeq (whileF (o2 dNe (o2 dIdx (fVar 0) (fC (.int 1))) (fVar 1)) (sSet 0 (oA (F_turned 8) (ac (fVar 0) (ac (fVar 1) a0)))) 8)
  (sRet (fVar 0)))
def F_to_top : List PyData → Option PyData := runF 2 B_to_top
theorem ok_to_top (T : Txt K mg) : Ok P w K mg base "to_top" ["shape", "key"] 10 2 F_to_top :=
  ok_mk (k := 9) T.to_top sc_to_top rfl (fun _ _ _ _ _ _ us hl => match us, hl with | [_, _], _ => rfl) (fun _ _ h => h) fun fa cdv A outer s H He Oa hr =>
      (show PBV _ He Oa (defBody s_to_top) B_to_top from (pbv_cons (psv_while 8 PassesOwn.never (pvt_cmp op_ne g_ne (pv_ix (pv_name 0 (pv 0)) pv_int) (pv_name 1 (pv 1)) (nomark _)) (pbv_one (psv_set (i := 0) (pv_callO (ok_turned T 8) hr (by decide) rfl (pva_cons (pv_name 0 (pv 0)) (pva_cons (pv_name 1 (pv 1)) pva_nil)) (.cons (.cons .nil))) sc_to_top.nd rfl (.inl rfl))))
      (pbv_one (psv_ret (pv_name 0 (pv 0))))))
/-! ### way_down -/
abbrev N_way_down : List Str := ["shape", "key"]
theorem sc_way_down : FnScope N_way_down ["shape", "key"] (defScope s_way_down) := ⟨rfl, rfl, rfl, by decide +kernel, rfl, by decide +kernel, by decide +kernel⟩
def B_way_down (self : List PyData → Option PyData) : FS :=
  (sSeq (sIf (o2 dEq (o2 dIdx (fVar 0) (fC (.int 1))) (fVar 1)) (sRet (fLst (ac (fVar 1) a0))) sNext)
  (sRet (o2 dAdd (fLst (ac (o2 dIdx (fVar 0) (fC (.int 1))) a0)) (oA self (ac (fIf (o2 dLt (fVar 1) (o2 dIdx (fVar 0) (fC (.int 1)))) (o2 dIdx (fVar 0) (fC (.int 0))) (o2 dIdx (fVar 0) (fC (.int 2)))) (ac (fVar 1) a0))))))
def F_way_down : Nat → List PyData → Option PyData
  | 0 => fun _ => none
  | k + 1 => runF 2 (B_way_down (F_way_down k))
theorem ok_way_down (T : Txt K mg) : ∀ j : Nat, Ok P w K mg base "way_down" ["shape", "key"] (0 + j) 2 (F_way_down j) := by
  intro j
  induction j with
  | zero => exact ok_zero T.way_down rfl (fun _ _ _ _ _ _ us hl => match us, hl with | [_, _], _ => rfl) fun _ => rfl
  | succ j ih =>
    exact ok_mk (k := 0 + j) T.way_down sc_way_down rfl (fun _ _ _ _ _ _ us hl => match us, hl with | [_, _], _ => rfl) (fun _ _ h => h) fun fa cdv A outer s H He Oa hr =>
      (show PBV _ He Oa (defBody s_way_down) (B_way_down (F_way_down j)) from (pbv_cons (psv_if (pvt_cmp op_eq g_eq (pv_ix (pv_name 0 (pv 0)) pv_int) (pv_name 1 (pv 1)) (nomark _)) (pbv_one (psv_ret (pv_lst (pva_cons (pv_name 1 (pv 1)) pva_nil) (.cons .nil)))) pbv_nil)
      (pbv_one (psv_ret (pv_add (pv_lst (pva_cons (pv_ix (pv_name 0 (pv 0)) pv_int) pva_nil) (.cons .nil)) (pv_callO ih hr (by omega) rfl (pva_cons (pv_ifExp (pvt_cmp op_lt g_lt (pv_name 1 (pv 1)) (pv_ix (pv_name 0 (pv 0)) pv_int) (nomark _)) (pv_ix (pv_name 0 (pv 0)) pv_int) (pv_ix (pv_name 0 (pv 0)) pv_int)) (pva_cons (pv_name 1 (pv 1)) pva_nil)) (.cons (.cons .nil))))))))
/-! ### splayed -/
abbrev N_splayed : List Str := ["shape", "key", "grand", "parent", "first"]
theorem sc_splayed : FnScope N_splayed ["shape", "key"] (defScope s_splayed) := ⟨rfl, rfl, rfl, by decide +kernel, rfl, by decide +kernel, by decide +kernel⟩
def B_splayed : FS :=
  (sSeq (whileF (o2 dGt (oA (F_way_to 8) (ac (fVar 0) (ac (fVar 1) a0))) (fC (.int 1))) (sSeq (sAsg (gL (gsC (gN 2) (gsC (gN 3) gs0))) (fCut (oA (F_way_down 8) (ac (fVar 0) (ac (fVar 1) a0))) (pSome (o1 dNeg (fC (.int 3)))) (pSome (o1 dNeg (fC (.int 1))))))
  (sSeq (sSet 4 (fIf (o2 dEq (o2 dLt (fVar 1) (fVar 3)) (o2 dLt (fVar 3) (fVar 2))) (fVar 3) (fVar 1)))
  (sSet 0 (oA (F_turned 8) (ac (oA (F_turned 8) (ac (fVar 0) (ac (fVar 4) a0))) (ac (fVar 1) a0)))))) 8)
  (sRet (oA F_once_up (ac (fVar 0) (ac (fVar 1) a0)))))
def F_splayed : List PyData → Option PyData := runF 5 B_splayed
theorem ok_splayed (T : Txt K mg) : Ok P w K mg base "splayed" ["shape", "key"] 11 2 F_splayed :=
  ok_mk (k := 10) T.splayed sc_splayed rfl (fun _ _ _ _ _ _ us hl => match us, hl with | [_, _], _ => rfl) (fun _ _ h => h) fun fa cdv A outer s H He Oa hr =>
      (show PBV _ He Oa (defBody s_splayed) B_splayed from (pbv_cons (psv_while 8 PassesOwn.never (pvt_cmp op_gt g_gt (pv_callO (ok_way_to T 8) hr (by decide) rfl (pva_cons (pv_name 0 (pv 0)) (pva_cons (pv_name 1 (pv 1)) pva_nil)) (.cons (.cons .nil))) pv_int (nomark _)) (pbv_cons (psv_asg (pv_cut (pv_callO (ok_way_down T 8) hr (by decide) rfl (pva_cons (pv_name 0 (pv 0)) (pva_cons (pv_name 1 (pv 1)) pva_nil)) (.cons (.cons .nil))) (pvo_some (pv_neg pv_int)) (pvo_some (pv_neg pv_int))) (pgv_unl rfl (pgvs_cons (pgv_name (pg_name (i := 2) sc_splayed.nd rfl (.inl rfl))) (pgvs_cons (pgv_name (pg_name (i := 3) sc_splayed.nd rfl (.inl rfl))) pgvs_nil)) (gsC_len (gsC_len gs0_len))))
      (pbv_cons (psv_set (i := 4) (pv_ifExp (pvt_cmp op_eq g_eq (pv_cmp op_lt g_lt (pv_name 1 (pv 1)) (pv_name 3 (pv 3)) (nomark _)) (pv_cmp op_lt g_lt (pv_name 3 (pv 3)) (pv_name 2 (pv 2)) (nomark _)) (nomark _)) (pv_name 3 (pv 3)) (pv_name 1 (pv 1))) sc_splayed.nd rfl (.inl rfl))
      (pbv_one (psv_set (i := 0) (pv_callO (ok_turned T 8) hr (by decide) rfl (pva_cons (pv_callO (ok_turned T 8) hr (by decide) rfl (pva_cons (pv_name 0 (pv 0)) (pva_cons (pv_name 4 (pv 4)) pva_nil)) (.cons (.cons .nil))) (pva_cons (pv_name 1 (pv 1)) pva_nil)) (.cons (.cons .nil))) sc_splayed.nd rfl (.inl rfl))))))
      (pbv_one (psv_ret (pv_callO (ok_once_up T) hr (by decide) rfl (pva_cons (pv_name 0 (pv 0)) (pva_cons (pv_name 1 (pv 1)) pva_nil)) (.cons (.cons .nil)))))))
/-! ### without_splayed -/
abbrev N_without_splayed : List Str := ["shape", "key", "left", "top", "right", "new"]
theorem sc_without_splayed : FnScope N_without_splayed ["shape", "key"] (defScope s_without_splayed) := ⟨rfl, rfl, rfl, by decide +kernel, rfl, by decide +kernel, by decide +kernel⟩
def B_without_splayed : FS :=
  (sSeq (sAsg (gT (gsC (gN 2) (gsC (gN 3) (gsC (gN 4) gs0)))) (oA F_splayed (ac (fVar 0) (ac (fVar 1) a0))))
  (sSeq (sIf (o2 dEqE (fVar 2) (fTup a0)) (sRet (fVar 4)) sNext)
  (sSeq (sSet 5 (oA F_splayed (ac (fVar 2) (ac (oA (F_greatest 8) (ac (fVar 2) a0)) a0))))
  (sRet (fTup (ac (o2 dIdx (fVar 5) (fC (.int 0))) (ac (o2 dIdx (fVar 5) (fC (.int 1))) (ac (fVar 4) a0))))))))
def F_without_splayed : List PyData → Option PyData := runF 6 B_without_splayed
theorem ok_without_splayed (T : Txt K mg) : Ok P w K mg base "without_splayed" ["shape", "key"] 12 2 F_without_splayed :=
  ok_mk (k := 11) T.without_splayed sc_without_splayed rfl (fun _ _ _ _ _ _ us hl => match us, hl with | [_, _], _ => rfl) (fun _ _ h => h) fun fa cdv A outer s H He Oa hr =>
      (show PBV _ He Oa (defBody s_without_splayed) B_without_splayed from (pbv_cons (psv_asg (pv_callO (ok_splayed T) hr (by decide) rfl (pva_cons (pv_name 0 (pv 0)) (pva_cons (pv_name 1 (pv 1)) pva_nil)) (.cons (.cons .nil))) (pgv_tup rfl (pgvs_cons (pgv_name (pg_name (i := 2) sc_without_splayed.nd rfl (.inl rfl))) (pgvs_cons (pgv_name (pg_name (i := 3) sc_without_splayed.nd rfl (.inl rfl))) (pgvs_cons (pgv_name (pg_name (i := 4) sc_without_splayed.nd rfl (.inl rfl))) pgvs_nil))) (gsC_len (gsC_len (gsC_len gs0_len)))))
      (pbv_cons (psv_if (pvt_cmp (op_eqR hr.units) g_eqE (pv_name 2 (pv 2)) (pv_tup pva_nil .nil) (nomark _)) (pbv_one (psv_ret (pv_name 4 (pv 4)))) pbv_nil)
      (pbv_cons (psv_set (i := 5) (pv_callO (ok_splayed T) hr (by decide) rfl (pva_cons (pv_name 2 (pv 2)) (pva_cons (pv_callO (ok_greatest T 8) hr (by decide) rfl (pva_cons (pv_name 2 (pv 2)) pva_nil) (.cons .nil)) pva_nil)) (.cons (.cons .nil))) sc_without_splayed.nd rfl (.inl rfl))
      (pbv_one (psv_ret (pv_tup (pva_cons (pv_ix (pv_name 5 (pv 5)) pv_int) (pva_cons (pv_ix (pv_name 5 (pv 5)) pv_int) (pva_cons (pv_name 4 (pv 4)) pva_nil))) (.cons (.cons (.cons .nil))))))))))
end
end L3

namespace L3
open PySem PySem.Spec PyProof.Rows L2
section
variable {P : Program} {w : World} {K : PySem.W.Frag} {mg : Str → Option Value} {base : Heap}
/-! ### weight_of -/
abbrev N_weight_of : List Str := ["shape"]
theorem sc_weight_of : FnScope N_weight_of ["shape"] (defScope s_weight_of) := ⟨rfl, rfl, rfl, by decide +kernel, rfl, by decide +kernel, by decide +kernel⟩
def B_weight_of : FS :=
  (sRet (o2 dAdd (oA (F_size_of 8) (ac (fVar 0) a0)) (fC (.int 1))))
def F_weight_of : List PyData → Option PyData := runF 1 B_weight_of
theorem ok_weight_of (T : Txt K mg) : Ok P w K mg base "weight_of" ["shape"] 9 1 F_weight_of :=
  ok_mk (k := 8) T.weight_of sc_weight_of rfl (fun _ _ _ _ _ _ us hl => match us, hl with | [_], _ => rfl) (fun _ _ h => h) fun fa cdv A outer s H He Oa hr =>
      (show PBV _ He Oa (defBody s_weight_of) B_weight_of from (pbv_one (psv_ret (pv_add (pv_callO (ok_size_of T 8) hr (by decide) rfl (pva_cons (pv_name 0 (pv 0)) pva_nil) (.cons .nil)) pv_int))))
/-! ### is_greater -/
abbrev N_is_greater : List Str := ["word", "one", "other"]
theorem sc_is_greater : FnScope N_is_greater ["word", "one", "other"] (defScope s_is_greater) := ⟨rfl, rfl, rfl, by decide +kernel, rfl, by decide +kernel, by decide +kernel⟩
def B_is_greater : FS :=
  (sSeq (sIf (o2 dEq (fVar 0) (fC (.str "heights"))) (sRet (o2 dGt (oA (F_height_of 8) (ac (fVar 1) a0)) (o2 dAdd (oA (F_height_of 8) (ac (fVar 2) a0)) (fC (.int 1))))) sNext)
  (sRet (o2 dGt (oA F_weight_of (ac (fVar 1) a0)) (o2 dMul (fC (.int 3)) (oA F_weight_of (ac (fVar 2) a0))))))
def F_is_greater : List PyData → Option PyData := runF 3 B_is_greater
theorem ok_is_greater (T : Txt K mg) : Ok P w K mg base "is_greater" ["word", "one", "other"] 10 3 F_is_greater :=
  ok_mk (k := 9) T.is_greater sc_is_greater rfl (fun _ _ _ _ _ _ us hl => match us, hl with | [_, _, _], _ => rfl) (fun _ _ h => h) fun fa cdv A outer s H He Oa hr =>
      (show PBV _ He Oa (defBody s_is_greater) B_is_greater from (pbv_cons (psv_if (pvt_cmp op_eq g_eq (pv_name 0 (pv 0)) pv_str (nomark _)) (pbv_one (psv_ret (pv_cmp op_gt g_gt (pv_callO (ok_height_of T 8) hr (by decide) rfl (pva_cons (pv_name 1 (pv 1)) pva_nil) (.cons .nil)) (pv_add (pv_callO (ok_height_of T 8) hr (by decide) rfl (pva_cons (pv_name 2 (pv 2)) pva_nil) (.cons .nil)) pv_int) (nomark _)))) pbv_nil)
      (pbv_one (psv_ret (pv_cmp op_gt g_gt (pv_callO (ok_weight_of T) hr (by decide) rfl (pva_cons (pv_name 1 (pv 1)) pva_nil) (.cons .nil)) (pv_mul pv_int (pv_callO (ok_weight_of T) hr (by decide) rfl (pva_cons (pv_name 2 (pv 2)) pva_nil) (.cons .nil))) (nomark _))))))
/-! ### is_inner -/
abbrev N_is_inner : List Str := ["word", "inner", "outer"]
theorem sc_is_inner : FnScope N_is_inner ["word", "inner", "outer"] (defScope s_is_inner) := ⟨rfl, rfl, rfl, by decide +kernel, rfl, by decide +kernel, by decide +kernel⟩
def B_is_inner : FS :=
  (sSeq (sIf (o2 dEq (fVar 0) (fC (.str "heights"))) (sRet (o2 dGt (oA (F_height_of 8) (ac (fVar 1) a0)) (oA (F_height_of 8) (ac (fVar 2) a0)))) sNext)
  (sRet (o2 dGe (oA F_weight_of (ac (fVar 1) a0)) (o2 dMul (fC (.int 2)) (oA F_weight_of (ac (fVar 2) a0))))))
def F_is_inner : List PyData → Option PyData := runF 3 B_is_inner
theorem ok_is_inner (T : Txt K mg) : Ok P w K mg base "is_inner" ["word", "inner", "outer"] 10 3 F_is_inner :=
  ok_mk (k := 9) T.is_inner sc_is_inner rfl (fun _ _ _ _ _ _ us hl => match us, hl with | [_, _, _], _ => rfl) (fun _ _ h => h) fun fa cdv A outer s H He Oa hr =>
      (show PBV _ He Oa (defBody s_is_inner) B_is_inner from (pbv_cons (psv_if (pvt_cmp op_eq g_eq (pv_name 0 (pv 0)) pv_str (nomark _)) (pbv_one (psv_ret (pv_cmp op_gt g_gt (pv_callO (ok_height_of T 8) hr (by decide) rfl (pva_cons (pv_name 1 (pv 1)) pva_nil) (.cons .nil)) (pv_callO (ok_height_of T 8) hr (by decide) rfl (pva_cons (pv_name 2 (pv 2)) pva_nil) (.cons .nil)) (nomark _)))) pbv_nil)
      (pbv_one (psv_ret (pv_cmp op_ge g_ge (pv_callO (ok_weight_of T) hr (by decide) rfl (pva_cons (pv_name 1 (pv 1)) pva_nil) (.cons .nil)) (pv_mul pv_int (pv_callO (ok_weight_of T) hr (by decide) rfl (pva_cons (pv_name 2 (pv 2)) pva_nil) (.cons .nil))) (nomark _))))))
/-! ### set_right -/
abbrev N_set_right : List Str := ["word", "part", "left", "top", "right"]
theorem sc_set_right : FnScope N_set_right ["word", "part"] (defScope s_set_right) := ⟨rfl, rfl, rfl, by decide +kernel, rfl, by decide +kernel, by decide +kernel⟩
def B_set_right : FS :=
  (sSeq (sAsg (gT (gsC (gN 2) (gsC (gN 3) (gsC (gN 4) gs0)))) (fVar 1))
  (sSeq (sIf (oA F_is_greater (ac (fVar 0) (ac (fVar 2) (ac (fVar 4) a0)))) (sSeq (sIf (oA F_is_inner (ac (fVar 0) (ac (o2 dIdx (fVar 2) (fC (.int 2))) (ac (o2 dIdx (fVar 2) (fC (.int 0))) a0)))) (sSet 2 (oA F_right_up (ac (fVar 2) a0))) sNext)
  (sRet (oA F_left_up (ac (fTup (ac (fVar 2) (ac (fVar 3) (ac (fVar 4) a0)))) a0)))) sNext)
  (sSeq (sIf (oA F_is_greater (ac (fVar 0) (ac (fVar 4) (ac (fVar 2) a0)))) (sSeq (sIf (oA F_is_inner (ac (fVar 0) (ac (o2 dIdx (fVar 4) (fC (.int 0))) (ac (o2 dIdx (fVar 4) (fC (.int 2))) a0)))) (sSet 4 (oA F_left_up (ac (fVar 4) a0))) sNext)
  (sRet (oA F_right_up (ac (fTup (ac (fVar 2) (ac (fVar 3) (ac (fVar 4) a0)))) a0)))) sNext)
  (sRet (fVar 1)))))
def F_set_right : List PyData → Option PyData := runF 5 B_set_right
theorem ok_set_right (T : Txt K mg) : Ok P w K mg base "set_right" ["word", "part"] 11 2 F_set_right :=
  ok_mk (k := 10) T.set_right sc_set_right rfl (fun _ _ _ _ _ _ us hl => match us, hl with | [_, _], _ => rfl) (fun _ _ h => h) fun fa cdv A outer s H He Oa hr =>
      (show PBV _ He Oa (defBody s_set_right) B_set_right from (pbv_cons (psv_asg (pv_name 1 (pv 1)) (pgv_tup rfl (pgvs_cons (pgv_name (pg_name (i := 2) sc_set_right.nd rfl (.inl rfl))) (pgvs_cons (pgv_name (pg_name (i := 3) sc_set_right.nd rfl (.inl rfl))) (pgvs_cons (pgv_name (pg_name (i := 4) sc_set_right.nd rfl (.inl rfl))) pgvs_nil))) (gsC_len (gsC_len (gsC_len gs0_len)))))
      (pbv_cons (psv_if (pvt_val (pv_callO (ok_is_greater T) hr (by decide) rfl (pva_cons (pv_name 0 (pv 0)) (pva_cons (pv_name 2 (pv 2)) (pva_cons (pv_name 4 (pv 4)) pva_nil))) (.cons (.cons (.cons .nil))))) (pbv_cons (psv_if (pvt_val (pv_callO (ok_is_inner T) hr (by decide) rfl (pva_cons (pv_name 0 (pv 0)) (pva_cons (pv_ix (pv_name 2 (pv 2)) pv_int) (pva_cons (pv_ix (pv_name 2 (pv 2)) pv_int) pva_nil))) (.cons (.cons (.cons .nil))))) (pbv_one (psv_set (i := 2) (pv_callO (ok_right_up T) hr (by decide) rfl (pva_cons (pv_name 2 (pv 2)) pva_nil) (.cons .nil)) sc_set_right.nd rfl (.inl rfl))) pbv_nil)
      (pbv_one (psv_ret (pv_callO (ok_left_up T) hr (by decide) rfl (pva_cons (pv_tup (pva_cons (pv_name 2 (pv 2)) (pva_cons (pv_name 3 (pv 3)) (pva_cons (pv_name 4 (pv 4)) pva_nil))) (.cons (.cons (.cons .nil)))) pva_nil) (.cons .nil))))) pbv_nil)
      (pbv_cons (psv_if (pvt_val (pv_callO (ok_is_greater T) hr (by decide) rfl (pva_cons (pv_name 0 (pv 0)) (pva_cons (pv_name 4 (pv 4)) (pva_cons (pv_name 2 (pv 2)) pva_nil))) (.cons (.cons (.cons .nil))))) (pbv_cons (psv_if (pvt_val (pv_callO (ok_is_inner T) hr (by decide) rfl (pva_cons (pv_name 0 (pv 0)) (pva_cons (pv_ix (pv_name 4 (pv 4)) pv_int) (pva_cons (pv_ix (pv_name 4 (pv 4)) pv_int) pva_nil))) (.cons (.cons (.cons .nil))))) (pbv_one (psv_set (i := 4) (pv_callO (ok_left_up T) hr (by decide) rfl (pva_cons (pv_name 4 (pv 4)) pva_nil) (.cons .nil)) sc_set_right.nd rfl (.inl rfl))) pbv_nil)
      (pbv_one (psv_ret (pv_callO (ok_right_up T) hr (by decide) rfl (pva_cons (pv_tup (pva_cons (pv_name 2 (pv 2)) (pva_cons (pv_name 3 (pv 3)) (pva_cons (pv_name 4 (pv 4)) pva_nil))) (.cons (.cons (.cons .nil)))) pva_nil) (.cons .nil))))) pbv_nil)
      (pbv_one (psv_ret (pv_name 1 (pv 1))))))))
/-! ### put_right -/
abbrev N_put_right : List Str := ["word", "shape", "key", "left", "top", "right"]
theorem sc_put_right : FnScope N_put_right ["word", "shape", "key"] (defScope s_put_right) := ⟨rfl, rfl, rfl, by decide +kernel, rfl, by decide +kernel, by decide +kernel⟩
def B_put_right (self : List PyData → Option PyData) : FS :=
  (sSeq (sIf (o2 dEqE (fVar 1) (fTup a0)) (sRet (fTup (ac (fTup a0) (ac (fVar 2) (ac (fTup a0) a0))))) sNext)
  (sSeq (sAsg (gT (gsC (gN 3) (gsC (gN 4) (gsC (gN 5) gs0)))) (fVar 1))
  (sSeq (sIf (o2 dLt (fVar 2) (fVar 4)) (sRet (oA F_set_right (ac (fVar 0) (ac (fTup (ac (oA self (ac (fVar 0) (ac (fVar 3) (ac (fVar 2) a0)))) (ac (fVar 4) (ac (fVar 5) a0)))) a0)))) sNext)
  (sRet (oA F_set_right (ac (fVar 0) (ac (fTup (ac (fVar 3) (ac (fVar 4) (ac (oA self (ac (fVar 0) (ac (fVar 5) (ac (fVar 2) a0)))) a0)))) a0)))))))
def F_put_right : Nat → List PyData → Option PyData
  | 0 => fun _ => none
  | k + 1 => runF 6 (B_put_right (F_put_right k))
theorem ok_put_right (T : Txt K mg) : ∀ j : Nat, Ok P w K mg base "put_right" ["word", "shape", "key"] (11 + j) 3 (F_put_right j) := by
  intro j
  induction j with
  | zero => exact ok_zero T.put_right rfl (fun _ _ _ _ _ _ us hl => match us, hl with | [_, _, _], _ => rfl) fun _ => rfl
  | succ j ih =>
    exact ok_mk (k := 11 + j) T.put_right sc_put_right rfl (fun _ _ _ _ _ _ us hl => match us, hl with | [_, _, _], _ => rfl) (fun _ _ h => h) fun fa cdv A outer s H He Oa hr =>
      (show PBV _ He Oa (defBody s_put_right) (B_put_right (F_put_right j)) from (pbv_cons (psv_if (pvt_cmp (op_eqR hr.units) g_eqE (pv_name 1 (pv 1)) (pv_tup pva_nil .nil) (nomark _)) (pbv_one (psv_ret (pv_tup (pva_cons (pv_tup pva_nil .nil) (pva_cons (pv_name 2 (pv 2)) (pva_cons (pv_tup pva_nil .nil) pva_nil))) (.cons (.cons (.cons .nil)))))) pbv_nil)
      (pbv_cons (psv_asg (pv_name 1 (pv 1)) (pgv_tup rfl (pgvs_cons (pgv_name (pg_name (i := 3) sc_put_right.nd rfl (.inl rfl))) (pgvs_cons (pgv_name (pg_name (i := 4) sc_put_right.nd rfl (.inl rfl))) (pgvs_cons (pgv_name (pg_name (i := 5) sc_put_right.nd rfl (.inl rfl))) pgvs_nil))) (gsC_len (gsC_len (gsC_len gs0_len)))))
      (pbv_cons (psv_if (pvt_cmp op_lt g_lt (pv_name 2 (pv 2)) (pv_name 4 (pv 4)) (nomark _)) (pbv_one (psv_ret (pv_callO (ok_set_right T) hr (by omega) rfl (pva_cons (pv_name 0 (pv 0)) (pva_cons (pv_tup (pva_cons (pv_callO ih hr (by omega) rfl (pva_cons (pv_name 0 (pv 0)) (pva_cons (pv_name 3 (pv 3)) (pva_cons (pv_name 2 (pv 2)) pva_nil))) (.cons (.cons (.cons .nil)))) (pva_cons (pv_name 4 (pv 4)) (pva_cons (pv_name 5 (pv 5)) pva_nil))) (.cons (.cons (.cons .nil)))) pva_nil)) (.cons (.cons .nil))))) pbv_nil)
      (pbv_one (psv_ret (pv_callO (ok_set_right T) hr (by omega) rfl (pva_cons (pv_name 0 (pv 0)) (pva_cons (pv_tup (pva_cons (pv_name 3 (pv 3)) (pva_cons (pv_name 4 (pv 4)) (pva_cons (pv_callO ih hr (by omega) rfl (pva_cons (pv_name 0 (pv 0)) (pva_cons (pv_name 5 (pv 5)) (pva_cons (pv_name 2 (pv 2)) pva_nil))) (.cons (.cons (.cons .nil)))) pva_nil))) (.cons (.cons (.cons .nil)))) pva_nil)) (.cons (.cons .nil)))))))))
/-! ### take_right -/
abbrev N_take_right : List Str := ["word", "shape", "key", "left", "top", "right", "new"]
theorem sc_take_right : FnScope N_take_right ["word", "shape", "key"] (defScope s_take_right) := ⟨rfl, rfl, rfl, by decide +kernel, rfl, by decide +kernel, by decide +kernel⟩
def B_take_right (self : List PyData → Option PyData) : FS :=
  (sSeq (sAsg (gT (gsC (gN 3) (gsC (gN 4) (gsC (gN 5) gs0)))) (fVar 1))
  (sSeq (sIf (o2 dLt (fVar 2) (fVar 4)) (sRet (oA F_set_right (ac (fVar 0) (ac (fTup (ac (oA self (ac (fVar 0) (ac (fVar 3) (ac (fVar 2) a0)))) (ac (fVar 4) (ac (fVar 5) a0)))) a0)))) sNext)
  (sSeq (sIf (o2 dGt (fVar 2) (fVar 4)) (sRet (oA F_set_right (ac (fVar 0) (ac (fTup (ac (fVar 3) (ac (fVar 4) (ac (oA self (ac (fVar 0) (ac (fVar 5) (ac (fVar 2) a0)))) a0)))) a0)))) sNext)
  (sSeq (sIf (fOr (o2 dEqE (fVar 3) (fTup a0)) (o2 dEqE (fVar 5) (fTup a0))) (sRet (fIf (o2 dEqE (fVar 5) (fTup a0)) (fVar 3) (fVar 5))) sNext)
  (sSeq (sSet 6 (oA (F_least 8) (ac (fVar 5) a0)))
  (sRet (oA F_set_right (ac (fVar 0) (ac (fTup (ac (fVar 3) (ac (fVar 6) (ac (oA self (ac (fVar 0) (ac (fVar 5) (ac (fVar 6) a0)))) a0)))) a0)))))))))
def F_take_right : Nat → List PyData → Option PyData
  | 0 => fun _ => none
  | k + 1 => runF 7 (B_take_right (F_take_right k))
theorem ok_take_right (T : Txt K mg) : ∀ j : Nat, Ok P w K mg base "take_right" ["word", "shape", "key"] (11 + j) 3 (F_take_right j) := by
  intro j
  induction j with
  | zero => exact ok_zero T.take_right rfl (fun _ _ _ _ _ _ us hl => match us, hl with | [_, _, _], _ => rfl) fun _ => rfl
  | succ j ih =>
    exact ok_mk (k := 11 + j) T.take_right sc_take_right rfl (fun _ _ _ _ _ _ us hl => match us, hl with | [_, _, _], _ => rfl) (fun _ _ h => h) fun fa cdv A outer s H He Oa hr =>
      (show PBV _ He Oa (defBody s_take_right) (B_take_right (F_take_right j)) from (pbv_cons (psv_asg (pv_name 1 (pv 1)) (pgv_tup rfl (pgvs_cons (pgv_name (pg_name (i := 3) sc_take_right.nd rfl (.inl rfl))) (pgvs_cons (pgv_name (pg_name (i := 4) sc_take_right.nd rfl (.inl rfl))) (pgvs_cons (pgv_name (pg_name (i := 5) sc_take_right.nd rfl (.inl rfl))) pgvs_nil))) (gsC_len (gsC_len (gsC_len gs0_len)))))
      (pbv_cons (psv_if (pvt_cmp op_lt g_lt (pv_name 2 (pv 2)) (pv_name 4 (pv 4)) (nomark _)) (pbv_one (psv_ret (pv_callO (ok_set_right T) hr (by omega) rfl (pva_cons (pv_name 0 (pv 0)) (pva_cons (pv_tup (pva_cons (pv_callO ih hr (by omega) rfl (pva_cons (pv_name 0 (pv 0)) (pva_cons (pv_name 3 (pv 3)) (pva_cons (pv_name 2 (pv 2)) pva_nil))) (.cons (.cons (.cons .nil)))) (pva_cons (pv_name 4 (pv 4)) (pva_cons (pv_name 5 (pv 5)) pva_nil))) (.cons (.cons (.cons .nil)))) pva_nil)) (.cons (.cons .nil))))) pbv_nil)
      (pbv_cons (psv_if (pvt_cmp op_gt g_gt (pv_name 2 (pv 2)) (pv_name 4 (pv 4)) (nomark _)) (pbv_one (psv_ret (pv_callO (ok_set_right T) hr (by omega) rfl (pva_cons (pv_name 0 (pv 0)) (pva_cons (pv_tup (pva_cons (pv_name 3 (pv 3)) (pva_cons (pv_name 4 (pv 4)) (pva_cons (pv_callO ih hr (by omega) rfl (pva_cons (pv_name 0 (pv 0)) (pva_cons (pv_name 5 (pv 5)) (pva_cons (pv_name 2 (pv 2)) pva_nil))) (.cons (.cons (.cons .nil)))) pva_nil))) (.cons (.cons (.cons .nil)))) pva_nil)) (.cons (.cons .nil))))) pbv_nil)
      (pbv_cons (psv_if (PW.pt (pvw_or (pvt_cmp (op_eqR hr.units) g_eqE (pv_name 3 (pv 3)) (pv_tup pva_nil .nil) (nomark _)) (pvw_one_or (pvt_cmp (op_eqR hr.units) g_eqE (pv_name 5 (pv 5)) (pv_tup pva_nil .nil) (nomark _))))) (pbv_one (psv_ret (pv_ifExp (pvt_cmp (op_eqR hr.units) g_eqE (pv_name 5 (pv 5)) (pv_tup pva_nil .nil) (nomark _)) (pv_name 3 (pv 3)) (pv_name 5 (pv 5))))) pbv_nil)
      (pbv_cons (psv_set (i := 6) (pv_callO (ok_least T 8) hr (by omega) rfl (pva_cons (pv_name 5 (pv 5)) pva_nil) (.cons .nil)) sc_take_right.nd rfl (.inl rfl))
      (pbv_one (psv_ret (pv_callO (ok_set_right T) hr (by omega) rfl (pva_cons (pv_name 0 (pv 0)) (pva_cons (pv_tup (pva_cons (pv_name 3 (pv 3)) (pva_cons (pv_name 6 (pv 6)) (pva_cons (pv_callO ih hr (by omega) rfl (pva_cons (pv_name 0 (pv 0)) (pva_cons (pv_name 5 (pv 5)) (pva_cons (pv_name 6 (pv 6)) pva_nil))) (.cons (.cons (.cons .nil)))) pva_nil))) (.cons (.cons (.cons .nil)))) pva_nil)) (.cons (.cons .nil)))))))))))
/-! ### is_even -/
abbrev N_is_even : List Str := ["part"]
theorem sc_is_even : FnScope N_is_even ["part"] (defScope s_is_even) := ⟨rfl, rfl, rfl, by decide +kernel, rfl, by decide +kernel, by decide +kernel⟩
def B_is_even : FS :=
  (sRet (o2 dLe (o2 dMul (fC (.int 3)) (oA gMax (ac (oA (F_size_of 8) (ac (o2 dIdx (fVar 0) (fC (.int 0))) a0)) (ac (oA (F_size_of 8) (ac (o2 dIdx (fVar 0) (fC (.int 2))) a0)) a0)))) (o2 dMul (fC (.int 2)) (oA (F_size_of 8) (ac (fVar 0) a0)))))
def F_is_even : List PyData → Option PyData := runF 1 B_is_even
theorem ok_is_even (T : Txt K mg) : Ok P w K mg base "is_even" ["part"] 9 1 F_is_even :=
  ok_mk (k := 8) T.is_even sc_is_even rfl (fun _ _ _ _ _ _ us hl => match us, hl with | [_], _ => rfl) (fun _ _ h => h) fun fa cdv A outer s H He Oa hr =>
      (show PBV _ He Oa (defBody s_is_even) B_is_even from (pbv_one (psv_ret (pv_cmp op_le g_le (pv_mul pv_int (pv_bi (call_max2 rfl) gv_max rfl T.bi.max (by decide +kernel) (pva_cons (pv_callO (ok_size_of T 8) hr (by decide) rfl (pva_cons (pv_ix (pv_name 0 (pv 0)) pv_int) pva_nil) (.cons .nil)) (pva_cons (pv_callO (ok_size_of T 8) hr (by decide) rfl (pva_cons (pv_ix (pv_name 0 (pv 0)) pv_int) pva_nil) (.cons .nil)) pva_nil)))) (pv_mul pv_int (pv_callO (ok_size_of T 8) hr (by decide) rfl (pva_cons (pv_name 0 (pv 0)) pva_nil) (.cons .nil))) (nomark _)))))
/-! ### built -/
abbrev N_built : List Str := ["keys", "at"]
theorem sc_built : FnScope N_built ["keys"] (defScope s_built) := ⟨rfl, rfl, rfl, by decide +kernel, rfl, by decide +kernel, by decide +kernel⟩
def B_built (self : List PyData → Option PyData) : FS :=
  (sSeq (sIf (o2 dEqE (fVar 0) (fLst a0)) (sRet (fTup a0)) sNext)
  (sSeq (sSet 1 (o2 dDiv (oA gLen (ac (fVar 0) a0)) (fC (.int 2))))
  (sRet (fTup (ac (oA self (ac (fCut (fVar 0) pNone (pSome (fVar 1))) a0)) (ac (o2 dIdx (fVar 0) (fVar 1)) (ac (oA self (ac (fCut (fVar 0) (pSome (o2 dAdd (fVar 1) (fC (.int 1)))) pNone) a0)) a0)))))))
def F_built : Nat → List PyData → Option PyData
  | 0 => fun _ => none
  | k + 1 => runF 2 (B_built (F_built k))
theorem ok_built (T : Txt K mg) : ∀ j : Nat, Ok P w K mg base "built" ["keys"] (0 + j) 1 (F_built j) := by
  intro j
  induction j with
  | zero => exact ok_zero T.built rfl (fun _ _ _ _ _ _ us hl => match us, hl with | [_], _ => rfl) fun _ => rfl
  | succ j ih =>
    exact ok_mk (k := 0 + j) T.built sc_built rfl (fun _ _ _ _ _ _ us hl => match us, hl with | [_], _ => rfl) (fun _ _ h => h) fun fa cdv A outer s H He Oa hr =>
      (show PBV _ He Oa (defBody s_built) (B_built (F_built j)) from (pbv_cons (psv_if (pvt_cmp (op_eqR hr.units) g_eqE (pv_name 0 (pv 0)) (pv_lst pva_nil .nil) (nomark _)) (pbv_one (psv_ret (pv_tup pva_nil .nil))) pbv_nil)
      (pbv_cons (psv_set (i := 1) (pv_div (pv_bi call_len_seq gv_len rfl T.bi.len boot_len (pva_cons (pv_name 0 (pv 0)) pva_nil)) pv_int) sc_built.nd rfl (.inl rfl))
      (pbv_one (psv_ret (pv_tup (pva_cons (pv_callO ih hr (by omega) rfl (pva_cons (pv_cut (pv_name 0 (pv 0)) pvo_none (pvo_some (pv_name 1 (pv 1)))) pva_nil) (.cons .nil)) (pva_cons (pv_ix (pv_name 0 (pv 0)) (pv_name 1 (pv 1))) (pva_cons (pv_callO ih hr (by omega) rfl (pva_cons (pv_cut (pv_name 0 (pv 0)) (pvo_some (pv_add (pv_name 1 (pv 1)) pv_int)) pvo_none) pva_nil) (.cons .nil)) pva_nil))) (.cons (.cons (.cons .nil)))))))))
/-! ### rebuilt -/
abbrev N_rebuilt : List Str := ["shape"]
theorem sc_rebuilt : FnScope N_rebuilt ["shape"] (defScope s_rebuilt) := ⟨rfl, rfl, rfl, by decide +kernel, rfl, by decide +kernel, by decide +kernel⟩
def B_rebuilt (self : List PyData → Option PyData) : FS :=
  (sSeq (sIf (o2 dEqE (fVar 0) (fTup a0)) (sRet (fTup a0)) sNext)
  (sSeq (sIf (o1 dNot (oA F_is_even (ac (fVar 0) a0))) (sRet (oA (F_built 8) (ac (oA (F_keys_of 8) (ac (fVar 0) a0)) a0))) sNext)
  (sRet (fTup (ac (oA self (ac (o2 dIdx (fVar 0) (fC (.int 0))) a0)) (ac (o2 dIdx (fVar 0) (fC (.int 1))) (ac (oA self (ac (o2 dIdx (fVar 0) (fC (.int 2))) a0)) a0)))))))
def F_rebuilt : Nat → List PyData → Option PyData
  | 0 => fun _ => none
  | k + 1 => runF 1 (B_rebuilt (F_rebuilt k))
theorem ok_rebuilt (T : Txt K mg) : ∀ j : Nat, Ok P w K mg base "rebuilt" ["shape"] (9 + j) 1 (F_rebuilt j) := by
  intro j
  induction j with
  | zero => exact ok_zero T.rebuilt rfl (fun _ _ _ _ _ _ us hl => match us, hl with | [_], _ => rfl) fun _ => rfl
  | succ j ih =>
    exact ok_mk (k := 9 + j) T.rebuilt sc_rebuilt rfl (fun _ _ _ _ _ _ us hl => match us, hl with | [_], _ => rfl) (fun _ _ h => h) fun fa cdv A outer s H He Oa hr =>
      (show PBV _ He Oa (defBody s_rebuilt) (B_rebuilt (F_rebuilt j)) from (pbv_cons (psv_if (pvt_cmp (op_eqR hr.units) g_eqE (pv_name 0 (pv 0)) (pv_tup pva_nil .nil) (nomark _)) (pbv_one (psv_ret (pv_tup pva_nil .nil))) pbv_nil)
      (pbv_cons (psv_if (pvt_not (pvt_val (pv_callO (ok_is_even T) hr (by omega) rfl (pva_cons (pv_name 0 (pv 0)) pva_nil) (.cons .nil)))) (pbv_one (psv_ret (pv_callO (ok_built T 8) hr (by omega) rfl (pva_cons (pv_callO (ok_keys_of T 8) hr (by omega) rfl (pva_cons (pv_name 0 (pv 0)) pva_nil) (.cons .nil)) pva_nil) (.cons .nil)))) pbv_nil)
      (pbv_one (psv_ret (pv_tup (pva_cons (pv_callO ih hr (by omega) rfl (pva_cons (pv_ix (pv_name 0 (pv 0)) pv_int) pva_nil) (.cons .nil)) (pva_cons (pv_ix (pv_name 0 (pv 0)) pv_int) (pva_cons (pv_callO ih hr (by omega) rfl (pva_cons (pv_ix (pv_name 0 (pv 0)) pv_int) pva_nil) (.cons .nil)) pva_nil))) (.cons (.cons (.cons .nil)))))))))
/-! ### put_rebuilt -/
abbrev N_put_rebuilt : List Str := ["shape", "key"]
theorem sc_put_rebuilt : FnScope N_put_rebuilt ["shape", "key"] (defScope s_put_rebuilt) := ⟨rfl, rfl, rfl, by decide +kernel, rfl, by decide +kernel, by decide +kernel⟩
def B_put_rebuilt : FS :=
  (sRet (oA (F_rebuilt 8) (ac (oA (F_with_leaf 8) (ac (fVar 0) (ac (fVar 1) a0))) a0)))
def F_put_rebuilt : List PyData → Option PyData := runF 2 B_put_rebuilt
theorem ok_put_rebuilt (T : Txt K mg) : Ok P w K mg base "put_rebuilt" ["shape", "key"] 18 2 F_put_rebuilt :=
  ok_mk (k := 17) T.put_rebuilt sc_put_rebuilt rfl (fun _ _ _ _ _ _ us hl => match us, hl with | [_, _], _ => rfl) (fun _ _ h => h) fun fa cdv A outer s H He Oa hr =>
      (show PBV _ He Oa (defBody s_put_rebuilt) B_put_rebuilt from (pbv_one (psv_ret (pv_callO (ok_rebuilt T 8) hr (by decide) rfl (pva_cons (pv_callO (ok_with_leaf T 8) hr (by decide) rfl (pva_cons (pv_name 0 (pv 0)) (pva_cons (pv_name 1 (pv 1)) pva_nil)) (.cons (.cons .nil))) pva_nil) (.cons .nil)))))
/-! ### take_rebuilt -/
abbrev N_take_rebuilt : List Str := ["shape", "key"]
theorem sc_take_rebuilt : FnScope N_take_rebuilt ["shape", "key"] (defScope s_take_rebuilt) := ⟨rfl, rfl, rfl, by decide +kernel, rfl, by decide +kernel, by decide +kernel⟩
def B_take_rebuilt : FS :=
  (sRet (oA (F_rebuilt 8) (ac (oA (F_without 8) (ac (fVar 0) (ac (fVar 1) a0))) a0)))
def F_take_rebuilt : List PyData → Option PyData := runF 2 B_take_rebuilt
theorem ok_take_rebuilt (T : Txt K mg) : Ok P w K mg base "take_rebuilt" ["shape", "key"] 18 2 F_take_rebuilt :=
  ok_mk (k := 17) T.take_rebuilt sc_take_rebuilt rfl (fun _ _ _ _ _ _ us hl => match us, hl with | [_, _], _ => rfl) (fun _ _ h => h) fun fa cdv A outer s H He Oa hr =>
      (show PBV _ He Oa (defBody s_take_rebuilt) B_take_rebuilt from (pbv_one (psv_ret (pv_callO (ok_rebuilt T 8) hr (by decide) rfl (pva_cons (pv_callO (ok_without T 8) hr (by decide) rfl (pva_cons (pv_name 0 (pv 0)) (pva_cons (pv_name 1 (pv 1)) pva_nil)) (.cons (.cons .nil))) pva_nil) (.cons .nil)))))
/-! ### rank_of -/
abbrev N_rank_of : List Str := ["part"]
theorem sc_rank_of : FnScope N_rank_of ["part"] (defScope s_rank_of) := ⟨rfl, rfl, rfl, by decide +kernel, rfl, by decide +kernel, by decide +kernel⟩
def B_rank_of : FS :=
  (sRet (fIf (o2 dNeE (fVar 0) (fTup a0)) (o2 dIdx (fVar 0) (fC (.int 3))) (fC (.int 0))))
def F_rank_of : List PyData → Option PyData := runF 1 B_rank_of
theorem ok_rank_of (T : Txt K mg) : Ok P w K mg base "rank_of" ["part"] 1 1 F_rank_of :=
  ok_mk (k := 0) T.rank_of sc_rank_of rfl (fun _ _ _ _ _ _ us hl => match us, hl with | [_], _ => rfl) (fun _ _ h => h) fun fa cdv A outer s H He Oa hr =>
      (show PBV _ He Oa (defBody s_rank_of) B_rank_of from (pbv_one (psv_ret (pv_ifExp (pvt_cmp (op_neR hr.units) g_neE (pv_name 0 (pv 0)) (pv_tup pva_nil .nil) (nomark _)) (pv_ix (pv_name 0 (pv 0)) pv_int) pv_int))))
/-! ### ranked -/
abbrev N_ranked : List Str := ["shape", "left"]
theorem sc_ranked : FnScope N_ranked ["shape"] (defScope s_ranked) := ⟨rfl, rfl, rfl, by decide +kernel, rfl, by decide +kernel, by decide +kernel⟩
def B_ranked (self : List PyData → Option PyData) : FS :=
  (sSeq (sIf (o2 dEqE (fVar 0) (fTup a0)) (sRet (fTup a0)) sNext)
  (sSeq (sSet 1 (oA self (ac (o2 dIdx (fVar 0) (fC (.int 0))) a0)))
  (sRet (fTup (ac (fVar 1) (ac (o2 dIdx (fVar 0) (fC (.int 1))) (ac (oA self (ac (o2 dIdx (fVar 0) (fC (.int 2))) a0)) (ac (o2 dAdd (oA F_rank_of (ac (fVar 1) a0)) (fC (.int 1))) a0))))))))
def F_ranked : Nat → List PyData → Option PyData
  | 0 => fun _ => none
  | k + 1 => runF 2 (B_ranked (F_ranked k))
theorem ok_ranked (T : Txt K mg) : ∀ j : Nat, Ok P w K mg base "ranked" ["shape"] (1 + j) 1 (F_ranked j) := by
  intro j
  induction j with
  | zero => exact ok_zero T.ranked rfl (fun _ _ _ _ _ _ us hl => match us, hl with | [_], _ => rfl) fun _ => rfl
  | succ j ih =>
    exact ok_mk (k := 1 + j) T.ranked sc_ranked rfl (fun _ _ _ _ _ _ us hl => match us, hl with | [_], _ => rfl) (fun _ _ h => h) fun fa cdv A outer s H He Oa hr =>
      (show PBV _ He Oa (defBody s_ranked) (B_ranked (F_ranked j)) from (pbv_cons (psv_if (pvt_cmp (op_eqR hr.units) g_eqE (pv_name 0 (pv 0)) (pv_tup pva_nil .nil) (nomark _)) (pbv_one (psv_ret (pv_tup pva_nil .nil))) pbv_nil)
      (pbv_cons (psv_set (i := 1) (pv_callO ih hr (by omega) rfl (pva_cons (pv_ix (pv_name 0 (pv 0)) pv_int) pva_nil) (.cons .nil)) sc_ranked.nd rfl (.inl rfl))
      (pbv_one (psv_ret (pv_tup (pva_cons (pv_name 1 (pv 1)) (pva_cons (pv_ix (pv_name 0 (pv 0)) pv_int) (pva_cons (pv_callO ih hr (by omega) rfl (pva_cons (pv_ix (pv_name 0 (pv 0)) pv_int) pva_nil) (.cons .nil)) (pva_cons (pv_add (pv_callO (ok_rank_of T) hr (by omega) rfl (pva_cons (pv_name 1 (pv 1)) pva_nil) (.cons .nil)) pv_int) pva_nil)))) (.cons (.cons (.cons (.cons .nil))))))))))
/-! ### bare -/
abbrev N_bare : List Str := ["part"]
theorem sc_bare : FnScope N_bare ["part"] (defScope s_bare) := ⟨rfl, rfl, rfl, by decide +kernel, rfl, by decide +kernel, by decide +kernel⟩
def B_bare (self : List PyData → Option PyData) : FS :=
  (sRet (fIf (o2 dNeE (fVar 0) (fTup a0)) (fTup (ac (oA self (ac (o2 dIdx (fVar 0) (fC (.int 0))) a0)) (ac (o2 dIdx (fVar 0) (fC (.int 1))) (ac (oA self (ac (o2 dIdx (fVar 0) (fC (.int 2))) a0)) a0)))) (fTup a0)))
def F_bare : Nat → List PyData → Option PyData
  | 0 => fun _ => none
  | k + 1 => runF 1 (B_bare (F_bare k))
theorem ok_bare (T : Txt K mg) : ∀ j : Nat, Ok P w K mg base "bare" ["part"] (0 + j) 1 (F_bare j) := by
  intro j
  induction j with
  | zero => exact ok_zero T.bare rfl (fun _ _ _ _ _ _ us hl => match us, hl with | [_], _ => rfl) fun _ => rfl
  | succ j ih =>
    exact ok_mk (k := 0 + j) T.bare sc_bare rfl (fun _ _ _ _ _ _ us hl => match us, hl with | [_], _ => rfl) (fun _ _ h => h) fun fa cdv A outer s H He Oa hr =>
      (show PBV _ He Oa (defBody s_bare) (B_bare (F_bare j)) from (pbv_one (psv_ret (pv_ifExp (pvt_cmp (op_neR hr.units) g_neE (pv_name 0 (pv 0)) (pv_tup pva_nil .nil) (nomark _)) (pv_tup (pva_cons (pv_callO ih hr (by omega) rfl (pva_cons (pv_ix (pv_name 0 (pv 0)) pv_int) pva_nil) (.cons .nil)) (pva_cons (pv_ix (pv_name 0 (pv 0)) pv_int) (pva_cons (pv_callO ih hr (by omega) rfl (pva_cons (pv_ix (pv_name 0 (pv 0)) pv_int) pva_nil) (.cons .nil)) pva_nil))) (.cons (.cons (.cons .nil)))) (pv_tup pva_nil .nil)))))
/-! ### skew -/
abbrev N_skew : List Str := ["part", "left", "top", "right", "rank"]
theorem sc_skew : FnScope N_skew ["part"] (defScope s_skew) := ⟨rfl, rfl, rfl, by decide +kernel, rfl, by decide +kernel, by decide +kernel⟩
def B_skew : FS :=
  (sSeq (sIf (fOr (o2 dEqE (fVar 0) (fTup a0)) (fOr (o2 dEqE (o2 dIdx (fVar 0) (fC (.int 0))) (fTup a0)) (o2 dNe (oA F_rank_of (ac (o2 dIdx (fVar 0) (fC (.int 0))) a0)) (oA F_rank_of (ac (fVar 0) a0))))) (sRet (fVar 0)) sNext)
  (sSeq (sAsg (gT (gsC (gN 1) (gsC (gN 2) (gsC (gN 3) (gsC (gN 4) gs0))))) (fVar 0))
  (sRet (fTup (ac (o2 dIdx (fVar 1) (fC (.int 0))) (ac (o2 dIdx (fVar 1) (fC (.int 1))) (ac (fTup (ac (o2 dIdx (fVar 1) (fC (.int 2))) (ac (fVar 2) (ac (fVar 3) (ac (fVar 4) a0))))) (ac (o2 dIdx (fVar 1) (fC (.int 3))) a0))))))))
def F_skew : List PyData → Option PyData := runF 5 B_skew
theorem ok_skew (T : Txt K mg) : Ok P w K mg base "skew" ["part"] 2 1 F_skew :=
  ok_mk (k := 1) T.skew sc_skew rfl (fun _ _ _ _ _ _ us hl => match us, hl with | [_], _ => rfl) (fun _ _ h => h) fun fa cdv A outer s H He Oa hr =>
      (show PBV _ He Oa (defBody s_skew) B_skew from (pbv_cons (psv_if (PW.pt (pvw_or (pvt_cmp (op_eqR hr.units) g_eqE (pv_name 0 (pv 0)) (pv_tup pva_nil .nil) (nomark _)) (pvw_or (pvt_cmp (op_eqR hr.units) g_eqE (pv_ix (pv_name 0 (pv 0)) pv_int) (pv_tup pva_nil .nil) (nomark _)) (pvw_one_or (pvt_cmp op_ne g_ne (pv_callO (ok_rank_of T) hr (by decide) rfl (pva_cons (pv_ix (pv_name 0 (pv 0)) pv_int) pva_nil) (.cons .nil)) (pv_callO (ok_rank_of T) hr (by decide) rfl (pva_cons (pv_name 0 (pv 0)) pva_nil) (.cons .nil)) (nomark _)))))) (pbv_one (psv_ret (pv_name 0 (pv 0)))) pbv_nil)
      (pbv_cons (psv_asg (pv_name 0 (pv 0)) (pgv_tup rfl (pgvs_cons (pgv_name (pg_name (i := 1) sc_skew.nd rfl (.inl rfl))) (pgvs_cons (pgv_name (pg_name (i := 2) sc_skew.nd rfl (.inl rfl))) (pgvs_cons (pgv_name (pg_name (i := 3) sc_skew.nd rfl (.inl rfl))) (pgvs_cons (pgv_name (pg_name (i := 4) sc_skew.nd rfl (.inl rfl))) pgvs_nil)))) (gsC_len (gsC_len (gsC_len (gsC_len gs0_len))))))
      (pbv_one (psv_ret (pv_tup (pva_cons (pv_ix (pv_name 1 (pv 1)) pv_int) (pva_cons (pv_ix (pv_name 1 (pv 1)) pv_int) (pva_cons (pv_tup (pva_cons (pv_ix (pv_name 1 (pv 1)) pv_int) (pva_cons (pv_name 2 (pv 2)) (pva_cons (pv_name 3 (pv 3)) (pva_cons (pv_name 4 (pv 4)) pva_nil)))) (.cons (.cons (.cons (.cons .nil))))) (pva_cons (pv_ix (pv_name 1 (pv 1)) pv_int) pva_nil)))) (.cons (.cons (.cons (.cons .nil))))))))))
/-! ### split -/
abbrev N_split : List Str := ["part", "left", "top", "right", "rank"]
theorem sc_split : FnScope N_split ["part"] (defScope s_split) := ⟨rfl, rfl, rfl, by decide +kernel, rfl, by decide +kernel, by decide +kernel⟩
def B_split : FS :=
  (sSeq (sIf (fOr (o2 dEqE (fVar 0) (fTup a0)) (fOr (o2 dEqE (o2 dIdx (fVar 0) (fC (.int 2))) (fTup a0)) (fOr (o2 dEqE (o2 dIdx (o2 dIdx (fVar 0) (fC (.int 2))) (fC (.int 2))) (fTup a0)) (o2 dNe (oA F_rank_of (ac (o2 dIdx (o2 dIdx (fVar 0) (fC (.int 2))) (fC (.int 2))) a0)) (oA F_rank_of (ac (fVar 0) a0)))))) (sRet (fVar 0)) sNext)
  (sSeq (sAsg (gT (gsC (gN 1) (gsC (gN 2) (gsC (gN 3) (gsC (gN 4) gs0))))) (fVar 0))
  (sRet (fTup (ac (fTup (ac (fVar 1) (ac (fVar 2) (ac (o2 dIdx (fVar 3) (fC (.int 0))) (ac (fVar 4) a0))))) (ac (o2 dIdx (fVar 3) (fC (.int 1))) (ac (o2 dIdx (fVar 3) (fC (.int 2))) (ac (o2 dAdd (o2 dIdx (fVar 3) (fC (.int 3))) (fC (.int 1))) a0))))))))
def F_split : List PyData → Option PyData := runF 5 B_split
theorem ok_split (T : Txt K mg) : Ok P w K mg base "split" ["part"] 2 1 F_split :=
  ok_mk (k := 1) T.split sc_split rfl (fun _ _ _ _ _ _ us hl => match us, hl with | [_], _ => rfl) (fun _ _ h => h) fun fa cdv A outer s H He Oa hr =>
      (show PBV _ He Oa (defBody s_split) B_split from (pbv_cons (psv_if (PW.pt (pvw_or (pvt_cmp (op_eqR hr.units) g_eqE (pv_name 0 (pv 0)) (pv_tup pva_nil .nil) (nomark _)) (pvw_or (pvt_cmp (op_eqR hr.units) g_eqE (pv_ix (pv_name 0 (pv 0)) pv_int) (pv_tup pva_nil .nil) (nomark _)) (pvw_or (pvt_cmp (op_eqR hr.units) g_eqE (pv_ix (pv_ix (pv_name 0 (pv 0)) pv_int) pv_int) (pv_tup pva_nil .nil) (nomark _)) (pvw_one_or (pvt_cmp op_ne g_ne (pv_callO (ok_rank_of T) hr (by decide) rfl (pva_cons (pv_ix (pv_ix (pv_name 0 (pv 0)) pv_int) pv_int) pva_nil) (.cons .nil)) (pv_callO (ok_rank_of T) hr (by decide) rfl (pva_cons (pv_name 0 (pv 0)) pva_nil) (.cons .nil)) (nomark _))))))) (pbv_one (psv_ret (pv_name 0 (pv 0)))) pbv_nil)
      (pbv_cons (psv_asg (pv_name 0 (pv 0)) (pgv_tup rfl (pgvs_cons (pgv_name (pg_name (i := 1) sc_split.nd rfl (.inl rfl))) (pgvs_cons (pgv_name (pg_name (i := 2) sc_split.nd rfl (.inl rfl))) (pgvs_cons (pgv_name (pg_name (i := 3) sc_split.nd rfl (.inl rfl))) (pgvs_cons (pgv_name (pg_name (i := 4) sc_split.nd rfl (.inl rfl))) pgvs_nil)))) (gsC_len (gsC_len (gsC_len (gsC_len gs0_len))))))
      (pbv_one (psv_ret (pv_tup (pva_cons (pv_tup (pva_cons (pv_name 1 (pv 1)) (pva_cons (pv_name 2 (pv 2)) (pva_cons (pv_ix (pv_name 3 (pv 3)) pv_int) (pva_cons (pv_name 4 (pv 4)) pva_nil)))) (.cons (.cons (.cons (.cons .nil))))) (pva_cons (pv_ix (pv_name 3 (pv 3)) pv_int) (pva_cons (pv_ix (pv_name 3 (pv 3)) pv_int) (pva_cons (pv_add (pv_ix (pv_name 3 (pv 3)) pv_int) pv_int) pva_nil)))) (.cons (.cons (.cons (.cons .nil))))))))))
/-! ### put_in -/
abbrev N_put_in : List Str := ["part", "key", "left", "top", "right", "rank"]
theorem sc_put_in : FnScope N_put_in ["part", "key"] (defScope s_put_in) := ⟨rfl, rfl, rfl, by decide +kernel, rfl, by decide +kernel, by decide +kernel⟩
def B_put_in (self : List PyData → Option PyData) : FS :=
  (sSeq (sIf (o2 dEqE (fVar 0) (fTup a0)) (sRet (fTup (ac (fTup a0) (ac (fVar 1) (ac (fTup a0) (ac (fC (.int 1)) a0)))))) sNext)
  (sSeq (sAsg (gT (gsC (gN 2) (gsC (gN 3) (gsC (gN 4) (gsC (gN 5) gs0))))) (fVar 0))
  (sSeq (sIf (o2 dLt (fVar 1) (fVar 3)) (sRet (oA F_split (ac (oA F_skew (ac (fTup (ac (oA self (ac (fVar 2) (ac (fVar 1) a0))) (ac (fVar 3) (ac (fVar 4) (ac (fVar 5) a0))))) a0)) a0))) sNext)
  (sRet (oA F_split (ac (oA F_skew (ac (fTup (ac (fVar 2) (ac (fVar 3) (ac (oA self (ac (fVar 4) (ac (fVar 1) a0))) (ac (fVar 5) a0))))) a0)) a0))))))
def F_put_in : Nat → List PyData → Option PyData
  | 0 => fun _ => none
  | k + 1 => runF 6 (B_put_in (F_put_in k))
theorem ok_put_in (T : Txt K mg) : ∀ j : Nat, Ok P w K mg base "put_in" ["part", "key"] (2 + j) 2 (F_put_in j) := by
  intro j
  induction j with
  | zero => exact ok_zero T.put_in rfl (fun _ _ _ _ _ _ us hl => match us, hl with | [_, _], _ => rfl) fun _ => rfl
  | succ j ih =>
    exact ok_mk (k := 2 + j) T.put_in sc_put_in rfl (fun _ _ _ _ _ _ us hl => match us, hl with | [_, _], _ => rfl) (fun _ _ h => h) fun fa cdv A outer s H He Oa hr =>
      (show PBV _ He Oa (defBody s_put_in) (B_put_in (F_put_in j)) from (pbv_cons (psv_if (pvt_cmp (op_eqR hr.units) g_eqE (pv_name 0 (pv 0)) (pv_tup pva_nil .nil) (nomark _)) (pbv_one (psv_ret (pv_tup (pva_cons (pv_tup pva_nil .nil) (pva_cons (pv_name 1 (pv 1)) (pva_cons (pv_tup pva_nil .nil) (pva_cons pv_int pva_nil)))) (.cons (.cons (.cons (.cons .nil))))))) pbv_nil)
      (pbv_cons (psv_asg (pv_name 0 (pv 0)) (pgv_tup rfl (pgvs_cons (pgv_name (pg_name (i := 2) sc_put_in.nd rfl (.inl rfl))) (pgvs_cons (pgv_name (pg_name (i := 3) sc_put_in.nd rfl (.inl rfl))) (pgvs_cons (pgv_name (pg_name (i := 4) sc_put_in.nd rfl (.inl rfl))) (pgvs_cons (pgv_name (pg_name (i := 5) sc_put_in.nd rfl (.inl rfl))) pgvs_nil)))) (gsC_len (gsC_len (gsC_len (gsC_len gs0_len))))))
      (pbv_cons (psv_if (pvt_cmp op_lt g_lt (pv_name 1 (pv 1)) (pv_name 3 (pv 3)) (nomark _)) (pbv_one (psv_ret (pv_callO (ok_split T) hr (by omega) rfl (pva_cons (pv_callO (ok_skew T) hr (by omega) rfl (pva_cons (pv_tup (pva_cons (pv_callO ih hr (by omega) rfl (pva_cons (pv_name 2 (pv 2)) (pva_cons (pv_name 1 (pv 1)) pva_nil)) (.cons (.cons .nil))) (pva_cons (pv_name 3 (pv 3)) (pva_cons (pv_name 4 (pv 4)) (pva_cons (pv_name 5 (pv 5)) pva_nil)))) (.cons (.cons (.cons (.cons .nil))))) pva_nil) (.cons .nil)) pva_nil) (.cons .nil)))) pbv_nil)
      (pbv_one (psv_ret (pv_callO (ok_split T) hr (by omega) rfl (pva_cons (pv_callO (ok_skew T) hr (by omega) rfl (pva_cons (pv_tup (pva_cons (pv_name 2 (pv 2)) (pva_cons (pv_name 3 (pv 3)) (pva_cons (pv_callO ih hr (by omega) rfl (pva_cons (pv_name 4 (pv 4)) (pva_cons (pv_name 1 (pv 1)) pva_nil)) (.cons (.cons .nil))) (pva_cons (pv_name 5 (pv 5)) pva_nil)))) (.cons (.cons (.cons (.cons .nil))))) pva_nil) (.cons .nil)) pva_nil) (.cons .nil))))))))
/-! ### with_right -/
abbrev N_with_right : List Str := ["part", "right"]
theorem sc_with_right : FnScope N_with_right ["part", "right"] (defScope s_with_right) := ⟨rfl, rfl, rfl, by decide +kernel, rfl, by decide +kernel, by decide +kernel⟩
def B_with_right : FS :=
  (sRet (fTup (ac (o2 dIdx (fVar 0) (fC (.int 0))) (ac (o2 dIdx (fVar 0) (fC (.int 1))) (ac (fVar 1) (ac (o2 dIdx (fVar 0) (fC (.int 3))) a0))))))
def F_with_right : List PyData → Option PyData := runF 2 B_with_right
theorem ok_with_right (T : Txt K mg) : Ok P w K mg base "with_right" ["part", "right"] 1 2 F_with_right :=
  ok_mk (k := 0) T.with_right sc_with_right rfl (fun _ _ _ _ _ _ us hl => match us, hl with | [_, _], _ => rfl) (fun _ _ h => h) fun fa cdv A outer s H He Oa hr =>
      (show PBV _ He Oa (defBody s_with_right) B_with_right from (pbv_one (psv_ret (pv_tup (pva_cons (pv_ix (pv_name 0 (pv 0)) pv_int) (pva_cons (pv_ix (pv_name 0 (pv 0)) pv_int) (pva_cons (pv_name 1 (pv 1)) (pva_cons (pv_ix (pv_name 0 (pv 0)) pv_int) pva_nil)))) (.cons (.cons (.cons (.cons .nil))))))))
/-! ### set_back -/
abbrev N_set_back : List Str := ["part", "left", "top", "right", "rank", "due"]
theorem sc_set_back : FnScope N_set_back ["part"] (defScope s_set_back) := ⟨rfl, rfl, rfl, by decide +kernel, rfl, by decide +kernel, by decide +kernel⟩
def B_set_back : FS :=
  (sSeq (sAsg (gT (gsC (gN 1) (gsC (gN 2) (gsC (gN 3) (gsC (gN 4) gs0))))) (fVar 0))
  (sSeq (sSet 5 (o2 dAdd (oA gMin (ac (oA F_rank_of (ac (fVar 1) a0)) (ac (oA F_rank_of (ac (fVar 3) a0)) a0))) (fC (.int 1))))
  (sSeq (sIf (o2 dLt (fVar 5) (fVar 4)) (sSeq (sSet 4 (fVar 5))
  (sIf (o2 dLt (fVar 5) (oA F_rank_of (ac (fVar 3) a0))) (sSet 3 (fTup (ac (o2 dIdx (fVar 3) (fC (.int 0))) (ac (o2 dIdx (fVar 3) (fC (.int 1))) (ac (o2 dIdx (fVar 3) (fC (.int 2))) (ac (fVar 5) a0)))))) sNext)) sNext)
  (sSeq (sSet 0 (oA F_skew (ac (fTup (ac (fVar 1) (ac (fVar 2) (ac (fVar 3) (ac (fVar 4) a0))))) a0)))
  (sSeq (sIf (o2 dNeE (o2 dIdx (fVar 0) (fC (.int 2))) (fTup a0)) (sSet 0 (oA F_with_right (ac (fVar 0) (ac (oA F_skew (ac (o2 dIdx (fVar 0) (fC (.int 2))) a0)) a0)))) sNext)
  (sSeq (sIf (fAnd (o2 dNeE (o2 dIdx (fVar 0) (fC (.int 2))) (fTup a0)) (o2 dNeE (o2 dIdx (o2 dIdx (fVar 0) (fC (.int 2))) (fC (.int 2))) (fTup a0))) (sSet 0 (oA F_with_right (ac (fVar 0) (ac (oA F_with_right (ac (o2 dIdx (fVar 0) (fC (.int 2))) (ac (oA F_skew (ac (o2 dIdx (o2 dIdx (fVar 0) (fC (.int 2))) (fC (.int 2))) a0)) a0))) a0)))) sNext)
  (sSeq (sSet 0 (oA F_split (ac (fVar 0) a0)))
  (sRet (fIf (o2 dNeE (o2 dIdx (fVar 0) (fC (.int 2))) (fTup a0)) (oA F_with_right (ac (fVar 0) (ac (oA F_split (ac (o2 dIdx (fVar 0) (fC (.int 2))) a0)) a0))) (fVar 0))))))))))
def F_set_back : List PyData → Option PyData := runF 6 B_set_back
theorem ok_set_back (T : Txt K mg) : Ok P w K mg base "set_back" ["part"] 3 1 F_set_back :=
  ok_mk (k := 2) T.set_back sc_set_back rfl (fun _ _ _ _ _ _ us hl => match us, hl with | [_], _ => rfl) (fun _ _ h => h) fun fa cdv A outer s H He Oa hr =>
      (show PBV _ He Oa (defBody s_set_back) B_set_back from (pbv_cons (psv_asg (pv_name 0 (pv 0)) (pgv_tup rfl (pgvs_cons (pgv_name (pg_name (i := 1) sc_set_back.nd rfl (.inl rfl))) (pgvs_cons (pgv_name (pg_name (i := 2) sc_set_back.nd rfl (.inl rfl))) (pgvs_cons (pgv_name (pg_name (i := 3) sc_set_back.nd rfl (.inl rfl))) (pgvs_cons (pgv_name (pg_name (i := 4) sc_set_back.nd rfl (.inl rfl))) pgvs_nil)))) (gsC_len (gsC_len (gsC_len (gsC_len gs0_len))))))
      (pbv_cons (psv_set (i := 5) (pv_add (pv_bi (call_min2 rfl) gv_min rfl T.bi.min (by decide +kernel) (pva_cons (pv_callO (ok_rank_of T) hr (by decide) rfl (pva_cons (pv_name 1 (pv 1)) pva_nil) (.cons .nil)) (pva_cons (pv_callO (ok_rank_of T) hr (by decide) rfl (pva_cons (pv_name 3 (pv 3)) pva_nil) (.cons .nil)) pva_nil))) pv_int) sc_set_back.nd rfl (.inl rfl))
      (pbv_cons (psv_if (pvt_cmp op_lt g_lt (pv_name 5 (pv 5)) (pv_name 4 (pv 4)) (nomark _)) (pbv_cons (psv_set (i := 4) (pv_name 5 (pv 5)) sc_set_back.nd rfl (.inl rfl))
      (pbv_one (psv_if (pvt_cmp op_lt g_lt (pv_name 5 (pv 5)) (pv_callO (ok_rank_of T) hr (by decide) rfl (pva_cons (pv_name 3 (pv 3)) pva_nil) (.cons .nil)) (nomark _)) (pbv_one (psv_set (i := 3) (pv_tup (pva_cons (pv_ix (pv_name 3 (pv 3)) pv_int) (pva_cons (pv_ix (pv_name 3 (pv 3)) pv_int) (pva_cons (pv_ix (pv_name 3 (pv 3)) pv_int) (pva_cons (pv_name 5 (pv 5)) pva_nil)))) (.cons (.cons (.cons (.cons .nil))))) sc_set_back.nd rfl (.inl rfl))) pbv_nil))) pbv_nil)
      (pbv_cons (psv_set (i := 0) (pv_callO (ok_skew T) hr (by decide) rfl (pva_cons (pv_tup (pva_cons (pv_name 1 (pv 1)) (pva_cons (pv_name 2 (pv 2)) (pva_cons (pv_name 3 (pv 3)) (pva_cons (pv_name 4 (pv 4)) pva_nil)))) (.cons (.cons (.cons (.cons .nil))))) pva_nil) (.cons .nil)) sc_set_back.nd rfl (.inl rfl))
      (pbv_cons (psv_if (pvt_cmp (op_neR hr.units) g_neE (pv_ix (pv_name 0 (pv 0)) pv_int) (pv_tup pva_nil .nil) (nomark _)) (pbv_one (psv_set (i := 0) (pv_callO (ok_with_right T) hr (by decide) rfl (pva_cons (pv_name 0 (pv 0)) (pva_cons (pv_callO (ok_skew T) hr (by decide) rfl (pva_cons (pv_ix (pv_name 0 (pv 0)) pv_int) pva_nil) (.cons .nil)) pva_nil)) (.cons (.cons .nil))) sc_set_back.nd rfl (.inl rfl))) pbv_nil)
      (pbv_cons (psv_if (PW.pt (pvw_and (pvt_cmp (op_neR hr.units) g_neE (pv_ix (pv_name 0 (pv 0)) pv_int) (pv_tup pva_nil .nil) (nomark _)) (pvw_one_and (pvt_cmp (op_neR hr.units) g_neE (pv_ix (pv_ix (pv_name 0 (pv 0)) pv_int) pv_int) (pv_tup pva_nil .nil) (nomark _))))) (pbv_one (psv_set (i := 0) (pv_callO (ok_with_right T) hr (by decide) rfl (pva_cons (pv_name 0 (pv 0)) (pva_cons (pv_callO (ok_with_right T) hr (by decide) rfl (pva_cons (pv_ix (pv_name 0 (pv 0)) pv_int) (pva_cons (pv_callO (ok_skew T) hr (by decide) rfl (pva_cons (pv_ix (pv_ix (pv_name 0 (pv 0)) pv_int) pv_int) pva_nil) (.cons .nil)) pva_nil)) (.cons (.cons .nil))) pva_nil)) (.cons (.cons .nil))) sc_set_back.nd rfl (.inl rfl))) pbv_nil)
      (pbv_cons (psv_set (i := 0) (pv_callO (ok_split T) hr (by decide) rfl (pva_cons (pv_name 0 (pv 0)) pva_nil) (.cons .nil)) sc_set_back.nd rfl (.inl rfl))
      (pbv_one (psv_ret (pv_ifExp (pvt_cmp (op_neR hr.units) g_neE (pv_ix (pv_name 0 (pv 0)) pv_int) (pv_tup pva_nil .nil) (nomark _)) (pv_callO (ok_with_right T) hr (by decide) rfl (pva_cons (pv_name 0 (pv 0)) (pva_cons (pv_callO (ok_split T) hr (by decide) rfl (pva_cons (pv_ix (pv_name 0 (pv 0)) pv_int) pva_nil) (.cons .nil)) pva_nil)) (.cons (.cons .nil))) (pv_name 0 (pv 0)))))))))))))
/-! ### take_out -/
abbrev N_take_out : List Str := ["part", "key", "left", "top", "right", "rank", "new"]
theorem sc_take_out : FnScope N_take_out ["part", "key"] (defScope s_take_out) := ⟨rfl, rfl, rfl, by decide +kernel, rfl, by decide +kernel, by decide +kernel⟩
def B_take_out (self : List PyData → Option PyData) : FS :=
  (sSeq (sAsg (gT (gsC (gN 2) (gsC (gN 3) (gsC (gN 4) (gsC (gN 5) gs0))))) (fVar 0))
  (sSeq (sIf (o2 dLt (fVar 1) (fVar 3)) (sRet (oA F_set_back (ac (fTup (ac (oA self (ac (fVar 2) (ac (fVar 1) a0))) (ac (fVar 3) (ac (fVar 4) (ac (fVar 5) a0))))) a0))) sNext)
  (sSeq (sIf (o2 dGt (fVar 1) (fVar 3)) (sRet (oA F_set_back (ac (fTup (ac (fVar 2) (ac (fVar 3) (ac (oA self (ac (fVar 4) (ac (fVar 1) a0))) (ac (fVar 5) a0))))) a0))) sNext)
  (sSeq (sIf (fAnd (o2 dEqE (fVar 2) (fTup a0)) (o2 dEqE (fVar 4) (fTup a0))) (sRet (fTup a0)) sNext)
  (sSeq (sIf (o2 dNeE (fVar 2) (fTup a0)) (sSeq (sSet 6 (oA (F_greatest 8) (ac (fVar 2) a0)))
  (sRet (oA F_set_back (ac (fTup (ac (oA self (ac (fVar 2) (ac (fVar 6) a0))) (ac (fVar 6) (ac (fVar 4) (ac (fVar 5) a0))))) a0)))) sNext)
  (sSeq (sSet 6 (oA (F_least 8) (ac (fVar 4) a0)))
  (sRet (oA F_set_back (ac (fTup (ac (fVar 2) (ac (fVar 6) (ac (oA self (ac (fVar 4) (ac (fVar 6) a0))) (ac (fVar 5) a0))))) a0)))))))))
def F_take_out : Nat → List PyData → Option PyData
  | 0 => fun _ => none
  | k + 1 => runF 7 (B_take_out (F_take_out k))
theorem ok_take_out (T : Txt K mg) : ∀ j : Nat, Ok P w K mg base "take_out" ["part", "key"] (8 + j) 2 (F_take_out j) := by
  intro j
  induction j with
  | zero => exact ok_zero T.take_out rfl (fun _ _ _ _ _ _ us hl => match us, hl with | [_, _], _ => rfl) fun _ => rfl
  | succ j ih =>
    exact ok_mk (k := 8 + j) T.take_out sc_take_out rfl (fun _ _ _ _ _ _ us hl => match us, hl with | [_, _], _ => rfl) (fun _ _ h => h) fun fa cdv A outer s H He Oa hr =>
      (show PBV _ He Oa (defBody s_take_out) (B_take_out (F_take_out j)) from (pbv_cons (psv_asg (pv_name 0 (pv 0)) (pgv_tup rfl (pgvs_cons (pgv_name (pg_name (i := 2) sc_take_out.nd rfl (.inl rfl))) (pgvs_cons (pgv_name (pg_name (i := 3) sc_take_out.nd rfl (.inl rfl))) (pgvs_cons (pgv_name (pg_name (i := 4) sc_take_out.nd rfl (.inl rfl))) (pgvs_cons (pgv_name (pg_name (i := 5) sc_take_out.nd rfl (.inl rfl))) pgvs_nil)))) (gsC_len (gsC_len (gsC_len (gsC_len gs0_len))))))
      (pbv_cons (psv_if (pvt_cmp op_lt g_lt (pv_name 1 (pv 1)) (pv_name 3 (pv 3)) (nomark _)) (pbv_one (psv_ret (pv_callO (ok_set_back T) hr (by omega) rfl (pva_cons (pv_tup (pva_cons (pv_callO ih hr (by omega) rfl (pva_cons (pv_name 2 (pv 2)) (pva_cons (pv_name 1 (pv 1)) pva_nil)) (.cons (.cons .nil))) (pva_cons (pv_name 3 (pv 3)) (pva_cons (pv_name 4 (pv 4)) (pva_cons (pv_name 5 (pv 5)) pva_nil)))) (.cons (.cons (.cons (.cons .nil))))) pva_nil) (.cons .nil)))) pbv_nil)
      (pbv_cons (psv_if (pvt_cmp op_gt g_gt (pv_name 1 (pv 1)) (pv_name 3 (pv 3)) (nomark _)) (pbv_one (psv_ret (pv_callO (ok_set_back T) hr (by omega) rfl (pva_cons (pv_tup (pva_cons (pv_name 2 (pv 2)) (pva_cons (pv_name 3 (pv 3)) (pva_cons (pv_callO ih hr (by omega) rfl (pva_cons (pv_name 4 (pv 4)) (pva_cons (pv_name 1 (pv 1)) pva_nil)) (.cons (.cons .nil))) (pva_cons (pv_name 5 (pv 5)) pva_nil)))) (.cons (.cons (.cons (.cons .nil))))) pva_nil) (.cons .nil)))) pbv_nil)
      (pbv_cons (psv_if (PW.pt (pvw_and (pvt_cmp (op_eqR hr.units) g_eqE (pv_name 2 (pv 2)) (pv_tup pva_nil .nil) (nomark _)) (pvw_one_and (pvt_cmp (op_eqR hr.units) g_eqE (pv_name 4 (pv 4)) (pv_tup pva_nil .nil) (nomark _))))) (pbv_one (psv_ret (pv_tup pva_nil .nil))) pbv_nil)
      (pbv_cons (psv_if (pvt_cmp (op_neR hr.units) g_neE (pv_name 2 (pv 2)) (pv_tup pva_nil .nil) (nomark _)) (pbv_cons (psv_set (i := 6) (pv_callO (ok_greatest T 8) hr (by omega) rfl (pva_cons (pv_name 2 (pv 2)) pva_nil) (.cons .nil)) sc_take_out.nd rfl (.inl rfl))
      (pbv_one (psv_ret (pv_callO (ok_set_back T) hr (by omega) rfl (pva_cons (pv_tup (pva_cons (pv_callO ih hr (by omega) rfl (pva_cons (pv_name 2 (pv 2)) (pva_cons (pv_name 6 (pv 6)) pva_nil)) (.cons (.cons .nil))) (pva_cons (pv_name 6 (pv 6)) (pva_cons (pv_name 4 (pv 4)) (pva_cons (pv_name 5 (pv 5)) pva_nil)))) (.cons (.cons (.cons (.cons .nil))))) pva_nil) (.cons .nil))))) pbv_nil)
      (pbv_cons (psv_set (i := 6) (pv_callO (ok_least T 8) hr (by omega) rfl (pva_cons (pv_name 4 (pv 4)) pva_nil) (.cons .nil)) sc_take_out.nd rfl (.inl rfl))
      (pbv_one (psv_ret (pv_callO (ok_set_back T) hr (by omega) rfl (pva_cons (pv_tup (pva_cons (pv_name 2 (pv 2)) (pva_cons (pv_name 6 (pv 6)) (pva_cons (pv_callO ih hr (by omega) rfl (pva_cons (pv_name 4 (pv 4)) (pva_cons (pv_name 6 (pv 6)) pva_nil)) (.cons (.cons .nil))) (pva_cons (pv_name 5 (pv 5)) pva_nil)))) (.cons (.cons (.cons (.cons .nil))))) pva_nil) (.cons .nil)))))))))))
end
end L3

namespace L3
open PySem PySem.Spec PyProof.Rows L2
section
variable {P : Program} {w : World} {K : PySem.W.Frag} {mg : Str → Option Value} {base : Heap}
/-! ### is_rule -/
abbrev N_is_rule : List Str := ["candidate", "key"]
theorem sc_is_rule : FnScope N_is_rule ["candidate"] (defScope s_is_rule) := ⟨rfl, rfl, rfl, by decide +kernel, rfl, by decide +kernel, by decide +kernel⟩
def B_is_rule : FS :=
  (sSeq (sIf (fOr (o1 dNot (o1 (gIsi "tuple") (fVar 0))) (fOr (o2 dEqE (fVar 0) (fTup a0)) (o1 dNot (o1 (gIsi "str") (o2 dIdx (fVar 0) (fC (.int 0))))))) (sRet (fC (.bool false))) sNext)
  (sSeq (sIf (o2 dIn (o2 dIdx (fVar 0) (fC (.int 0))) (fC famD)) (sRet (o2 dEq (oA gLen (ac (fVar 0) a0)) (fC (.int 1)))) sNext)
  (sSeq (sIf (fOr (o2 dNe (o2 dIdx (fVar 0) (fC (.int 0))) (fC (.str "ranks"))) (fOr (o2 dNe (oA gLen (ac (fVar 0) a0)) (fC (.int 2))) (o1 dNot (o1 (gIsi "tuple") (o2 dIdx (fVar 0) (fC (.int 1))))))) (sRet (fC (.bool false))) sNext)
  (sSeq (sIf (o1 dNot (oA gAll (ac (fComp [1] (iT (o2 dIdx (fVar 0) (fC (.int 1)))) (gN 1) (fC (.bool true)) (oA F_is_number (ac (fVar 1) (ac (fC (.int 1)) (ac (fC (.int 6)) a0))))) a0))) (sRet (fC (.bool false))) sNext)
  (sRet (o2 dEqD (oA gSortT (ac (o2 dIdx (fVar 0) (fC (.int 1))) a0)) (o2 dRange (fC (.int 1)) (o2 dAdd (fC (.int 6)) (fC (.int 1))))))))))
def F_is_rule : List PyData → Option PyData := runF 2 B_is_rule
theorem ok_is_rule (T : Txt K mg) : Ok P w K mg base "is_rule" ["candidate"] 2 1 F_is_rule :=
  ok_mk (k := 1) T.is_rule sc_is_rule rfl (fun _ _ _ _ _ _ us hl => match us, hl with | [_], _ => rfl) (fun _ _ h => h) fun fa cdv A outer s H He Oa hr =>
      (show PBV _ He Oa (defBody s_is_rule) B_is_rule from (pbv_cons (psv_if (PW.pt (pvw_or (pvt_not (pvt_val (pv_isi (T := "tuple") (pv_name 0 (pv 0)) rfl T.bi.isinstance (by decide +kernel) rfl T.bi.tuple (by decide +kernel)))) (pvw_or (pvt_cmp (op_eqR hr.units) g_eqE (pv_name 0 (pv 0)) (pv_tup pva_nil .nil) (nomark _)) (pvw_one_or (pvt_not (pvt_val (pv_isi (T := "str") (pv_ix (pv_name 0 (pv 0)) pv_int) rfl T.bi.isinstance (by decide +kernel) rfl T.bi.str (by decide +kernel)))))))) (pbv_one (psv_ret pv_bl)) pbv_nil)
      (pbv_cons (psv_if (pvt_cmp op_in_seq g_in (pv_ix (pv_name 0 (pv 0)) pv_int) (pv_FAMILY T.bi rfl) (by rfl)) (pbv_one (psv_ret (pv_cmp op_eq g_eq (pv_bi call_len_seq gv_len rfl T.bi.len boot_len (pva_cons (pv_name 0 (pv 0)) pva_nil)) pv_int (nomark _)))) pbv_nil)
      (pbv_cons (psv_if (PW.pt (pvw_or (pvt_cmp op_ne g_ne (pv_ix (pv_name 0 (pv 0)) pv_int) pv_str (nomark _)) (pvw_or (pvt_cmp op_ne g_ne (pv_bi call_len_seq gv_len rfl T.bi.len boot_len (pva_cons (pv_name 0 (pv 0)) pva_nil)) pv_int (nomark _)) (pvw_one_or (pvt_not (pvt_val (pv_isi (T := "tuple") (pv_ix (pv_name 0 (pv 0)) pv_int) rfl T.bi.isinstance (by decide +kernel) rfl T.bi.tuple (by decide +kernel)))))))) (pbv_one (psv_ret pv_bl)) pbv_nil)
      (pbv_cons (psv_if (pvt_not (pvt_val (pv_bi (cr_all rfl) gv_all rfl T.bi.all (by decide +kernel) (pva_cons (pv_comp (own := [("key", 1)]) rfl sc_is_rule.nd (piv_tup (pv_ix (pv_name 0 (pv 0)) pv_int)) (blkOk_by (own := [("key", 1)]) (N := N_is_rule) (sc := defScope s_is_rule) (by decide +kernel)) (fun _ _ _ _ _ => (pgv_name (pg_name (i := 1) sc_is_rule.nd rfl (.inl rfl)))) (fun _ _ _ _ _ => ptv_nil) (fun _ _ _ _ _ => (pv_callO (ok_is_number T) hr (by decide) rfl (pva_cons (pv_name 1 (pv 1)) (pva_cons pv_int (pva_cons (pv_MOST T.bi rfl) pva_nil))) (.cons (.cons (.cons .nil))))) (by decide)) pva_nil)))) (pbv_one (psv_ret pv_bl)) pbv_nil)
      (pbv_one (psv_ret (pv_cmp (op_eqD hr.units) g_eqD (pv_bi cr_sortT gv_sortT rfl T.bi.sorted (by decide +kernel) (pva_cons (pv_ix (pv_name 0 (pv 0)) pv_int) pva_nil)) (pv_listRg rfl rfl T.bi.list rfl T.bi.range pv_int (pv_add (pv_MOST T.bi rfl) pv_int)) (nomark _)))))))))
/-! ### need_rule -/
abbrev N_need_rule : List Str := ["value"]
theorem sc_need_rule : FnScope N_need_rule ["value"] (defScope s_need_rule) := ⟨rfl, rfl, rfl, by decide +kernel, rfl, by decide +kernel, by decide +kernel⟩
def B_need_rule : FS :=
  (sIf (o1 dNot (oA F_is_rule (ac (fVar 0) a0))) sFail sNext)
def F_need_rule : List PyData → Option PyData := runF 1 B_need_rule
theorem ok_need_rule (T : Txt K mg) : Ok P w K mg base "need_rule" ["value"] 3 1 F_need_rule :=
  ok_mk (k := 2) T.need_rule sc_need_rule rfl (fun _ _ _ _ _ _ us hl => match us, hl with | [_], _ => rfl) (fun _ _ h => h) fun fa cdv A outer s H He Oa hr =>
      (show PBV _ He Oa (defBody s_need_rule) B_need_rule from (pbv_one (psv_if (pvt_not (pvt_val (pv_callO (ok_is_rule T) hr (by decide) rfl (pva_cons (pv_name 0 (pv 0)) pva_nil) (.cons .nil)))) (pbv_one psv_fail) pbv_nil)))
/-! ### by_order -/
abbrev N_by_order : List Str := ["keys", "order", "top", "key"]
theorem sc_by_order : FnScope N_by_order ["keys", "order"] (defScope s_by_order) := ⟨rfl, rfl, rfl, by decide +kernel, rfl, by decide +kernel, by decide +kernel⟩
def B_by_order (self : List PyData → Option PyData) : FS :=
  (sSeq (sIf (o2 dEqE (fVar 0) (fLst a0)) (sRet (fTup a0)) sNext)
  (sSeq (sSet 2 (o2 dIdx (fComp [3] (iT (fVar 1)) (gN 3) (o2 dIn (fVar 3) (fVar 0)) (fVar 3)) (fC (.int 0))))
  (sRet (fTup (ac (oA self (ac (fComp [3] (iL (fVar 0)) (gN 3) (o2 dLt (fVar 3) (fVar 2)) (fVar 3)) (ac (fVar 1) a0))) (ac (fVar 2) (ac (oA self (ac (fComp [3] (iL (fVar 0)) (gN 3) (o2 dGt (fVar 3) (fVar 2)) (fVar 3)) (ac (fVar 1) a0))) a0)))))))
def F_by_order : Nat → List PyData → Option PyData
  | 0 => fun _ => none
  | k + 1 => runF 4 (B_by_order (F_by_order k))
theorem ok_by_order (T : Txt K mg) : ∀ j : Nat, Ok P w K mg base "by_order" ["keys", "order"] (0 + j) 2 (F_by_order j) := by
  intro j
  induction j with
  | zero => exact ok_zero T.by_order rfl (fun _ _ _ _ _ _ us hl => match us, hl with | [_, _], _ => rfl) fun _ => rfl
  | succ j ih =>
    exact ok_mk (k := 0 + j) T.by_order sc_by_order rfl (fun _ _ _ _ _ _ us hl => match us, hl with | [_, _], _ => rfl) (fun _ _ h => h) fun fa cdv A outer s H He Oa hr =>
      (show PBV _ He Oa (defBody s_by_order) (B_by_order (F_by_order j)) from (pbv_cons (psv_if (pvt_cmp (op_eqR hr.units) g_eqE (pv_name 0 (pv 0)) (pv_lst pva_nil .nil) (nomark _)) (pbv_one (psv_ret (pv_tup pva_nil .nil))) pbv_nil)
      (pbv_cons (psv_set (i := 2) (pv_ix (pv_comp (own := [("key", 3)]) rfl sc_by_order.nd (piv_tup (pv_name 1 (pv 1))) (blkOk_by (own := [("key", 3)]) (N := N_by_order) (sc := defScope s_by_order) (by decide +kernel)) (fun _ _ _ _ _ => (pgv_name (pg_name (i := 3) sc_by_order.nd rfl (.inl rfl)))) (fun _ _ _ _ _ => (ptv_one (pvt_cmp op_in_seq g_in (pv_name 3 (pv 3)) (pv_name 0 (pv 0)) (by rfl)))) (fun _ _ _ _ _ => (pv_name 3 (pv 3))) (by decide)) pv_int) sc_by_order.nd rfl (.inr rfl))
      (pbv_one (psv_ret (pv_tup (pva_cons (pv_callO ih hr (by omega) rfl (pva_cons (pv_comp (own := [("key", 3)]) rfl sc_by_order.nd (piv_list (pv_name 0 (pv 0))) (blkOk_by (own := [("key", 3)]) (N := N_by_order) (sc := defScope s_by_order) (by decide +kernel)) (fun _ _ _ _ _ => (pgv_name (pg_name (i := 3) sc_by_order.nd rfl (.inl rfl)))) (fun _ _ _ _ _ => (ptv_one (pvt_cmp op_lt g_lt (pv_name 3 (pv 3)) (pv_name 2 (pv 2)) (nomark _)))) (fun _ _ _ _ _ => (pv_name 3 (pv 3))) (by decide)) (pva_cons (pv_name 1 (pv 1)) pva_nil)) (.cons (.cons .nil))) (pva_cons (pv_name 2 (pv 2)) (pva_cons (pv_callO ih hr (by omega) rfl (pva_cons (pv_comp (own := [("key", 3)]) rfl sc_by_order.nd (piv_list (pv_name 0 (pv 0))) (blkOk_by (own := [("key", 3)]) (N := N_by_order) (sc := defScope s_by_order) (by decide +kernel)) (fun _ _ _ _ _ => (pgv_name (pg_name (i := 3) sc_by_order.nd rfl (.inl rfl)))) (fun _ _ _ _ _ => (ptv_one (pvt_cmp op_gt g_gt (pv_name 3 (pv 3)) (pv_name 2 (pv 2)) (nomark _)))) (fun _ _ _ _ _ => (pv_name 3 (pv 3))) (by decide)) (pva_cons (pv_name 1 (pv 1)) pva_nil)) (.cons (.cons .nil))) pva_nil))) (.cons (.cons (.cons .nil)))))))))
/-! ### moved -/
abbrev N_moved : List Str := ["rule", "shape", "key"]
theorem sc_moved : FnScope N_moved ["rule", "shape", "key"] (defScope s_moved) := ⟨rfl, rfl, rfl, by decide +kernel, rfl, by decide +kernel, by decide +kernel⟩
def B_moved : FS :=
  (sSeq (sIf (o2 dEq (o2 dIdx (fVar 0) (fC (.int 0))) (fC (.str "once"))) (sRet (oA F_once_up (ac (fVar 1) (ac (fVar 2) a0)))) sNext)
  (sSeq (sIf (o2 dEq (o2 dIdx (fVar 0) (fC (.int 0))) (fC (.str "top"))) (sRet (oA F_to_top (ac (fVar 1) (ac (fVar 2) a0)))) sNext)
  (sRet (fIf (o2 dEq (o2 dIdx (fVar 0) (fC (.int 0))) (fC (.str "splayed"))) (oA F_splayed (ac (fVar 1) (ac (fVar 2) a0))) (fVar 1)))))
def F_moved : List PyData → Option PyData := runF 3 B_moved
theorem ok_moved (T : Txt K mg) : Ok P w K mg base "moved" ["rule", "shape", "key"] 12 3 F_moved :=
  ok_mk (k := 11) T.moved sc_moved rfl (fun _ _ _ _ _ _ us hl => match us, hl with | [_, _, _], _ => rfl) (fun _ _ h => h) fun fa cdv A outer s H He Oa hr =>
      (show PBV _ He Oa (defBody s_moved) B_moved from (pbv_cons (psv_if (pvt_cmp op_eq g_eq (pv_ix (pv_name 0 (pv 0)) pv_int) pv_str (nomark _)) (pbv_one (psv_ret (pv_callO (ok_once_up T) hr (by decide) rfl (pva_cons (pv_name 1 (pv 1)) (pva_cons (pv_name 2 (pv 2)) pva_nil)) (.cons (.cons .nil))))) pbv_nil)
      (pbv_cons (psv_if (pvt_cmp op_eq g_eq (pv_ix (pv_name 0 (pv 0)) pv_int) pv_str (nomark _)) (pbv_one (psv_ret (pv_callO (ok_to_top T) hr (by decide) rfl (pva_cons (pv_name 1 (pv 1)) (pva_cons (pv_name 2 (pv 2)) pva_nil)) (.cons (.cons .nil))))) pbv_nil)
      (pbv_one (psv_ret (pv_ifExp (pvt_cmp op_eq g_eq (pv_ix (pv_name 0 (pv 0)) pv_int) pv_str (nomark _)) (pv_callO (ok_splayed T) hr (by decide) rfl (pva_cons (pv_name 1 (pv 1)) (pva_cons (pv_name 2 (pv 2)) pva_nil)) (.cons (.cons .nil))) (pv_name 1 (pv 1))))))))
/-! ### with_key -/
abbrev N_with_key : List Str := ["rule", "shape", "key"]
theorem sc_with_key : FnScope N_with_key ["rule", "shape", "key"] (defScope s_with_key) := ⟨rfl, rfl, rfl, by decide +kernel, rfl, by decide +kernel, by decide +kernel⟩
def B_with_key : FS :=
  (sSeq (sIf (o2 dIn (o2 dIdx (fVar 0) (fC (.int 0))) (fTup (ac (fC (.str "heights")) (ac (fC (.str "weights")) a0)))) (sRet (oA (F_put_right 8) (ac (o2 dIdx (fVar 0) (fC (.int 0))) (ac (fVar 1) (ac (fVar 2) a0))))) sNext)
  (sSeq (sIf (o2 dEq (o2 dIdx (fVar 0) (fC (.int 0))) (fC (.str "levels"))) (sRet (oA (F_bare 8) (ac (oA (F_put_in 8) (ac (oA (F_ranked 8) (ac (fVar 1) a0)) (ac (fVar 2) a0))) a0))) sNext)
  (sSeq (sIf (o2 dEq (o2 dIdx (fVar 0) (fC (.int 0))) (fC (.str "rebuilt"))) (sRet (oA F_put_rebuilt (ac (fVar 1) (ac (fVar 2) a0)))) sNext)
  (sSeq (sIf (o2 dEq (o2 dIdx (fVar 0) (fC (.int 0))) (fC (.str "ranks"))) (sRet (oA (F_by_order 8) (ac (o2 dAdd (oA (F_keys_of 8) (ac (fVar 1) a0)) (fLst (ac (fVar 2) a0))) (ac (o2 dIdx (fVar 0) (fC (.int 1))) a0)))) sNext)
  (sRet (oA F_moved (ac (fVar 0) (ac (oA (F_with_leaf 8) (ac (fVar 1) (ac (fVar 2) a0))) (ac (fVar 2) a0)))))))))
def F_with_key : List PyData → Option PyData := runF 3 B_with_key
theorem ok_with_key (T : Txt K mg) : Ok P w K mg base "with_key" ["rule", "shape", "key"] 20 3 F_with_key :=
  ok_mk (k := 19) T.with_key sc_with_key rfl (fun _ _ _ _ _ _ us hl => match us, hl with | [_, _, _], _ => rfl) (fun _ _ h => h) fun fa cdv A outer s H He Oa hr =>
      (show PBV _ He Oa (defBody s_with_key) B_with_key from (pbv_cons (psv_if (pvt_cmp op_in_seq g_in (pv_ix (pv_name 0 (pv 0)) pv_int) (pv_tup (pva_cons pv_str (pva_cons pv_str pva_nil)) (.cons (.cons .nil))) (by rfl)) (pbv_one (psv_ret (pv_callO (ok_put_right T 8) hr (by decide) rfl (pva_cons (pv_ix (pv_name 0 (pv 0)) pv_int) (pva_cons (pv_name 1 (pv 1)) (pva_cons (pv_name 2 (pv 2)) pva_nil))) (.cons (.cons (.cons .nil)))))) pbv_nil)
      (pbv_cons (psv_if (pvt_cmp op_eq g_eq (pv_ix (pv_name 0 (pv 0)) pv_int) pv_str (nomark _)) (pbv_one (psv_ret (pv_callO (ok_bare T 8) hr (by decide) rfl (pva_cons (pv_callO (ok_put_in T 8) hr (by decide) rfl (pva_cons (pv_callO (ok_ranked T 8) hr (by decide) rfl (pva_cons (pv_name 1 (pv 1)) pva_nil) (.cons .nil)) (pva_cons (pv_name 2 (pv 2)) pva_nil)) (.cons (.cons .nil))) pva_nil) (.cons .nil)))) pbv_nil)
      (pbv_cons (psv_if (pvt_cmp op_eq g_eq (pv_ix (pv_name 0 (pv 0)) pv_int) pv_str (nomark _)) (pbv_one (psv_ret (pv_callO (ok_put_rebuilt T) hr (by decide) rfl (pva_cons (pv_name 1 (pv 1)) (pva_cons (pv_name 2 (pv 2)) pva_nil)) (.cons (.cons .nil))))) pbv_nil)
      (pbv_cons (psv_if (pvt_cmp op_eq g_eq (pv_ix (pv_name 0 (pv 0)) pv_int) pv_str (nomark _)) (pbv_one (psv_ret (pv_callO (ok_by_order T 8) hr (by decide) rfl (pva_cons (pv_add (pv_callO (ok_keys_of T 8) hr (by decide) rfl (pva_cons (pv_name 1 (pv 1)) pva_nil) (.cons .nil)) (pv_lst (pva_cons (pv_name 2 (pv 2)) pva_nil) (.cons .nil))) (pva_cons (pv_ix (pv_name 0 (pv 0)) pv_int) pva_nil)) (.cons (.cons .nil))))) pbv_nil)
      (pbv_one (psv_ret (pv_callO (ok_moved T) hr (by decide) rfl (pva_cons (pv_name 0 (pv 0)) (pva_cons (pv_callO (ok_with_leaf T 8) hr (by decide) rfl (pva_cons (pv_name 1 (pv 1)) (pva_cons (pv_name 2 (pv 2)) pva_nil)) (.cons (.cons .nil))) (pva_cons (pv_name 2 (pv 2)) pva_nil))) (.cons (.cons (.cons .nil)))))))))))
/-! ### without_key -/
abbrev N_without_key : List Str := ["rule", "shape", "key", "one"]
theorem sc_without_key : FnScope N_without_key ["rule", "shape", "key"] (defScope s_without_key) := ⟨rfl, rfl, rfl, by decide +kernel, rfl, by decide +kernel, by decide +kernel⟩
def B_without_key : FS :=
  (sSeq (sIf (o2 dIn (o2 dIdx (fVar 0) (fC (.int 0))) (fTup (ac (fC (.str "heights")) (ac (fC (.str "weights")) a0)))) (sRet (oA (F_take_right 8) (ac (o2 dIdx (fVar 0) (fC (.int 0))) (ac (fVar 1) (ac (fVar 2) a0))))) sNext)
  (sSeq (sIf (o2 dEq (o2 dIdx (fVar 0) (fC (.int 0))) (fC (.str "levels"))) (sRet (oA (F_bare 8) (ac (oA (F_take_out 8) (ac (oA (F_ranked 8) (ac (fVar 1) a0)) (ac (fVar 2) a0))) a0))) sNext)
  (sSeq (sIf (o2 dEq (o2 dIdx (fVar 0) (fC (.int 0))) (fC (.str "rebuilt"))) (sRet (oA F_take_rebuilt (ac (fVar 1) (ac (fVar 2) a0)))) sNext)
  (sSeq (sIf (o2 dEq (o2 dIdx (fVar 0) (fC (.int 0))) (fC (.str "ranks"))) (sRet (oA (F_by_order 8) (ac (fComp [3] (iL (oA (F_keys_of 8) (ac (fVar 1) a0))) (gN 3) (o2 dNe (fVar 3) (fVar 2)) (fVar 3)) (ac (o2 dIdx (fVar 0) (fC (.int 1))) a0)))) sNext)
  (sRet (fIf (o2 dEq (o2 dIdx (fVar 0) (fC (.int 0))) (fC (.str "splayed"))) (oA F_without_splayed (ac (fVar 1) (ac (fVar 2) a0))) (oA (F_without 8) (ac (fVar 1) (ac (fVar 2) a0)))))))))
def F_without_key : List PyData → Option PyData := runF 4 B_without_key
theorem ok_without_key (T : Txt K mg) : Ok P w K mg base "without_key" ["rule", "shape", "key"] 20 3 F_without_key :=
  ok_mk (k := 19) T.without_key sc_without_key rfl (fun _ _ _ _ _ _ us hl => match us, hl with | [_, _, _], _ => rfl) (fun _ _ h => h) fun fa cdv A outer s H He Oa hr =>
      (show PBV _ He Oa (defBody s_without_key) B_without_key from (pbv_cons (psv_if (pvt_cmp op_in_seq g_in (pv_ix (pv_name 0 (pv 0)) pv_int) (pv_tup (pva_cons pv_str (pva_cons pv_str pva_nil)) (.cons (.cons .nil))) (by rfl)) (pbv_one (psv_ret (pv_callO (ok_take_right T 8) hr (by decide) rfl (pva_cons (pv_ix (pv_name 0 (pv 0)) pv_int) (pva_cons (pv_name 1 (pv 1)) (pva_cons (pv_name 2 (pv 2)) pva_nil))) (.cons (.cons (.cons .nil)))))) pbv_nil)
      (pbv_cons (psv_if (pvt_cmp op_eq g_eq (pv_ix (pv_name 0 (pv 0)) pv_int) pv_str (nomark _)) (pbv_one (psv_ret (pv_callO (ok_bare T 8) hr (by decide) rfl (pva_cons (pv_callO (ok_take_out T 8) hr (by decide) rfl (pva_cons (pv_callO (ok_ranked T 8) hr (by decide) rfl (pva_cons (pv_name 1 (pv 1)) pva_nil) (.cons .nil)) (pva_cons (pv_name 2 (pv 2)) pva_nil)) (.cons (.cons .nil))) pva_nil) (.cons .nil)))) pbv_nil)
      (pbv_cons (psv_if (pvt_cmp op_eq g_eq (pv_ix (pv_name 0 (pv 0)) pv_int) pv_str (nomark _)) (pbv_one (psv_ret (pv_callO (ok_take_rebuilt T) hr (by decide) rfl (pva_cons (pv_name 1 (pv 1)) (pva_cons (pv_name 2 (pv 2)) pva_nil)) (.cons (.cons .nil))))) pbv_nil)
      (pbv_cons (psv_if (pvt_cmp op_eq g_eq (pv_ix (pv_name 0 (pv 0)) pv_int) pv_str (nomark _)) (pbv_one (psv_ret (pv_callO (ok_by_order T 8) hr (by decide) rfl (pva_cons (pv_comp (own := [("one", 3)]) rfl sc_without_key.nd (piv_list (pv_callO (ok_keys_of T 8) hr (by decide) rfl (pva_cons (pv_name 1 (pv 1)) pva_nil) (.cons .nil))) (blkOk_by (own := [("one", 3)]) (N := N_without_key) (sc := defScope s_without_key) (by decide +kernel)) (fun _ _ _ _ _ => (pgv_name (pg_name (i := 3) sc_without_key.nd rfl (.inl rfl)))) (fun _ _ _ _ _ => (ptv_one (pvt_cmp op_ne g_ne (pv_name 3 (pv 3)) (pv_name 2 (pv 2)) (nomark _)))) (fun _ _ _ _ _ => (pv_name 3 (pv 3))) (by decide)) (pva_cons (pv_ix (pv_name 0 (pv 0)) pv_int) pva_nil)) (.cons (.cons .nil))))) pbv_nil)
      (pbv_one (psv_ret (pv_ifExp (pvt_cmp op_eq g_eq (pv_ix (pv_name 0 (pv 0)) pv_int) pv_str (nomark _)) (pv_callO (ok_without_splayed T) hr (by decide) rfl (pva_cons (pv_name 1 (pv 1)) (pva_cons (pv_name 2 (pv 2)) pva_nil)) (.cons (.cons .nil))) (pv_callO (ok_without T 8) hr (by decide) rfl (pva_cons (pv_name 1 (pv 1)) (pva_cons (pv_name 2 (pv 2)) pva_nil)) (.cons (.cons .nil)))))))))))
/-! ### behind -/
abbrev N_behind : List Str := ["rule", "shape", "deed"]
theorem sc_behind : FnScope N_behind ["rule", "shape", "deed"] (defScope s_behind) := ⟨rfl, rfl, rfl, by decide +kernel, rfl, by decide +kernel, by decide +kernel⟩
def B_behind : FS :=
  (sSeq (sIf (o2 dEq (o2 dIdx (fVar 2) (fC (.int 0))) (fC (.str "ask"))) (sRet (oA F_moved (ac (fVar 0) (ac (fVar 1) (ac (o2 dIdx (fVar 2) (fC (.int 1))) a0))))) sNext)
  (sRet (fIf (o2 dEq (o2 dIdx (fVar 2) (fC (.int 0))) (fC (.str "in"))) (oA F_with_key (ac (fVar 0) (ac (fVar 1) (ac (o2 dIdx (fVar 2) (fC (.int 1))) a0)))) (oA F_without_key (ac (fVar 0) (ac (fVar 1) (ac (o2 dIdx (fVar 2) (fC (.int 1))) a0)))))))
def F_behind : List PyData → Option PyData := runF 3 B_behind
theorem ok_behind (T : Txt K mg) : Ok P w K mg base "behind" ["rule", "shape", "deed"] 21 3 F_behind :=
  ok_mk (k := 20) T.behind sc_behind rfl (fun _ _ _ _ _ _ us hl => match us, hl with | [_, _, _], _ => rfl) (fun _ _ h => h) fun fa cdv A outer s H He Oa hr =>
      (show PBV _ He Oa (defBody s_behind) B_behind from (pbv_cons (psv_if (pvt_cmp op_eq g_eq (pv_ix (pv_name 2 (pv 2)) pv_int) pv_str (nomark _)) (pbv_one (psv_ret (pv_callO (ok_moved T) hr (by decide) rfl (pva_cons (pv_name 0 (pv 0)) (pva_cons (pv_name 1 (pv 1)) (pva_cons (pv_ix (pv_name 2 (pv 2)) pv_int) pva_nil))) (.cons (.cons (.cons .nil)))))) pbv_nil)
      (pbv_one (psv_ret (pv_ifExp (pvt_cmp op_eq g_eq (pv_ix (pv_name 2 (pv 2)) pv_int) pv_str (nomark _)) (pv_callO (ok_with_key T) hr (by decide) rfl (pva_cons (pv_name 0 (pv 0)) (pva_cons (pv_name 1 (pv 1)) (pva_cons (pv_ix (pv_name 2 (pv 2)) pv_int) pva_nil))) (.cons (.cons (.cons .nil)))) (pv_callO (ok_without_key T) hr (by decide) rfl (pva_cons (pv_name 0 (pv 0)) (pva_cons (pv_name 1 (pv 1)) (pva_cons (pv_ix (pv_name 2 (pv 2)) pv_int) pva_nil))) (.cons (.cons (.cons .nil)))))))))
/-! ### cost_of -/
abbrev N_cost_of : List Str := ["shape", "deed"]
theorem sc_cost_of : FnScope N_cost_of ["shape", "deed"] (defScope s_cost_of) := ⟨rfl, rfl, rfl, by decide +kernel, rfl, by decide +kernel, by decide +kernel⟩
def B_cost_of : FS :=
  (sRet (o2 dAdd (oA (F_way_to 8) (ac (fVar 0) (ac (o2 dIdx (fVar 1) (fC (.int 1))) a0))) (o2 dNe (o2 dIdx (fVar 1) (fC (.int 0))) (fC (.str "in")))))
def F_cost_of : List PyData → Option PyData := runF 2 B_cost_of
theorem ok_cost_of (T : Txt K mg) : Ok P w K mg base "cost_of" ["shape", "deed"] 9 2 F_cost_of :=
  ok_mk (k := 8) T.cost_of sc_cost_of rfl (fun _ _ _ _ _ _ us hl => match us, hl with | [_, _], _ => rfl) (fun _ _ h => h) fun fa cdv A outer s H He Oa hr =>
      (show PBV _ He Oa (defBody s_cost_of) B_cost_of from (pbv_one (psv_ret (pv_add (pv_callO (ok_way_to T 8) hr (by decide) rfl (pva_cons (pv_name 0 (pv 0)) (pva_cons (pv_ix (pv_name 1 (pv 1)) pv_int) pva_nil)) (.cons (.cons .nil))) (pv_cmp op_ne g_ne (pv_ix (pv_name 1 (pv 1)) pv_int) pv_str (nomark _))))))
/-! ### is_deed -/
abbrev N_is_deed : List Str := ["value"]
theorem sc_is_deed : FnScope N_is_deed ["value"] (defScope s_is_deed) := ⟨rfl, rfl, rfl, by decide +kernel, rfl, by decide +kernel, by decide +kernel⟩
def B_is_deed : FS :=
  (sSeq (sIf (fOr (o1 dNot (o1 (gIsi "tuple") (fVar 0))) (fOr (o2 dNe (oA gLen (ac (fVar 0) a0)) (fC (.int 2))) (o1 dNot (o1 (gIsi "str") (o2 dIdx (fVar 0) (fC (.int 0))))))) (sRet (fC (.bool false))) sNext)
  (sRet (fAnd (o2 dIn (o2 dIdx (fVar 0) (fC (.int 0))) (fTup (ac (fC (.str "ask")) (ac (fC (.str "in")) (ac (fC (.str "out")) a0))))) (oA F_is_number (ac (o2 dIdx (fVar 0) (fC (.int 1))) (ac (fC (.int 1)) (ac (fC (.int 6)) a0)))))))
def F_is_deed : List PyData → Option PyData := runF 1 B_is_deed
theorem ok_is_deed (T : Txt K mg) : Ok P w K mg base "is_deed" ["value"] 2 1 F_is_deed :=
  ok_mk (k := 1) T.is_deed sc_is_deed rfl (fun _ _ _ _ _ _ us hl => match us, hl with | [_], _ => rfl) (fun _ _ h => h) fun fa cdv A outer s H He Oa hr =>
      (show PBV _ He Oa (defBody s_is_deed) B_is_deed from (pbv_cons (psv_if (PW.pt (pvw_or (pvt_not (pvt_val (pv_isi (T := "tuple") (pv_name 0 (pv 0)) rfl T.bi.isinstance (by decide +kernel) rfl T.bi.tuple (by decide +kernel)))) (pvw_or (pvt_cmp op_ne g_ne (pv_bi call_len_seq gv_len rfl T.bi.len boot_len (pva_cons (pv_name 0 (pv 0)) pva_nil)) pv_int (nomark _)) (pvw_one_or (pvt_not (pvt_val (pv_isi (T := "str") (pv_ix (pv_name 0 (pv 0)) pv_int) rfl T.bi.isinstance (by decide +kernel) rfl T.bi.str (by decide +kernel)))))))) (pbv_one (psv_ret pv_bl)) pbv_nil)
      (pbv_one (psv_ret (pv_and (pv_cmp op_in_seq g_in (pv_ix (pv_name 0 (pv 0)) pv_int) (pv_tup (pva_cons pv_str (pva_cons pv_str (pva_cons pv_str pva_nil))) (.cons (.cons (.cons .nil)))) (by rfl)) (pv_one (pv_callO (ok_is_number T) hr (by decide) rfl (pva_cons (pv_ix (pv_name 0 (pv 0)) pv_int) (pva_cons pv_int (pva_cons (pv_MOST T.bi rfl) pva_nil))) (.cons (.cons (.cons .nil))))))))))
/-! ### is_load -/
abbrev N_is_load : List Str := ["candidate", "keys", "most", "words", "word"]
theorem sc_is_load : FnScope N_is_load ["candidate"] (defScope s_is_load) := ⟨rfl, rfl, rfl, by decide +kernel, rfl, by decide +kernel, by decide +kernel⟩
def B_is_load : FS :=
  (sSeq (sIf (fOr (o1 dNot (o1 (gIsi "tuple") (fVar 0))) (fOr (o2 dNe (oA gLen (ac (fVar 0) a0)) (fC (.int 3))) (o1 dNot (oA F_is_number (ac (o2 dIdx (fVar 0) (fC (.int 0))) (ac (fC (.int 1)) (ac (fC (.int 6)) a0))))))) (sRet (fC (.bool false))) sNext)
  (sSeq (sAsg (gT (gsC (gN 1) (gsC (gN 2) (gsC (gN 3) gs0)))) (fVar 0))
  (sSeq (sIf (fOr (o1 dNot (oA F_is_number (ac (fVar 2) (ac (fC (.int 1)) (ac (fVar 1) a0))))) (o1 dNot (o1 (gIsi "tuple") (fVar 3)))) (sRet (fC (.bool false))) sNext)
  (sRet (fAnd (o2 dIn (fC (.str "in")) (fVar 3)) (o2 dEqD (fVar 3) (oA gTup (ac (fComp [4] (iT (fC wordsD)) (gN 4) (o2 dIn (fVar 4) (fVar 3)) (fVar 4)) a0))))))))
def F_is_load : List PyData → Option PyData := runF 5 B_is_load
theorem ok_is_load (T : Txt K mg) : Ok P w K mg base "is_load" ["candidate"] 2 1 F_is_load :=
  ok_mk (k := 1) T.is_load sc_is_load rfl (fun _ _ _ _ _ _ us hl => match us, hl with | [_], _ => rfl) (fun _ _ h => h) fun fa cdv A outer s H He Oa hr =>
      (show PBV _ He Oa (defBody s_is_load) B_is_load from (pbv_cons (psv_if (PW.pt (pvw_or (pvt_not (pvt_val (pv_isi (T := "tuple") (pv_name 0 (pv 0)) rfl T.bi.isinstance (by decide +kernel) rfl T.bi.tuple (by decide +kernel)))) (pvw_or (pvt_cmp op_ne g_ne (pv_bi call_len_seq gv_len rfl T.bi.len boot_len (pva_cons (pv_name 0 (pv 0)) pva_nil)) pv_int (nomark _)) (pvw_one_or (pvt_not (pvt_val (pv_callO (ok_is_number T) hr (by decide) rfl (pva_cons (pv_ix (pv_name 0 (pv 0)) pv_int) (pva_cons pv_int (pva_cons (pv_MOST T.bi rfl) pva_nil))) (.cons (.cons (.cons .nil)))))))))) (pbv_one (psv_ret pv_bl)) pbv_nil)
      (pbv_cons (psv_asg (pv_name 0 (pv 0)) (pgv_tup rfl (pgvs_cons (pgv_name (pg_name (i := 1) sc_is_load.nd rfl (.inl rfl))) (pgvs_cons (pgv_name (pg_name (i := 2) sc_is_load.nd rfl (.inl rfl))) (pgvs_cons (pgv_name (pg_name (i := 3) sc_is_load.nd rfl (.inr rfl))) pgvs_nil))) (gsC_len (gsC_len (gsC_len gs0_len)))))
      (pbv_cons (psv_if (PW.pt (pvw_or (pvt_not (pvt_val (pv_callO (ok_is_number T) hr (by decide) rfl (pva_cons (pv_name 2 (pv 2)) (pva_cons pv_int (pva_cons (pv_name 1 (pv 1)) pva_nil))) (.cons (.cons (.cons .nil)))))) (pvw_one_or (pvt_not (pvt_val (pv_isi (T := "tuple") (pv_name 3 (pv 3)) rfl T.bi.isinstance (by decide +kernel) rfl T.bi.tuple (by decide +kernel))))))) (pbv_one (psv_ret pv_bl)) pbv_nil)
      (pbv_one (psv_ret (pv_and (pv_cmp op_in_seq g_in pv_str (pv_name 3 (pv 3)) (by rfl)) (pv_one (pv_cmp (op_eqD hr.units) g_eqD (pv_name 3 (pv 3)) (pv_ty call_tuple_of gv_tup rfl T.bi.tuple (by decide +kernel) (pva_cons (pv_comp (own := [("word", 4)]) rfl sc_is_load.nd (piv_tup (pv_WORDS T.bi rfl)) (blkOk_by (own := [("word", 4)]) (N := N_is_load) (sc := defScope s_is_load) (by decide +kernel)) (fun _ _ _ _ _ => (pgv_name (pg_name (i := 4) sc_is_load.nd rfl (.inl rfl)))) (fun _ _ _ _ _ => (ptv_one (pvt_cmp op_in_seq g_in (pv_name 4 (pv 4)) (pv_name 3 (pv 3)) (by rfl)))) (fun _ _ _ _ _ => (pv_name 4 (pv 4))) (by decide)) pva_nil)) (nomark _))))))))))
/-! ### need_load -/
abbrev N_need_load : List Str := ["value", "keys"]
theorem sc_need_load : FnScope N_need_load ["value", "keys"] (defScope s_need_load) := ⟨rfl, rfl, rfl, by decide +kernel, rfl, by decide +kernel, by decide +kernel⟩
def B_need_load : FS :=
  (sIf (fOr (o1 dNot (oA F_is_load (ac (fVar 0) a0))) (o2 dGt (o2 dIdx (fVar 0) (fC (.int 0))) (fVar 1))) sFail sNext)
def F_need_load : List PyData → Option PyData := runF 2 B_need_load
theorem ok_need_load (T : Txt K mg) : Ok P w K mg base "need_load" ["value", "keys"] 3 2 F_need_load :=
  ok_mk (k := 2) T.need_load sc_need_load rfl (fun _ _ _ _ _ _ us hl => match us, hl with | [_, _], _ => rfl) (fun _ _ h => h) fun fa cdv A outer s H He Oa hr =>
      (show PBV _ He Oa (defBody s_need_load) B_need_load from (pbv_one (psv_if (PW.pt (pvw_or (pvt_not (pvt_val (pv_callO (ok_is_load T) hr (by decide) rfl (pva_cons (pv_name 0 (pv 0)) pva_nil) (.cons .nil)))) (pvw_one_or (pvt_cmp op_gt g_gt (pv_ix (pv_name 0 (pv 0)) pv_int) (pv_name 1 (pv 1)) (nomark _))))) (pbv_one psv_fail) pbv_nil)))
/-! ### keys_along -/
abbrev N_keys_along : List Str := ["row", "here", "found", "word", "key", "one"]
theorem sc_keys_along : FnScope N_keys_along ["row"] (defScope s_keys_along) := ⟨rfl, rfl, rfl, by decide +kernel, rfl, by decide +kernel, by decide +kernel⟩
def B_keys_along : FS :=
  (sSeq (sPar2 1 2 (fsC (vF (fLst a0)) (fsC (lF a0) fs0)))
  (sSeq (sFor (iL (fVar 0)) (gT (gsC (gN 3) (gsC (gN 4) gs0))) (sSeq (sIf (o2 dNe (o2 dIn (fVar 4) (fVar 1)) (o2 dNe (fVar 3) (fC (.str "in")))) (sRet (fC .none)) sNext)
  (sSeq (sIf (o2 dEq (fVar 3) (fC (.str "in"))) (sSet 1 (o2 dAdd (fVar 1) (fLst (ac (fVar 4) a0)))) sNext)
  (sSeq (sIf (o2 dEq (fVar 3) (fC (.str "out"))) (sSet 1 (fComp [5] (iL (fVar 1)) (gN 5) (o2 dNe (fVar 5) (fVar 4)) (fVar 5))) sNext)
  (sApp 2 (fVar 1))))))
  (sFrz 2 (sRet (fVar 2)))))
def F_keys_along : List PyData → Option PyData := runF 6 B_keys_along
theorem ok_keys_along (T : Txt K mg) : Ok P w K mg base "keys_along" ["row"] 1 1 F_keys_along :=
  ok_mk (k := 0) T.keys_along sc_keys_along rfl (fun _ _ _ _ _ _ us hl => match us, hl with | [_], _ => rfl) (fun _ _ h => h) fun fa cdv A outer s H He Oa hr =>
      (show PBV _ He Oa (defBody s_keys_along) B_keys_along from (pbv_cons (psv_par2 (i := 1) (j := 2) rfl sc_keys_along.nd rfl rfl (by decide) rfl rfl (pfs_cons (pf_val (pv_lst pva_nil .nil)) (pfs_cons (pf_lst pva_nil .nil) pfs_nil)) (by rfl))
      (pbv_cons (psv_for PassesOwn.never rfl (piv_list (pv_name 0 (pv 0))) (pgv_tup rfl (pgvs_cons (pgv_name (pg_name (i := 3) sc_keys_along.nd rfl (.inl rfl))) (pgvs_cons (pgv_name (pg_name (i := 4) sc_keys_along.nd rfl (.inr rfl))) pgvs_nil)) (gsC_len (gsC_len gs0_len))) (pbv_cons (psv_if (pvt_cmp op_ne g_ne (pv_cmp op_in_seq g_in (pv_name 4 (pv 4)) (pv_name 1 (pv 1)) (by rfl)) (pv_cmp op_ne g_ne (pv_name 3 (pv 3)) pv_str (nomark _)) (nomark _)) (pbv_one (psv_ret pv_non)) pbv_nil)
      (pbv_cons (psv_if (pvt_cmp op_eq g_eq (pv_name 3 (pv 3)) pv_str (nomark _)) (pbv_one (psv_set (i := 1) (pv_add (pv_name 1 (pv 1)) (pv_lst (pva_cons (pv_name 4 (pv 4)) pva_nil) (.cons .nil))) sc_keys_along.nd rfl (.inl rfl))) pbv_nil)
      (pbv_cons (psv_if (pvt_cmp op_eq g_eq (pv_name 3 (pv 3)) pv_str (nomark _)) (pbv_one (psv_setComp (i := 1) (own := [("one", 5)]) rfl sc_keys_along.nd rfl rfl (sw_true rfl rfl rfl (by decide +kernel))  (piv_list (pv_name 1 (pv 1))) (blkOk_by (own := [("one", 5)]) (N := N_keys_along) (sc := defScope s_keys_along) (by decide +kernel)) (fun _ _ _ _ _ => (pgv_name (pg_name (i := 5) sc_keys_along.nd rfl (.inl rfl)))) (fun _ _ _ _ _ => (ptv_one (pvt_cmp op_ne g_ne (pv_name 5 (pv 5)) (pv_name 4 (pv 4)) (nomark _)))) (fun _ _ _ _ _ => (pv_name 5 (pv 5))) (by decide))) pbv_nil)
      (pbv_one (psv_app (pv 2) (pv_name 1 (pv 1))))))))
      (pbv_one (psv_frz (j := 2) (psv_ret (pv_name 2 (pv 2))))))))
/-! ### is_row -/
abbrev N_is_row : List Str := ["candidate", "deed"]
theorem sc_is_row : FnScope N_is_row ["candidate"] (defScope s_is_row) := ⟨rfl, rfl, rfl, by decide +kernel, rfl, by decide +kernel, by decide +kernel⟩
def B_is_row : FS :=
  (sSeq (sIf (fOr (o1 dNot (o1 (gIsi "list") (fVar 0))) (fOr (o2 dGt (oA gLen (ac (fVar 0) a0)) (fC (.int 40))) (o1 dNot (oA gAll (ac (fComp [1] (iL (fVar 0)) (gN 1) (fC (.bool true)) (oA F_is_deed (ac (fVar 1) a0))) a0))))) (sRet (fC (.bool false))) sNext)
  (sRet (o2 dNotN (oA F_keys_along (ac (fVar 0) a0)) (fC .none))))
def F_is_row : List PyData → Option PyData := runF 2 B_is_row
theorem ok_is_row (T : Txt K mg) : Ok P w K mg base "is_row" ["candidate"] 3 1 F_is_row :=
  ok_mk (k := 2) T.is_row sc_is_row rfl (fun _ _ _ _ _ _ us hl => match us, hl with | [_], _ => rfl) (fun _ _ h => h) fun fa cdv A outer s H He Oa hr =>
      (show PBV _ He Oa (defBody s_is_row) B_is_row from (pbv_cons (psv_if (PW.pt (pvw_or (pvt_not (pvt_val (pv_isi (T := "list") (pv_name 0 (pv 0)) rfl T.bi.isinstance (by decide +kernel) rfl T.bi.list (by decide +kernel)))) (pvw_or (pvt_cmp op_gt g_gt (pv_bi call_len_seq gv_len rfl T.bi.len boot_len (pva_cons (pv_name 0 (pv 0)) pva_nil)) (pv_DEEDS T.bi rfl) (nomark _)) (pvw_one_or (pvt_not (pvt_val (pv_bi (cr_all rfl) gv_all rfl T.bi.all (by decide +kernel) (pva_cons (pv_comp (own := [("deed", 1)]) rfl sc_is_row.nd (piv_list (pv_name 0 (pv 0))) (blkOk_by (own := [("deed", 1)]) (N := N_is_row) (sc := defScope s_is_row) (by decide +kernel)) (fun _ _ _ _ _ => (pgv_name (pg_name (i := 1) sc_is_row.nd rfl (.inl rfl)))) (fun _ _ _ _ _ => ptv_nil) (fun _ _ _ _ _ => (pv_callO (ok_is_deed T) hr (by decide) rfl (pva_cons (pv_name 1 (pv 1)) pva_nil) (.cons .nil))) (by decide)) pva_nil)))))))) (pbv_one (psv_ret pv_bl)) pbv_nil)
      (pbv_one (psv_ret (pv_cmp op_notN g_notN (pv_callO (ok_keys_along T) hr (by decide) rfl (pva_cons (pv_name 0 (pv 0)) pva_nil) (.cons .nil)) pv_non (nomark _))))))
/-! ### need_row -/
abbrev N_need_row : List Str := ["value"]
theorem sc_need_row : FnScope N_need_row ["value"] (defScope s_need_row) := ⟨rfl, rfl, rfl, by decide +kernel, rfl, by decide +kernel, by decide +kernel⟩
def B_need_row : FS :=
  (sIf (o1 dNot (oA F_is_row (ac (fVar 0) a0))) sFail sNext)
def F_need_row : List PyData → Option PyData := runF 1 B_need_row
theorem ok_need_row (T : Txt K mg) : Ok P w K mg base "need_row" ["value"] 4 1 F_need_row :=
  ok_mk (k := 3) T.need_row sc_need_row rfl (fun _ _ _ _ _ _ us hl => match us, hl with | [_], _ => rfl) (fun _ _ h => h) fun fa cdv A outer s H He Oa hr =>
      (show PBV _ He Oa (defBody s_need_row) B_need_row from (pbv_one (psv_if (pvt_not (pvt_val (pv_callO (ok_is_row T) hr (by decide) rfl (pva_cons (pv_name 0 (pv 0)) pva_nil) (.cons .nil)))) (pbv_one psv_fail) pbv_nil)))
/-! ### is_row_of -/
abbrev N_is_row_of : List Str := ["load", "row", "word", "key", "here"]
theorem sc_is_row_of : FnScope N_is_row_of ["load", "row"] (defScope s_is_row_of) := ⟨rfl, rfl, rfl, by decide +kernel, rfl, by decide +kernel, by decide +kernel⟩
def B_is_row_of : FS :=
  (sSeq (sIf (o1 dNot (oA gAll (ac (fComp [2, 3] (iL (fVar 1)) (gT (gsC (gN 2) (gsC (gN 3) gs0))) (fC (.bool true)) (fAnd (o2 dIn (fVar 2) (o2 dIdx (fVar 0) (fC (.int 2)))) (o2 dLe (fVar 3) (o2 dIdx (fVar 0) (fC (.int 0)))))) a0))) (sRet (fC (.bool false))) sNext)
  (sRet (oA gAll (ac (fComp [4] (iL (oA F_keys_along (ac (fVar 1) a0))) (gN 4) (fC (.bool true)) (o2 dLe (oA gLen (ac (fVar 4) a0)) (o2 dIdx (fVar 0) (fC (.int 1))))) a0))))
def F_is_row_of : List PyData → Option PyData := runF 5 B_is_row_of
theorem ok_is_row_of (T : Txt K mg) : Ok P w K mg base "is_row_of" ["load", "row"] 2 2 F_is_row_of :=
  ok_mk (k := 1) T.is_row_of sc_is_row_of rfl (fun _ _ _ _ _ _ us hl => match us, hl with | [_, _], _ => rfl) (fun _ _ h => h) fun fa cdv A outer s H He Oa hr =>
      (show PBV _ He Oa (defBody s_is_row_of) B_is_row_of from (pbv_cons (psv_if (pvt_not (pvt_val (pv_bi (cr_all rfl) gv_all rfl T.bi.all (by decide +kernel) (pva_cons (pv_comp (own := [("word", 2), ("key", 3)]) rfl sc_is_row_of.nd (piv_list (pv_name 1 (pv 1))) (blkOk_by (own := [("word", 2), ("key", 3)]) (N := N_is_row_of) (sc := defScope s_is_row_of) (by decide +kernel)) (fun _ _ _ _ _ => (pgv_tup rfl (pgvs_cons (pgv_name (pg_name (i := 2) sc_is_row_of.nd rfl (.inl rfl))) (pgvs_cons (pgv_name (pg_name (i := 3) sc_is_row_of.nd rfl (.inl rfl))) pgvs_nil)) (gsC_len (gsC_len gs0_len)))) (fun _ _ _ _ _ => ptv_nil) (fun _ _ _ _ _ => (pv_and (pv_cmp op_in_seq g_in (pv_name 2 (pv 2)) (pv_ix (pv_name 0 (pv 0)) pv_int) (by rfl)) (pv_one (pv_cmp op_le g_le (pv_name 3 (pv 3)) (pv_ix (pv_name 0 (pv 0)) pv_int) (nomark _))))) (by decide)) pva_nil)))) (pbv_one (psv_ret pv_bl)) pbv_nil)
      (pbv_one (psv_ret (pv_bi (cr_all rfl) gv_all rfl T.bi.all (by decide +kernel) (pva_cons (pv_comp (own := [("here", 4)]) rfl sc_is_row_of.nd (piv_list (pv_callO (ok_keys_along T) hr (by decide) rfl (pva_cons (pv_name 1 (pv 1)) pva_nil) (.cons .nil))) (blkOk_by (own := [("here", 4)]) (N := N_is_row_of) (sc := defScope s_is_row_of) (by decide +kernel)) (fun _ _ _ _ _ => (pgv_name (pg_name (i := 4) sc_is_row_of.nd rfl (.inl rfl)))) (fun _ _ _ _ _ => ptv_nil) (fun _ _ _ _ _ => (pv_cmp op_le g_le (pv_bi call_len_seq gv_len rfl T.bi.len boot_len (pva_cons (pv_name 4 (pv 4)) pva_nil)) (pv_ix (pv_name 0 (pv 0)) pv_int) (nomark _))) (by decide)) pva_nil))))))
/-! ### is_of -/
abbrev N_is_of : List Str := ["load", "row"]
theorem sc_is_of : FnScope N_is_of ["load", "row"] (defScope s_is_of) := ⟨rfl, rfl, rfl, by decide +kernel, rfl, by decide +kernel, by decide +kernel⟩
def B_is_of : FS :=
  (sSeq (sDrop (oA F_need_load (ac (fVar 0) (ac (fC (.int 6)) a0))))
  (sSeq (sDrop (oA F_need_row (ac (fVar 1) a0)))
  (sRet (oA F_is_row_of (ac (fVar 0) (ac (fVar 1) a0))))))
def F_is_of : List PyData → Option PyData := runF 2 B_is_of
theorem ok_is_of (T : Txt K mg) : Ok P w K mg base "is_of" ["load", "row"] 5 2 F_is_of :=
  ok_mk (k := 4) T.is_of sc_is_of rfl (fun _ _ _ _ _ _ us hl => match us, hl with | [_, _], _ => rfl) (fun _ _ h => h) fun fa cdv A outer s H He Oa hr =>
      (show PBV _ He Oa (defBody s_is_of) B_is_of from (pbv_cons (psv_drop (pv_callO (ok_need_load T) hr (by decide) rfl (pva_cons (pv_name 0 (pv 0)) (pva_cons (pv_MOST T.bi rfl) pva_nil)) (.cons (.cons .nil))))
      (pbv_cons (psv_drop (pv_callO (ok_need_row T) hr (by decide) rfl (pva_cons (pv_name 1 (pv 1)) pva_nil) (.cons .nil)))
      (pbv_one (psv_ret (pv_callO (ok_is_row_of T) hr (by decide) rfl (pva_cons (pv_name 0 (pv 0)) (pva_cons (pv_name 1 (pv 1)) pva_nil)) (.cons (.cons .nil))))))))
/-! ### run -/
abbrev N_run : List Str := ["rule", "row", "shape", "shapes", "costs", "deed"]
theorem sc_run : FnScope N_run ["rule", "row"] (defScope s_run) := ⟨rfl, rfl, rfl, by decide +kernel, rfl, by decide +kernel, by decide +kernel⟩
def B_run : FS :=
  (sSeq (sPar3 2 3 4 (fsC (vF (fTup a0)) (fsC (lF a0) (fsC (lF a0) fs0))))
  (sSeq (sFor (iL (fVar 1)) (gN 5) (sSeq (sApp 4 (oA F_cost_of (ac (fVar 2) (ac (fVar 5) a0))))
  (sSeq (sSet 2 (oA F_behind (ac (fVar 0) (ac (fVar 2) (ac (fVar 5) a0)))))
  (sApp 3 (fVar 2)))))
  (sFrz 4 (sFrz 3 (sRet (fTup (ac (fVar 3) (ac (fVar 4) a0))))))))
def F_run : List PyData → Option PyData := runF 6 B_run
theorem ok_run (T : Txt K mg) : Ok P w K mg base "run" ["rule", "row"] 22 2 F_run :=
  ok_mk (k := 21) T.run sc_run rfl (fun _ _ _ _ _ _ us hl => match us, hl with | [_, _], _ => rfl) (fun _ _ h => h) fun fa cdv A outer s H He Oa hr =>
      (show PBV _ He Oa (defBody s_run) B_run from (pbv_cons (psv_par3 (i := 2) (j := 3) (l := 4) rfl sc_run.nd rfl rfl rfl (by decide) (by decide) (by decide) rfl rfl rfl (pfs_cons (pf_val (pv_tup pva_nil .nil)) (pfs_cons (pf_lst pva_nil .nil) (pfs_cons (pf_lst pva_nil .nil) pfs_nil))) (by rfl))
      (pbv_cons (psv_for PassesOwn.never rfl (piv_list (pv_name 1 (pv 1))) (pgv_name (pg_name (i := 5) sc_run.nd rfl (.inl rfl))) (pbv_cons (psv_app (pv 4) (pv_callO (ok_cost_of T) hr (by decide) rfl (pva_cons (pv_name 2 (pv 2)) (pva_cons (pv_name 5 (pv 5)) pva_nil)) (.cons (.cons .nil))))
      (pbv_cons (psv_set (i := 2) (pv_callO (ok_behind T) hr (by decide) rfl (pva_cons (pv_name 0 (pv 0)) (pva_cons (pv_name 2 (pv 2)) (pva_cons (pv_name 5 (pv 5)) pva_nil))) (.cons (.cons (.cons .nil)))) sc_run.nd rfl (.inl rfl))
      (pbv_one (psv_app (pv 3) (pv_name 2 (pv 2)))))))
      (pbv_one (psv_frz (j := 4) (psv_frz (j := 3) (psv_ret (pv_tup (pva_cons (pv_name 3 (pv 3)) (pva_cons (pv_name 4 (pv 4)) pva_nil)) (.cons (.cons .nil))))))))))
/-! ### need_run -/
abbrev N_need_run : List Str := ["rule", "row"]
theorem sc_need_run : FnScope N_need_run ["rule", "row"] (defScope s_need_run) := ⟨rfl, rfl, rfl, by decide +kernel, rfl, by decide +kernel, by decide +kernel⟩
def B_need_run : FS :=
  (sSeq (sDrop (oA F_need_rule (ac (fVar 0) a0)))
  (sDrop (oA F_need_row (ac (fVar 1) a0))))
def F_need_run : List PyData → Option PyData := runF 2 B_need_run
theorem ok_need_run (T : Txt K mg) : Ok P w K mg base "need_run" ["rule", "row"] 5 2 F_need_run :=
  ok_mk (k := 4) T.need_run sc_need_run rfl (fun _ _ _ _ _ _ us hl => match us, hl with | [_, _], _ => rfl) (fun _ _ h => h) fun fa cdv A outer s H He Oa hr =>
      (show PBV _ He Oa (defBody s_need_run) B_need_run from (pbv_cons (psv_drop (pv_callO (ok_need_rule T) hr (by decide) rfl (pva_cons (pv_name 0 (pv 0)) pva_nil) (.cons .nil)))
      (pbv_one (psv_drop (pv_callO (ok_need_row T) hr (by decide) rfl (pva_cons (pv_name 1 (pv 1)) pva_nil) (.cons .nil))))))
/-! ### shapes_along -/
abbrev N_shapes_along : List Str := ["rule", "row"]
theorem sc_shapes_along : FnScope N_shapes_along ["rule", "row"] (defScope s_shapes_along) := ⟨rfl, rfl, rfl, by decide +kernel, rfl, by decide +kernel, by decide +kernel⟩
def B_shapes_along : FS :=
  (sSeq (sDrop (oA F_need_run (ac (fVar 0) (ac (fVar 1) a0))))
  (sRet (o2 dIdx (oA F_run (ac (fVar 0) (ac (fVar 1) a0))) (fC (.int 0)))))
def F_shapes_along : List PyData → Option PyData := runF 2 B_shapes_along
theorem ok_shapes_along (T : Txt K mg) : Ok P w K mg base "shapes_along" ["rule", "row"] 23 2 F_shapes_along :=
  ok_mk (k := 22) T.shapes_along sc_shapes_along rfl (fun _ _ _ _ _ _ us hl => match us, hl with | [_, _], _ => rfl) (fun _ _ h => h) fun fa cdv A outer s H He Oa hr =>
      (show PBV _ He Oa (defBody s_shapes_along) B_shapes_along from (pbv_cons (psv_drop (pv_callO (ok_need_run T) hr (by decide) rfl (pva_cons (pv_name 0 (pv 0)) (pva_cons (pv_name 1 (pv 1)) pva_nil)) (.cons (.cons .nil))))
      (pbv_one (psv_ret (pv_ix (pv_callO (ok_run T) hr (by decide) rfl (pva_cons (pv_name 0 (pv 0)) (pva_cons (pv_name 1 (pv 1)) pva_nil)) (.cons (.cons .nil))) pv_int)))))
/-! ### costs_along -/
abbrev N_costs_along : List Str := ["rule", "row"]
theorem sc_costs_along : FnScope N_costs_along ["rule", "row"] (defScope s_costs_along) := ⟨rfl, rfl, rfl, by decide +kernel, rfl, by decide +kernel, by decide +kernel⟩
def B_costs_along : FS :=
  (sSeq (sDrop (oA F_need_run (ac (fVar 0) (ac (fVar 1) a0))))
  (sRet (o2 dIdx (oA F_run (ac (fVar 0) (ac (fVar 1) a0))) (fC (.int 1)))))
def F_costs_along : List PyData → Option PyData := runF 2 B_costs_along
theorem ok_costs_along (T : Txt K mg) : Ok P w K mg base "costs_along" ["rule", "row"] 23 2 F_costs_along :=
  ok_mk (k := 22) T.costs_along sc_costs_along rfl (fun _ _ _ _ _ _ us hl => match us, hl with | [_, _], _ => rfl) (fun _ _ h => h) fun fa cdv A outer s H He Oa hr =>
      (show PBV _ He Oa (defBody s_costs_along) B_costs_along from (pbv_cons (psv_drop (pv_callO (ok_need_run T) hr (by decide) rfl (pva_cons (pv_name 0 (pv 0)) (pva_cons (pv_name 1 (pv 1)) pva_nil)) (.cons (.cons .nil))))
      (pbv_one (psv_ret (pv_ix (pv_callO (ok_run T) hr (by decide) rfl (pva_cons (pv_name 0 (pv 0)) (pva_cons (pv_name 1 (pv 1)) pva_nil)) (.cons (.cons .nil))) pv_int)))))
end
end L3

namespace L3
open PySem PySem.Spec PyProof.Rows L2
section
variable {P : Program} {w : World} {K : PySem.W.Frag} {mg : Str → Option Value} {base : Heap}
/-! ### deeds_at -/
abbrev N_deeds_at : List Str := ["load", "shape", "here", "found", "word", "key"]
theorem sc_deeds_at : FnScope N_deeds_at ["load", "shape"] (defScope s_deeds_at) := ⟨rfl, rfl, rfl, by decide +kernel, rfl, by decide +kernel, by decide +kernel⟩
def B_deeds_at : FS :=
  (sSeq (sPar2 2 3 (fsC (vF (oA (F_keys_of 8) (ac (fVar 1) a0))) (fsC (lF a0) fs0)))
  (sSeq (sFor (iT (o2 dIdx (fVar 0) (fC (.int 2)))) (gN 4) (sFor (iR2 (fC (.int 1)) (o2 dAdd (o2 dIdx (fVar 0) (fC (.int 0))) (fC (.int 1)))) (gN 5) (sIf (fAnd (o2 dEq (o2 dIn (fVar 5) (fVar 2)) (o2 dNe (fVar 4) (fC (.str "in")))) (fOr (o2 dNe (fVar 4) (fC (.str "in"))) (o2 dLt (oA gLen (ac (fVar 2) a0)) (o2 dIdx (fVar 0) (fC (.int 1)))))) (sApp 3 (fTup (ac (fVar 4) (ac (fVar 5) a0)))) sNext)))
  (sFrz 3 (sRet (fVar 3)))))
def F_deeds_at : List PyData → Option PyData := runF 6 B_deeds_at
theorem ok_deeds_at (T : Txt K mg) : Ok P w K mg base "deeds_at" ["load", "shape"] 9 2 F_deeds_at :=
  ok_mk (k := 8) T.deeds_at sc_deeds_at rfl (fun _ _ _ _ _ _ us hl => match us, hl with | [_, _], _ => rfl) (fun _ _ h => h) fun fa cdv A outer s H He Oa hr =>
      (show PBV _ He Oa (defBody s_deeds_at) B_deeds_at from (pbv_cons (psv_par2 (i := 2) (j := 3) rfl sc_deeds_at.nd rfl rfl (by decide) rfl rfl (pfs_cons (pf_val (pv_callO (ok_keys_of T 8) hr (by decide) rfl (pva_cons (pv_name 1 (pv 1)) pva_nil) (.cons .nil))) (pfs_cons (pf_lst pva_nil .nil) pfs_nil)) (by rfl))
      (pbv_cons (psv_for PassesOwn.never rfl (piv_tup (pv_ix (pv_name 0 (pv 0)) pv_int)) (pgv_name (pg_name (i := 4) sc_deeds_at.nd rfl (.inl rfl))) (pbv_one (psv_for PassesOwn.never rfl (piv_rng2 rfl T.bi.range pv_int (pv_add (pv_ix (pv_name 0 (pv 0)) pv_int) pv_int)) (pgv_name (pg_name (i := 5) sc_deeds_at.nd rfl (.inl rfl))) (pbv_one (psv_if (PW.pt (pvw_and (pvt_cmp op_eq g_eq (pv_cmp op_in_seq g_in (pv_name 5 (pv 5)) (pv_name 2 (pv 2)) (by rfl)) (pv_cmp op_ne g_ne (pv_name 4 (pv 4)) pv_str (nomark _)) (nomark _)) (pvw_one_and (PW.pt (pvw_or (pvt_cmp op_ne g_ne (pv_name 4 (pv 4)) pv_str (nomark _)) (pvw_one_or (pvt_cmp op_lt g_lt (pv_bi call_len_seq gv_len rfl T.bi.len boot_len (pva_cons (pv_name 2 (pv 2)) pva_nil)) (pv_ix (pv_name 0 (pv 0)) pv_int) (nomark _)))))))) (pbv_one (psv_app (pv 3) (pv_tup (pva_cons (pv_name 4 (pv 4)) (pva_cons (pv_name 5 (pv 5)) pva_nil)) (.cons (.cons .nil))))) pbv_nil)))))
      (pbv_one (psv_frz (j := 3) (psv_ret (pv_name 3 (pv 3))))))))
/-! ### parted -/
abbrev N_parted : List Str := ["one", "other", "load", "by_costs", "start", "level", "seen", "later", "row", "first", "second", "deed", "new", "pair"]
theorem sc_parted : FnScope N_parted ["one", "other", "load", "by_costs", "start"] (defScope s_parted) := ⟨rfl, rfl, rfl, by decide +kernel, rfl, by decide +kernel, by decide +kernel⟩
def B_parted : FS :=
  (sSeq (sPar2 5 6 (fsC (vF (fLst (ac (fTup (ac (fLst a0) (ac (o2 dIdx (fVar 4) (fC (.int 0))) (ac (o2 dIdx (fVar 4) (fC (.int 1))) a0)))) a0))) (fsC (dF1 (fVar 4) (fC (.bool true))) fs0)))
  (sSeq (whileF (o2 dNeE (fVar 5) (fLst a0)) (sSeq (sSetF 7 (lF a0))
  (sSeq (sFor (iL (fVar 5)) (gT (gsC (gN 8) (gsC (gN 9) (gsC (gN 10) gs0)))) (sFor (iL (oA F_deeds_at (ac (fVar 2) (ac (fVar 9) a0)))) (gN 11) (sSeq (sSet 12 (o2 dAdd (fVar 8) (fLst (ac (fVar 11) a0))))
  (sSeq (sIf (fAnd (fVar 3) (o2 dNe (oA F_cost_of (ac (fVar 9) (ac (fVar 11) a0))) (oA F_cost_of (ac (fVar 10) (ac (fVar 11) a0))))) (sRet (fVar 12)) sNext)
  (sSeq (sSet 13 (fTup (ac (oA F_behind (ac (fVar 0) (ac (fVar 9) (ac (fVar 11) a0)))) (ac (oA F_behind (ac (fVar 1) (ac (fVar 10) (ac (fVar 11) a0)))) a0))))
  (sSeq (sIf (fAnd (o1 dNot (fVar 3)) (o2 dNeD (o2 dIdx (fVar 13) (fC (.int 0))) (o2 dIdx (fVar 13) (fC (.int 1))))) (sRet (fVar 12)) sNext)
  (sIf (fOIn true 6 (fVar 13)) (sSeq (sPut 6 (fVar 13) (fC (.bool true)))
  (sApp 7 (fTup (ac (fVar 12) (ac (o2 dIdx (fVar 13) (fC (.int 0))) (ac (o2 dIdx (fVar 13) (fC (.int 1))) a0)))))) sNext)))))))
  (sFrz 7 (sSet 5 (fVar 7))))) 400)
  (sRet (fC .none))))
def F_parted : List PyData → Option PyData := runF 14 B_parted
theorem ok_parted (T : Txt K mg) : Ok P w K mg base "parted" ["one", "other", "load", "by_costs", "start"] 22 5 F_parted :=
  ok_mk (k := 21) T.parted sc_parted rfl (fun _ _ _ _ _ _ us hl => match us, hl with | [_, _, _, _, _], _ => rfl) (fun _ _ h => h) fun fa cdv A outer s H He Oa hr =>
      (show PBV _ He Oa (defBody s_parted) B_parted from (pbv_cons (psv_par2 (i := 5) (j := 6) rfl sc_parted.nd rfl rfl (by decide) rfl rfl (pfs_cons (pf_val (pv_lst (pva_cons (pv_tup (pva_cons (pv_lst pva_nil .nil) (pva_cons (pv_ix (pv_name 4 (pv 4)) pv_int) (pva_cons (pv_ix (pv_name 4 (pv 4)) pv_int) pva_nil))) (.cons (.cons (.cons .nil)))) pva_nil) (.cons .nil))) (pfs_cons (pf_disp hr.units (pv_name 4 (pv 4)) pv_bl) pfs_nil)) (by rfl))
      (pbv_cons (psv_while 400 PassesOwn.never (pvt_cmp (op_neR hr.units) g_neE (pv_name 5 (pv 5)) (pv_lst pva_nil .nil) (nomark _)) (pbv_cons (psv_setF (i := 7) (pf_lst pva_nil .nil) sc_parted.nd rfl (.inl rfl))
      (pbv_cons (psv_for PassesOwn.never rfl (piv_list (pv_name 5 (pv 5))) (pgv_tup rfl (pgvs_cons (pgv_name (pg_name (i := 8) sc_parted.nd rfl (.inl rfl))) (pgvs_cons (pgv_name (pg_name (i := 9) sc_parted.nd rfl (.inl rfl))) (pgvs_cons (pgv_name (pg_name (i := 10) sc_parted.nd rfl (.inl rfl))) pgvs_nil))) (gsC_len (gsC_len (gsC_len gs0_len)))) (pbv_one (psv_for PassesOwn.never rfl (piv_list (pv_callO (ok_deeds_at T) hr (by decide) rfl (pva_cons (pv_name 2 (pv 2)) (pva_cons (pv_name 9 (pv 9)) pva_nil)) (.cons (.cons .nil)))) (pgv_name (pg_name (i := 11) sc_parted.nd rfl (.inl rfl))) (pbv_cons (psv_set (i := 12) (pv_add (pv_name 8 (pv 8)) (pv_lst (pva_cons (pv_name 11 (pv 11)) pva_nil) (.cons .nil))) sc_parted.nd rfl (.inl rfl))
      (pbv_cons (psv_if (PW.pt (pvw_and (pvt_val (pv_name 3 (pv 3))) (pvw_one_and (pvt_cmp op_ne g_ne (pv_callO (ok_cost_of T) hr (by decide) rfl (pva_cons (pv_name 9 (pv 9)) (pva_cons (pv_name 11 (pv 11)) pva_nil)) (.cons (.cons .nil))) (pv_callO (ok_cost_of T) hr (by decide) rfl (pva_cons (pv_name 10 (pv 10)) (pva_cons (pv_name 11 (pv 11)) pva_nil)) (.cons (.cons .nil))) (nomark _))))) (pbv_one (psv_ret (pv_name 12 (pv 12)))) pbv_nil)
      (pbv_cons (psv_set (i := 13) (pv_tup (pva_cons (pv_callO (ok_behind T) hr (by decide) rfl (pva_cons (pv_name 0 (pv 0)) (pva_cons (pv_name 9 (pv 9)) (pva_cons (pv_name 11 (pv 11)) pva_nil))) (.cons (.cons (.cons .nil)))) (pva_cons (pv_callO (ok_behind T) hr (by decide) rfl (pva_cons (pv_name 1 (pv 1)) (pva_cons (pv_name 10 (pv 10)) (pva_cons (pv_name 11 (pv 11)) pva_nil))) (.cons (.cons (.cons .nil)))) pva_nil)) (.cons (.cons .nil))) sc_parted.nd rfl (.inl rfl))
      (pbv_cons (psv_if (PW.pt (pvw_and (pvt_not (pvt_val (pv_name 3 (pv 3)))) (pvw_one_and (pvt_cmp (op_neD hr.units) g_neD (pv_ix (pv_name 13 (pv 13)) pv_int) (pv_ix (pv_name 13 (pv 13)) pv_int) (nomark _))))) (pbv_one (psv_ret (pv_name 12 (pv 12)))) pbv_nil)
      (pbv_one (psv_if (pvt_notinO hr.units (pv_name 13 (pv 13)) (pv 6)) (pbv_cons (psv_put hr.units pv_bl (pv 6) (pv_name 13 (pv 13)))
      (pbv_one (psv_app (pv 7) (pv_tup (pva_cons (pv_name 12 (pv 12)) (pva_cons (pv_ix (pv_name 13 (pv 13)) pv_int) (pva_cons (pv_ix (pv_name 13 (pv 13)) pv_int) pva_nil))) (.cons (.cons (.cons .nil))))))) pbv_nil)))))))))
      (pbv_one (psv_frz (j := 7) (psv_set (i := 5) (pv_name 7 (pv 7)) sc_parted.nd rfl (.inl rfl)))))))
      (pbv_one (psv_ret pv_non)))))
/-! ### need_two -/
abbrev N_need_two : List Str := ["one", "other", "load"]
theorem sc_need_two : FnScope N_need_two ["one", "other", "load"] (defScope s_need_two) := ⟨rfl, rfl, rfl, by decide +kernel, rfl, by decide +kernel, by decide +kernel⟩
def B_need_two : FS :=
  (sSeq (sDrop (oA F_need_rule (ac (fVar 0) a0)))
  (sSeq (sDrop (oA F_need_rule (ac (fVar 1) a0)))
  (sDrop (oA F_need_load (ac (fVar 2) (ac (fC (.int 5)) a0))))))
def F_need_two : List PyData → Option PyData := runF 3 B_need_two
theorem ok_need_two (T : Txt K mg) : Ok P w K mg base "need_two" ["one", "other", "load"] 4 3 F_need_two :=
  ok_mk (k := 3) T.need_two sc_need_two rfl (fun _ _ _ _ _ _ us hl => match us, hl with | [_, _, _], _ => rfl) (fun _ _ h => h) fun fa cdv A outer s H He Oa hr =>
      (show PBV _ He Oa (defBody s_need_two) B_need_two from (pbv_cons (psv_drop (pv_callO (ok_need_rule T) hr (by decide) rfl (pva_cons (pv_name 0 (pv 0)) pva_nil) (.cons .nil)))
      (pbv_cons (psv_drop (pv_callO (ok_need_rule T) hr (by decide) rfl (pva_cons (pv_name 1 (pv 1)) pva_nil) (.cons .nil)))
      (pbv_one (psv_drop (pv_callO (ok_need_load T) hr (by decide) rfl (pva_cons (pv_name 2 (pv 2)) (pva_cons pv_int pva_nil)) (.cons (.cons .nil))))))))
/-! ### parting_row -/
abbrev N_parting_row : List Str := ["one", "other", "load"]
theorem sc_parting_row : FnScope N_parting_row ["one", "other", "load"] (defScope s_parting_row) := ⟨rfl, rfl, rfl, by decide +kernel, rfl, by decide +kernel, by decide +kernel⟩
def B_parting_row : FS :=
  (sSeq (sDrop (oA F_need_two (ac (fVar 0) (ac (fVar 1) (ac (fVar 2) a0)))))
  (sRet (oA F_parted (ac (fVar 0) (ac (fVar 1) (ac (fVar 2) (ac (fC (.bool false)) (ac (fTup (ac (fTup a0) (ac (fTup a0) a0))) a0))))))))
def F_parting_row : List PyData → Option PyData := runF 3 B_parting_row
theorem ok_parting_row (T : Txt K mg) : Ok P w K mg base "parting_row" ["one", "other", "load"] 23 3 F_parting_row :=
  ok_mk (k := 22) T.parting_row sc_parting_row rfl (fun _ _ _ _ _ _ us hl => match us, hl with | [_, _, _], _ => rfl) (fun _ _ h => h) fun fa cdv A outer s H He Oa hr =>
      (show PBV _ He Oa (defBody s_parting_row) B_parting_row from (pbv_cons (psv_drop (pv_callO (ok_need_two T) hr (by decide) rfl (pva_cons (pv_name 0 (pv 0)) (pva_cons (pv_name 1 (pv 1)) (pva_cons (pv_name 2 (pv 2)) pva_nil))) (.cons (.cons (.cons .nil)))))
      (pbv_one (psv_ret (pv_callO (ok_parted T) hr (by decide) rfl (pva_cons (pv_name 0 (pv 0)) (pva_cons (pv_name 1 (pv 1)) (pva_cons (pv_name 2 (pv 2)) (pva_cons pv_bl (pva_cons (pv_tup (pva_cons (pv_tup pva_nil .nil) (pva_cons (pv_tup pva_nil .nil) pva_nil)) (.cons (.cons .nil))) pva_nil))))) (.cons (.cons (.cons (.cons (.cons .nil))))))))))
/-! ### costing_row -/
abbrev N_costing_row : List Str := ["one", "other", "load"]
theorem sc_costing_row : FnScope N_costing_row ["one", "other", "load"] (defScope s_costing_row) := ⟨rfl, rfl, rfl, by decide +kernel, rfl, by decide +kernel, by decide +kernel⟩
def B_costing_row : FS :=
  (sSeq (sDrop (oA F_need_two (ac (fVar 0) (ac (fVar 1) (ac (fVar 2) a0)))))
  (sRet (oA F_parted (ac (fVar 0) (ac (fVar 1) (ac (fVar 2) (ac (fC (.bool true)) (ac (fTup (ac (fTup a0) (ac (fTup a0) a0))) a0))))))))
def F_costing_row : List PyData → Option PyData := runF 3 B_costing_row
theorem ok_costing_row (T : Txt K mg) : Ok P w K mg base "costing_row" ["one", "other", "load"] 23 3 F_costing_row :=
  ok_mk (k := 22) T.costing_row sc_costing_row rfl (fun _ _ _ _ _ _ us hl => match us, hl with | [_, _, _], _ => rfl) (fun _ _ h => h) fun fa cdv A outer s H He Oa hr =>
      (show PBV _ He Oa (defBody s_costing_row) B_costing_row from (pbv_cons (psv_drop (pv_callO (ok_need_two T) hr (by decide) rfl (pva_cons (pv_name 0 (pv 0)) (pva_cons (pv_name 1 (pv 1)) (pva_cons (pv_name 2 (pv 2)) pva_nil))) (.cons (.cons (.cons .nil)))))
      (pbv_one (psv_ret (pv_callO (ok_parted T) hr (by decide) rfl (pva_cons (pv_name 0 (pv 0)) (pva_cons (pv_name 1 (pv 1)) (pva_cons (pv_name 2 (pv 2)) (pva_cons pv_bl (pva_cons (pv_tup (pva_cons (pv_tup pva_nil .nil) (pva_cons (pv_tup pva_nil .nil) pva_nil)) (.cons (.cons .nil))) pva_nil))))) (.cons (.cons (.cons (.cons (.cons .nil))))))))))
/-! ### lowest -/
abbrev N_lowest : List Str := ["above", "below", "one", "two"]
theorem sc_lowest : FnScope N_lowest ["above", "below"] (defScope s_lowest) := ⟨rfl, rfl, rfl, by decide +kernel, rfl, by decide +kernel, by decide +kernel⟩
def B_lowest : FS :=
  (sSeq (sPar2 2 3 (fsC (vF (oA gAbs (ac (fVar 0) a0))) (fsC (vF (fVar 1)) fs0)))
  (sSeq (whileF (o2 dGt (fVar 3) (fC (.int 0))) (sPar2 2 3 (fsC (vF (fVar 3)) (fsC (vF (o2 dMod (fVar 2) (fVar 3))) fs0))) 8)
  (sRet (fTup (ac (o2 dDiv (fVar 0) (fVar 2)) (ac (o2 dDiv (fVar 1) (fVar 2)) a0))))))
def F_lowest : List PyData → Option PyData := runF 4 B_lowest
theorem ok_lowest (T : Txt K mg) : Ok P w K mg base "lowest" ["above", "below"] 1 2 F_lowest :=
  ok_mk (k := 0) T.lowest sc_lowest rfl (fun _ _ _ _ _ _ us hl => match us, hl with | [_, _], _ => rfl) (fun _ _ h => h) fun fa cdv A outer s H He Oa hr =>
      (show PBV _ He Oa (defBody s_lowest) B_lowest from (pbv_cons (psv_par2 (i := 2) (j := 3) rfl sc_lowest.nd rfl rfl (by decide) rfl rfl (pfs_cons (pf_val (pv_bi call_abs gv_abs rfl T.bi.abs (by decide +kernel) (pva_cons (pv_name 0 (pv 0)) pva_nil))) (pfs_cons (pf_val (pv_name 1 (pv 1))) pfs_nil)) (by rfl))
      (pbv_cons (psv_while 8 PassesOwn.never (pvt_cmp op_gt g_gt (pv_name 3 (pv 3)) pv_int (nomark _)) (pbv_one (psv_par2 (i := 2) (j := 3) rfl sc_lowest.nd rfl rfl (by decide) rfl rfl (pfs_cons (pf_val (pv_name 3 (pv 3))) (pfs_cons (pf_val (pv_mod (pv_name 2 (pv 2)) (pv_name 3 (pv 3)))) pfs_nil)) (by rfl))))
      (pbv_one (psv_ret (pv_tup (pva_cons (pv_div (pv_name 0 (pv 0)) (pv_name 2 (pv 2))) (pva_cons (pv_div (pv_name 1 (pv 1)) (pv_name 2 (pv 2))) pva_nil)) (.cons (.cons .nil))))))))
/-! ### sums_from -/
abbrev N_sums_from : List Str := ["graph", "start", "rows", "step", "later", "place", "deed", "new", "cost", "value"]
theorem sc_sums_from : FnScope N_sums_from ["graph", "start"] (defScope s_sums_from) := ⟨rfl, rfl, rfl, by decide +kernel, rfl, by decide +kernel, by decide +kernel⟩
def B_sums_from : FS :=
  (sSeq (sSetF 2 (lF (ac (fFz (dF1 (fVar 1) (fC (.int 0)))) a0)))
  (sSeq (sFor (iR1 (oA gLenD (ac (fVar 0) a0))) (gN 3) (sSeq (sSetF 4 dF0)
  (sSeq (sFor (iK (fOIx 2 (o1 dNeg (fC (.int 1))))) (gN 5) (sFor (iL (o2 dGetD (fVar 0) (fVar 5))) (gT (gsC (gN 6) (gsC (gN 7) (gsC (gN 8) gs0)))) (sSeq (sSet 9 (o2 dAdd (o2 dGetD (fOIx 2 (o1 dNeg (fC (.int 1)))) (fVar 5)) (fVar 8)))
  (sIf (fOr (fOIn true 4 (fVar 7)) (o2 dGt (fVar 9) (fOGet 4 (fVar 7)))) (sPut 4 (fVar 7) (fVar 9)) sNext))))
  (sFrz 4 (sApp 2 (fVar 4))))))
  (sFrz 2 (sRet (fVar 2)))))
def F_sums_from : List PyData → Option PyData := runF 10 B_sums_from
theorem ok_sums_from (T : Txt K mg) : Ok P w K mg base "sums_from" ["graph", "start"] 1 2 F_sums_from :=
  ok_mk (k := 0) T.sums_from sc_sums_from rfl (fun _ _ _ _ _ _ us hl => match us, hl with | [_, _], _ => rfl) (fun _ _ h => h) fun fa cdv A outer s H He Oa hr =>
      (show PBV _ He Oa (defBody s_sums_from) B_sums_from from (pbv_cons (psv_setF (i := 2) (pf_lst (pva_cons (pv_fz (pf_disp hr.units (pv_name 1 (pv 1)) pv_int)) pva_nil) (.cons .nil)) sc_sums_from.nd rfl (.inl rfl))
      (pbv_cons (psv_for PassesOwn.never rfl (piv_rng1 rfl T.bi.range (pv_bi call_lenN gv_lenD rfl T.bi.len boot_len (pva_cons (pv_name 0 (pv 0)) pva_nil))) (pgv_name (pg_name (i := 3) sc_sums_from.nd rfl (.inl rfl))) (pbv_cons (psv_setF (i := 4) pf_dnew sc_sums_from.nd rfl (.inl rfl))
      (pbv_cons (psv_for PassesOwn.never rfl (piv_keys (pv_oix (pv 2) (pv_neg pv_int))) (pgv_name (pg_name (i := 5) sc_sums_from.nd rfl (.inl rfl))) (pbv_one (psv_for PassesOwn.never rfl (piv_list (pv_getD hr.units (pv_name 0 (pv 0)) (pv_name 5 (pv 5)))) (pgv_tup rfl (pgvs_cons (pgv_name (pg_name (i := 6) sc_sums_from.nd rfl (.inl rfl))) (pgvs_cons (pgv_name (pg_name (i := 7) sc_sums_from.nd rfl (.inl rfl))) (pgvs_cons (pgv_name (pg_name (i := 8) sc_sums_from.nd rfl (.inl rfl))) pgvs_nil))) (gsC_len (gsC_len (gsC_len gs0_len)))) (pbv_cons (psv_set (i := 9) (pv_add (pv_getD hr.units (pv_oix (pv 2) (pv_neg pv_int)) (pv_name 5 (pv 5))) (pv_name 8 (pv 8))) sc_sums_from.nd rfl (.inl rfl))
      (pbv_one (psv_if (PW.pt (pvw_or (pvt_notinO hr.units (pv_name 7 (pv 7)) (pv 4)) (pvw_one_or (pvt_cmp op_gt g_gt (pv_name 9 (pv 9)) (pv_getO hr.units (pv 4) (pv_name 7 (pv 7))) (nomark _))))) (pbv_one (psv_put hr.units (pv_name 9 (pv 9)) (pv 4) (pv_name 7 (pv 7)))) pbv_nil))))))
      (pbv_one (psv_frz (j := 4) (psv_app (pv 2) (pv_name 4 (pv 4))))))))
      (pbv_one (psv_frz (j := 2) (psv_ret (pv_name 2 (pv 2))))))))
/-! ### mean_of -/
abbrev N_mean_of : List Str := ["graph", "start", "rows", "many", "best", "place", "least", "step", "pair"]
theorem sc_mean_of : FnScope N_mean_of ["graph", "start"] (defScope s_mean_of) := ⟨rfl, rfl, rfl, by decide +kernel, rfl, by decide +kernel, by decide +kernel⟩
def B_mean_of : FS :=
  (sSeq (sPar3 2 3 4 (fsC (vF (oA F_sums_from (ac (fVar 0) (ac (fVar 1) a0)))) (fsC (vF (oA gLenD (ac (fVar 0) a0))) (fsC (vF (fC .none)) fs0))))
  (sSeq (sFor (iK (o2 dIdx (fVar 2) (fVar 3))) (gN 5) (sSeq (sSet 6 (fC .none))
  (sSeq (sFor (iR1 (fVar 3)) (gN 7) (sIf (o2 (dInD false) (fVar 5) (o2 dIdx (fVar 2) (fVar 7))) (sSeq (sSet 8 (fTup (ac (o2 dSub (o2 dGetD (o2 dIdx (fVar 2) (fVar 3)) (fVar 5)) (o2 dGetD (o2 dIdx (fVar 2) (fVar 7)) (fVar 5))) (ac (o2 dSub (fVar 3) (fVar 7)) a0))))
  (sIf (fOr (o2 dIsN (fVar 6) (fC .none)) (o2 dLt (o2 dMul (o2 dIdx (fVar 8) (fC (.int 0))) (o2 dIdx (fVar 6) (fC (.int 1)))) (o2 dMul (o2 dIdx (fVar 6) (fC (.int 0))) (o2 dIdx (fVar 8) (fC (.int 1)))))) (sSet 6 (fVar 8)) sNext)) sNext))
  (sIf (fOr (o2 dIsN (fVar 4) (fC .none)) (o2 dGt (o2 dMul (o2 dIdx (fVar 6) (fC (.int 0))) (o2 dIdx (fVar 4) (fC (.int 1)))) (o2 dMul (o2 dIdx (fVar 4) (fC (.int 0))) (o2 dIdx (fVar 6) (fC (.int 1)))))) (sSet 4 (fVar 6)) sNext))))
  (sRet (oA F_lowest (ac (o2 dIdx (fVar 4) (fC (.int 0))) (ac (o2 dIdx (fVar 4) (fC (.int 1))) a0))))))
def F_mean_of : List PyData → Option PyData := runF 9 B_mean_of
theorem ok_mean_of (T : Txt K mg) : Ok P w K mg base "mean_of" ["graph", "start"] 2 2 F_mean_of :=
  ok_mk (k := 1) T.mean_of sc_mean_of rfl (fun _ _ _ _ _ _ us hl => match us, hl with | [_, _], _ => rfl) (fun _ _ h => h) fun fa cdv A outer s H He Oa hr =>
      (show PBV _ He Oa (defBody s_mean_of) B_mean_of from (pbv_cons (psv_par3 (i := 2) (j := 3) (l := 4) rfl sc_mean_of.nd rfl rfl rfl (by decide) (by decide) (by decide) rfl rfl rfl (pfs_cons (pf_val (pv_callO (ok_sums_from T) hr (by decide) rfl (pva_cons (pv_name 0 (pv 0)) (pva_cons (pv_name 1 (pv 1)) pva_nil)) (.cons (.cons .nil)))) (pfs_cons (pf_val (pv_bi call_lenN gv_lenD rfl T.bi.len boot_len (pva_cons (pv_name 0 (pv 0)) pva_nil))) (pfs_cons (pf_val pv_non) pfs_nil))) (by rfl))
      (pbv_cons (psv_for PassesOwn.never rfl (piv_keys (pv_ix (pv_name 2 (pv 2)) (pv_name 3 (pv 3)))) (pgv_name (pg_name (i := 5) sc_mean_of.nd rfl (.inl rfl))) (pbv_cons (psv_set (i := 6) pv_non sc_mean_of.nd rfl (.inl rfl))
      (pbv_cons (psv_for PassesOwn.never rfl (piv_rng1 rfl T.bi.range (pv_name 3 (pv 3))) (pgv_name (pg_name (i := 7) sc_mean_of.nd rfl (.inl rfl))) (pbv_one (psv_if (pvt_inD hr.units (pv_name 5 (pv 5)) (pv_ix (pv_name 2 (pv 2)) (pv_name 7 (pv 7)))) (pbv_cons (psv_set (i := 8) (pv_tup (pva_cons (pv_sub (pv_getD hr.units (pv_ix (pv_name 2 (pv 2)) (pv_name 3 (pv 3))) (pv_name 5 (pv 5))) (pv_getD hr.units (pv_ix (pv_name 2 (pv 2)) (pv_name 7 (pv 7))) (pv_name 5 (pv 5)))) (pva_cons (pv_sub (pv_name 3 (pv 3)) (pv_name 7 (pv 7))) pva_nil)) (.cons (.cons .nil))) sc_mean_of.nd rfl (.inl rfl))
      (pbv_one (psv_if (PW.pt (pvw_or (pvt_cmp op_isN g_isN (pv_name 6 (pv 6)) pv_non (nomark _)) (pvw_one_or (pvt_cmp op_lt g_lt (pv_mul (pv_ix (pv_name 8 (pv 8)) pv_int) (pv_ix (pv_name 6 (pv 6)) pv_int)) (pv_mul (pv_ix (pv_name 6 (pv 6)) pv_int) (pv_ix (pv_name 8 (pv 8)) pv_int)) (nomark _))))) (pbv_one (psv_set (i := 6) (pv_name 8 (pv 8)) sc_mean_of.nd rfl (.inl rfl))) pbv_nil))) pbv_nil)))
      (pbv_one (psv_if (PW.pt (pvw_or (pvt_cmp op_isN g_isN (pv_name 4 (pv 4)) pv_non (nomark _)) (pvw_one_or (pvt_cmp op_gt g_gt (pv_mul (pv_ix (pv_name 6 (pv 6)) pv_int) (pv_ix (pv_name 4 (pv 4)) pv_int)) (pv_mul (pv_ix (pv_name 4 (pv 4)) pv_int) (pv_ix (pv_name 6 (pv 6)) pv_int)) (nomark _))))) (pbv_one (psv_set (i := 4) (pv_name 6 (pv 6)) sc_mean_of.nd rfl (.inl rfl))) pbv_nil)))))
      (pbv_one (psv_ret (pv_callO (ok_lowest T) hr (by decide) rfl (pva_cons (pv_ix (pv_name 4 (pv 4)) pv_int) (pva_cons (pv_ix (pv_name 4 (pv 4)) pv_int) pva_nil)) (.cons (.cons .nil))))))))
/-! ### need_endless -/
abbrev N_need_endless : List Str := ["load", "keys"]
theorem sc_need_endless : FnScope N_need_endless ["load", "keys"] (defScope s_need_endless) := ⟨rfl, rfl, rfl, by decide +kernel, rfl, by decide +kernel, by decide +kernel⟩
def B_need_endless : FS :=
  (sSeq (sDrop (oA F_need_load (ac (fVar 0) (ac (fVar 1) a0))))
  (sIf (o2 dEqD (o2 dIdx (fVar 0) (fC (.int 2))) (fTup (ac (fC (.str "in")) a0))) sFail sNext))
def F_need_endless : List PyData → Option PyData := runF 2 B_need_endless
theorem ok_need_endless (T : Txt K mg) : Ok P w K mg base "need_endless" ["load", "keys"] 4 2 F_need_endless :=
  ok_mk (k := 3) T.need_endless sc_need_endless rfl (fun _ _ _ _ _ _ us hl => match us, hl with | [_, _], _ => rfl) (fun _ _ h => h) fun fa cdv A outer s H He Oa hr =>
      (show PBV _ He Oa (defBody s_need_endless) B_need_endless from (pbv_cons (psv_drop (pv_callO (ok_need_load T) hr (by decide) rfl (pva_cons (pv_name 0 (pv 0)) (pva_cons (pv_name 1 (pv 1)) pva_nil)) (.cons (.cons .nil))))
      (pbv_one (psv_if (pvt_cmp (op_eqD hr.units) g_eqD (pv_ix (pv_name 0 (pv 0)) pv_int) (pv_tup (pva_cons pv_str pva_nil) (.cons .nil)) (nomark _)) (pbv_one psv_fail) pbv_nil))))
/-! ### pair_graph -/
abbrev N_pair_graph : List Str := ["one", "other", "load", "graph", "left", "pair", "steps", "deed", "new", "step"]
theorem sc_pair_graph : FnScope N_pair_graph ["one", "other", "load"] (defScope s_pair_graph) := ⟨rfl, rfl, rfl, by decide +kernel, rfl, by decide +kernel, by decide +kernel⟩
def B_pair_graph : FS :=
  (sSeq (sPar2 3 4 (fsC dF0 (fsC (lF (ac (fTup (ac (fTup a0) (ac (fTup a0) a0))) a0)) fs0)))
  (sSeq (whileF (fThaw 4 (o2 dNeE (fVar 4) (fLst a0))) (sSeq (sPop 5 4)
  (sIf (fOIn true 3 (fVar 5)) (sSeq (sSetF 6 (lF a0))
  (sSeq (sFor (iL (oA F_deeds_at (ac (fVar 2) (ac (o2 dIdx (fVar 5) (fC (.int 0))) a0)))) (gN 7) (sSeq (sSet 8 (fTup (ac (oA F_behind (ac (fVar 0) (ac (o2 dIdx (fVar 5) (fC (.int 0))) (ac (fVar 7) a0)))) (ac (oA F_behind (ac (fVar 1) (ac (o2 dIdx (fVar 5) (fC (.int 1))) (ac (fVar 7) a0)))) a0))))
  (sApp 6 (fTup (ac (fVar 7) (ac (fVar 8) (ac (o2 dSub (oA F_cost_of (ac (o2 dIdx (fVar 5) (fC (.int 0))) (ac (fVar 7) a0))) (oA F_cost_of (ac (o2 dIdx (fVar 5) (fC (.int 1))) (ac (fVar 7) a0)))) a0)))))))
  (sSeq (sFrz 6 (sPut 3 (fVar 5) (fVar 6)))
  (sExt 4 (fComp [9] (iL (fVar 6)) (gN 9) (fC (.bool true)) (o2 dIdx (fVar 9) (fC (.int 1)))))))) sNext)) 4000)
  (sFrz 3 (sRet (fVar 3)))))
def F_pair_graph : List PyData → Option PyData := runF 10 B_pair_graph
theorem ok_pair_graph (T : Txt K mg) : Ok P w K mg base "pair_graph" ["one", "other", "load"] 22 3 F_pair_graph :=
  ok_mk (k := 21) T.pair_graph sc_pair_graph rfl (fun _ _ _ _ _ _ us hl => match us, hl with | [_, _, _], _ => rfl) (fun _ _ h => h) fun fa cdv A outer s H He Oa hr =>
      (show PBV _ He Oa (defBody s_pair_graph) B_pair_graph from (pbv_cons (psv_par2 (i := 3) (j := 4) rfl sc_pair_graph.nd rfl rfl (by decide) rfl rfl (pfs_cons pf_dnew (pfs_cons (pf_lst (pva_cons (pv_tup (pva_cons (pv_tup pva_nil .nil) (pva_cons (pv_tup pva_nil .nil) pva_nil)) (.cons (.cons .nil))) pva_nil) (.cons .nil)) pfs_nil)) (by rfl))
      (pbv_cons (psv_while 4000 PassesOwn.never (pvt_thaw 4 (pvt_cmp (op_neR hr.units) g_neE (pv_name 4 (pv 4)) (pv_lst pva_nil .nil) (nomark _))) (pbv_cons (psv_pop (i := 5) (pv 4) sc_pair_graph.nd rfl (.inl rfl))
      (pbv_one (psv_if (pvt_notinO hr.units (pv_name 5 (pv 5)) (pv 3)) (pbv_cons (psv_setF (i := 6) (pf_lst pva_nil .nil) sc_pair_graph.nd rfl (.inl rfl))
      (pbv_cons (psv_for PassesOwn.never rfl (piv_list (pv_callO (ok_deeds_at T) hr (by decide) rfl (pva_cons (pv_name 2 (pv 2)) (pva_cons (pv_ix (pv_name 5 (pv 5)) pv_int) pva_nil)) (.cons (.cons .nil)))) (pgv_name (pg_name (i := 7) sc_pair_graph.nd rfl (.inl rfl))) (pbv_cons (psv_set (i := 8) (pv_tup (pva_cons (pv_callO (ok_behind T) hr (by decide) rfl (pva_cons (pv_name 0 (pv 0)) (pva_cons (pv_ix (pv_name 5 (pv 5)) pv_int) (pva_cons (pv_name 7 (pv 7)) pva_nil))) (.cons (.cons (.cons .nil)))) (pva_cons (pv_callO (ok_behind T) hr (by decide) rfl (pva_cons (pv_name 1 (pv 1)) (pva_cons (pv_ix (pv_name 5 (pv 5)) pv_int) (pva_cons (pv_name 7 (pv 7)) pva_nil))) (.cons (.cons (.cons .nil)))) pva_nil)) (.cons (.cons .nil))) sc_pair_graph.nd rfl (.inl rfl))
      (pbv_one (psv_app (pv 6) (pv_tup (pva_cons (pv_name 7 (pv 7)) (pva_cons (pv_name 8 (pv 8)) (pva_cons (pv_sub (pv_callO (ok_cost_of T) hr (by decide) rfl (pva_cons (pv_ix (pv_name 5 (pv 5)) pv_int) (pva_cons (pv_name 7 (pv 7)) pva_nil)) (.cons (.cons .nil))) (pv_callO (ok_cost_of T) hr (by decide) rfl (pva_cons (pv_ix (pv_name 5 (pv 5)) pv_int) (pva_cons (pv_name 7 (pv 7)) pva_nil)) (.cons (.cons .nil)))) pva_nil))) (.cons (.cons (.cons .nil))))))))
      (pbv_cons (psv_frz (j := 6) (psv_put hr.units (pv_name 6 (pv 6)) (pv 3) (pv_name 5 (pv 5))))
      (pbv_one (psv_ext (pv 4) (pv_comp (own := [("step", 9)]) rfl sc_pair_graph.nd (piv_list (pv_name 6 (pv 6))) (blkOk_by (own := [("step", 9)]) (N := N_pair_graph) (sc := defScope s_pair_graph) (by decide +kernel)) (fun _ _ _ _ _ => (pgv_name (pg_name (i := 9) sc_pair_graph.nd rfl (.inl rfl)))) (fun _ _ _ _ _ => ptv_nil) (fun _ _ _ _ _ => (pv_ix (pv_name 9 (pv 9)) pv_int)) (by decide))))))) pbv_nil))))
      (pbv_one (psv_frz (j := 3) (psv_ret (pv_name 3 (pv 3))))))))
/-! ### need_lead -/
abbrev N_need_lead : List Str := ["one", "other", "load"]
theorem sc_need_lead : FnScope N_need_lead ["one", "other", "load"] (defScope s_need_lead) := ⟨rfl, rfl, rfl, by decide +kernel, rfl, by decide +kernel, by decide +kernel⟩
def B_need_lead : FS :=
  (sSeq (sDrop (oA F_need_rule (ac (fVar 0) a0)))
  (sSeq (sDrop (oA F_need_rule (ac (fVar 1) a0)))
  (sDrop (oA F_need_endless (ac (fVar 2) (ac (fC (.int 3)) a0))))))
def F_need_lead : List PyData → Option PyData := runF 3 B_need_lead
theorem ok_need_lead (T : Txt K mg) : Ok P w K mg base "need_lead" ["one", "other", "load"] 5 3 F_need_lead :=
  ok_mk (k := 4) T.need_lead sc_need_lead rfl (fun _ _ _ _ _ _ us hl => match us, hl with | [_, _, _], _ => rfl) (fun _ _ h => h) fun fa cdv A outer s H He Oa hr =>
      (show PBV _ He Oa (defBody s_need_lead) B_need_lead from (pbv_cons (psv_drop (pv_callO (ok_need_rule T) hr (by decide) rfl (pva_cons (pv_name 0 (pv 0)) pva_nil) (.cons .nil)))
      (pbv_cons (psv_drop (pv_callO (ok_need_rule T) hr (by decide) rfl (pva_cons (pv_name 1 (pv 1)) pva_nil) (.cons .nil)))
      (pbv_one (psv_drop (pv_callO (ok_need_endless T) hr (by decide) rfl (pva_cons (pv_name 2 (pv 2)) (pva_cons pv_int pva_nil)) (.cons (.cons .nil))))))))
/-! ### greatest_lead -/
abbrev N_greatest_lead : List Str := ["one", "other", "load"]
theorem sc_greatest_lead : FnScope N_greatest_lead ["one", "other", "load"] (defScope s_greatest_lead) := ⟨rfl, rfl, rfl, by decide +kernel, rfl, by decide +kernel, by decide +kernel⟩
def B_greatest_lead : FS :=
  (sSeq (sDrop (oA F_need_lead (ac (fVar 0) (ac (fVar 1) (ac (fVar 2) a0)))))
  (sRet (oA F_mean_of (ac (oA F_pair_graph (ac (fVar 0) (ac (fVar 1) (ac (fVar 2) a0)))) (ac (fTup (ac (fTup a0) (ac (fTup a0) a0))) a0)))))
def F_greatest_lead : List PyData → Option PyData := runF 3 B_greatest_lead
theorem ok_greatest_lead (T : Txt K mg) : Ok P w K mg base "greatest_lead" ["one", "other", "load"] 23 3 F_greatest_lead :=
  ok_mk (k := 22) T.greatest_lead sc_greatest_lead rfl (fun _ _ _ _ _ _ us hl => match us, hl with | [_, _, _], _ => rfl) (fun _ _ h => h) fun fa cdv A outer s H He Oa hr =>
      (show PBV _ He Oa (defBody s_greatest_lead) B_greatest_lead from (pbv_cons (psv_drop (pv_callO (ok_need_lead T) hr (by decide) rfl (pva_cons (pv_name 0 (pv 0)) (pva_cons (pv_name 1 (pv 1)) (pva_cons (pv_name 2 (pv 2)) pva_nil))) (.cons (.cons (.cons .nil)))))
      (pbv_one (psv_ret (pv_callO (ok_mean_of T) hr (by decide) rfl (pva_cons (pv_callO (ok_pair_graph T) hr (by decide) rfl (pva_cons (pv_name 0 (pv 0)) (pva_cons (pv_name 1 (pv 1)) (pva_cons (pv_name 2 (pv 2)) pva_nil))) (.cons (.cons (.cons .nil)))) (pva_cons (pv_tup (pva_cons (pv_tup pva_nil .nil) (pva_cons (pv_tup pva_nil .nil) pva_nil)) (.cons (.cons .nil))) pva_nil)) (.cons (.cons .nil)))))))
/-! ### law_keys -/
abbrev N_law_keys : List Str := ["_law_shape"]
theorem sc_law_keys : FnScope N_law_keys ["_law_shape"] (defScope s_law_keys) := ⟨rfl, rfl, rfl, by decide +kernel, rfl, by decide +kernel, by decide +kernel⟩
def B_law_keys (self : List PyData → Option PyData) : FS :=
  (sRet (fIf (o2 dNeE (fVar 0) (fTup a0)) (o2 dAdd (o2 dAdd (oA self (ac (o2 dIdx (fVar 0) (fC (.int 0))) a0)) (fLst (ac (o2 dIdx (fVar 0) (fC (.int 1))) a0))) (oA self (ac (o2 dIdx (fVar 0) (fC (.int 2))) a0))) (fLst a0)))
def F_law_keys : Nat → List PyData → Option PyData
  | 0 => fun _ => none
  | k + 1 => runF 1 (B_law_keys (F_law_keys k))
theorem ok_law_keys (T : Txt K mg) : ∀ j : Nat, Ok P w K mg base "_law_keys" ["_law_shape"] (0 + j) 1 (F_law_keys j) := by
  intro j
  induction j with
  | zero => exact ok_zero T.law_keys rfl (fun _ _ _ _ _ _ us hl => match us, hl with | [_], _ => rfl) fun _ => rfl
  | succ j ih =>
    exact ok_mk (k := 0 + j) T.law_keys sc_law_keys rfl (fun _ _ _ _ _ _ us hl => match us, hl with | [_], _ => rfl) (fun _ _ h => h) fun fa cdv A outer s H He Oa hr =>
      (show PBV _ He Oa (defBody s_law_keys) (B_law_keys (F_law_keys j)) from (pbv_one (psv_ret (pv_ifExp (pvt_cmp (op_neR hr.units) g_neE (pv_name 0 (pv 0)) (pv_tup pva_nil .nil) (nomark _)) (pv_add (pv_add (pv_callO ih hr (by omega) rfl (pva_cons (pv_ix (pv_name 0 (pv 0)) pv_int) pva_nil) (.cons .nil)) (pv_lst (pva_cons (pv_ix (pv_name 0 (pv 0)) pv_int) pva_nil) (.cons .nil))) (pv_callO ih hr (by omega) rfl (pva_cons (pv_ix (pv_name 0 (pv 0)) pv_int) pva_nil) (.cons .nil))) (pv_lst pva_nil .nil)))))
end
end L3

/-! L3N: the law's own defs draw numbers: promises that leave the number open; the town, a list of two ints, stands at slot 1, the script at slot 0. -/
namespace L3
open PySem PySem.Spec PyProof.Rows L2

structure Tn where
  s : Addr
  t : Addr
  ns : List Int
  He : Hp
  Oa : Addr → Prop
/-- the script stands -/
def ScrOk (K : PySem.W.Frag) (O : Addr → Prop) (H : Hp) (s : Addr) (ns : List Int) : Prop := (Rd H s (.lst (ns.map V.int)) ∧ ¬ O s) ∨ ∀ H', SqL K H' s (ns.map V.int)
theorem ScrOk.sq {K : PySem.W.Frag} {O : Addr → Prop} {H : Hp} {s : Addr} {ns : List Int} (h : ScrOk K O H s ns) : SqL K H s (ns.map V.int) := by
  rcases h with ⟨h, _⟩ | h
  · exact .inl h
  · exact h H
theorem ScrOk.go {K : PySem.W.Frag} {O O' : Addr → Prop} {H H' : Hp} {s : Addr} {ns : List Int} (h : ScrOk K O H s ns) (c : Same (cut O H) (cut O' H')) : ScrOk K O' H' s ns := by
  rcases h with ⟨h | ⟨o, h⟩, n⟩ | h
  · have q := cut_of (c s _ (by rw [cut_at n]; exact h))
    exact .inl ⟨.inl q.1, q.2⟩
  · have q := cut_of (c s _ (by rw [cut_at n]; exact h))
    exact .inl ⟨.inr ⟨o, q.1⟩, q.2⟩
  · exact .inr h
def townE (p q : Int) : EV := .lst [.int p, .int q]
structure AmbN (X : Cx) (C : Tn) (O : Addr → Prop) (ρ : PEnv) (σ : L2.St) (H : Hp) : Prop where
  am : Amb C.He C.Oa O ρ σ H
  scr : σ[0]? = some (some (V.ref C.s))
  twn : σ[1]? = some (some (V.ref C.t))
  lst : ScrOk X.K O H C.s C.ns
  tow : ∃ p q : Int, ρ[1]? = some (some (townE p q)) ∧ 0 ≤ p ∧ 0 ≤ q

abbrev WE := PEnv → (PyData → PEnv → Prop) → Prop
abbrev WA := PEnv → (List PyData → PEnv → Prop) → Prop
abbrev WT := PEnv → (Bool → PEnv → Prop) → Prop
abbrev WS := PEnv → (PEnv → Prop) → (PyData → PEnv → Prop) → Prop
def MoE (w : WE) : Prop := ∀ ρ Φ Φ', (∀ d ρ', Φ d ρ' → Φ' d ρ') → w ρ Φ → w ρ Φ'
def MoA (w : WA) : Prop := ∀ ρ Φ Φ', (∀ d ρ', Φ d ρ' → Φ' d ρ') → w ρ Φ → w ρ Φ'
def MoT (w : WT) : Prop := ∀ ρ Φ Φ', (∀ d ρ', Φ d ρ' → Φ' d ρ') → w ρ Φ → w ρ Φ'
def MoS (w : WS) : Prop := ∀ ρ N N' R R', (∀ ρ', N ρ' → N' ρ') → (∀ d ρ', R d ρ' → R' d ρ') → w ρ N R → w ρ N' R'
def tNE (X : Cx) (C : Tn) (w : WE) : TE := fun σ H Q => ∃ O ρ, EnvX X O ρ σ H ∧ AmbN X C O ρ σ H ∧ w ρ fun d ρ' => ∀ v O' H', EnvX X O' ρ' σ H' → AmbN X C O' ρ' σ H' → Same (cut O H) (cut O' H') → RpX X (cut O' H') v d → Q v H'
def tNA (X : Cx) (C : Tn) (w : WA) : TA := fun σ H Q => ∃ O ρ, EnvX X O ρ σ H ∧ AmbN X C O ρ σ H ∧ w ρ fun d ρ' => ∀ v O' H', EnvX X O' ρ' σ H' → AmbN X C O' ρ' σ H' → Same (cut O H) (cut O' H') → RpAllX X (cut O' H') v d → Q v H'
def tNT (X : Cx) (C : Tn) (w : WT) : TT := fun σ H Q => ∃ O ρ, EnvX X O ρ σ H ∧ AmbN X C O ρ σ H ∧ w ρ fun b ρ' => ∀ O' H', EnvX X O' ρ' σ H' → AmbN X C O' ρ' σ H' → Same (cut O H) (cut O' H') → Q b H'
def tNS (X : Cx) (C : Tn) (w : WS) : TS := fun D σ H => ∃ O ρ, EnvX X O ρ σ H ∧ AmbN X C O ρ σ H ∧ w ρ (fun ρ' => ∀ O' σ' H', EnvX X O' ρ' σ' H' → AmbN X C O' ρ' σ' H' → Same (cut O H) (cut O' H') → D.nx σ' H')
  fun d ρ' => ∀ v O' σ' H', EnvX X O' ρ' σ' H' → AmbN X C O' ρ' σ' H' → Same (cut O H) (cut O' H') → RpX X (cut O' H') v d → D.rt v H'
structure NE (X : Cx) (C : Tn) (e : Expr) (w : WE) : Prop where
  pe : PE X e (tNE X C w)
  mo : MoE w
structure NA (X : Cx) (C : Tn) (e : List Expr) (w : WA) : Prop where
  pe : PA X e (tNA X C w)
  mo : MoA w
structure NT (X : Cx) (C : Tn) (e : Expr) (w : WT) : Prop where
  pe : PT X e (tNT X C w)
  mo : MoT w
structure NW (X : Cx) (C : Tn) (e : Expr) (w : WT) : Prop where
  pe : PW X e (tNT X C w)
  mo : MoT w
structure NS (X : Cx) (C : Tn) (e : Stmt) (w : WS) : Prop where
  pe : PS X e (tNS X C w)
  mo : MoS w
structure NB (X : Cx) (C : Tn) (e : List Stmt) (w : WS) : Prop where
  pe : PSs X e (tNS X C w)
  mo : MoS w

def wP (f : FE) : WE := fun ρ Φ => ∃ d, f ρ = some d ∧ Φ d ρ
def wPA (f : FA) : WA := fun ρ Φ => ∃ d, f ρ = some d ∧ Φ d ρ
def wPT (f : FE) : WT := fun ρ Φ => ∃ b, f ρ = some (.bool b) ∧ Φ b ρ
def wO2 (g : PyData → PyData → Option PyData) (w w' : WE) : WE := fun ρ Φ => w ρ fun x ρ1 => w' ρ1 fun y ρ2 => ∃ z, g x y = some z ∧ Φ z ρ2
def wA0 : WA := fun ρ Φ => Φ [] ρ
def wAc (w : WE) (r : WA) : WA := fun ρ Φ => w ρ fun x ρ1 => r ρ1 fun xs ρ2 => Φ (x :: xs) ρ2
def wTup (w : WA) : WE := fun ρ Φ => w ρ fun xs ρ1 => xs.length ≤ 30 ∧ Φ (.tuple xs) ρ1
def wOA (g : List PyData → Option PyData) (w : WA) : WE := fun ρ Φ => w ρ fun xs ρ1 => ∃ z, g xs = some z ∧ Φ z ρ1
def wIf (c : WT) (w w' : WE) : WE := fun ρ Φ => c ρ fun b ρ1 => if b = true then w ρ1 Φ else w' ρ1 Φ
def wT (w : WE) : WT := fun ρ Φ => w ρ fun d ρ1 => ∃ b, d = .bool b ∧ Φ b ρ1
def wAnd (c c' : WT) : WT := fun ρ Φ => c ρ fun b ρ1 => if b = true then c' ρ1 Φ else Φ false ρ1
def wOr (c c' : WT) : WT := fun ρ Φ => c ρ fun b ρ1 => if b = true then Φ true ρ1 else c' ρ1 Φ
abbrev WF := List PyData → (PyData → Prop) → Prop
def MoF (W : WF) : Prop := ∀ ds Φ Φ', (∀ d, Φ d → Φ' d) → W ds Φ → W ds Φ'
def wCall (n : Nat) (W : WF) (w : WA) : WE := fun ρ Φ => w ρ fun ds ρ1 => ds.length = n ∧ W ds fun d => ∀ p q : Int, 0 ≤ p → 0 ≤ q → Φ d (ρ1.set 1 (some (townE p q)))
def spN (P : Program) (w : World) (K : PySem.W.Frag) (n : Nat) (W : WF) : Sp := fun vs H Q _ => ∃ O s t ns p q vs' ds, vs = V.ref s :: V.ref t :: vs' ∧ ScrOk K O H s ns ∧ ns.length ≤ 63 ∧ O t ∧ H t = some (.lst [.int p, .int q]) ∧ 0 ≤ p ∧ 0 ≤ q ∧ Sub O H ∧
  RpAll P w K (cut O H) vs' ds ∧ ds.length = n ∧ W ds fun d => ∀ v H' p' q', 0 ≤ p' → 0 ≤ q' → H' t = some (.lst [.int p', .int q']) → (∀ a u, a ≠ t → H a = some u → H' a = some u) → Rp P w K (cut O H') v d → Q v H'
section
variable {X : Cx} {C : Tn} {e a b c o tg : Expr} {es : List Expr} {st : Stmt} {sts : List Stmt} {w w' : WE} {wa : WA} {wt wt' : WT} {ws ws' : WS} {f : FE} {fa : FA} {pos : Pos}
theorem amb_same {O : Addr → Prop} {ρ : PEnv} {σ : L2.St} {H H' : Hp} (m : AmbN X C O ρ σ H) (s : Same H H') : AmbN X C O ρ σ H' := ⟨m.am.go s .refl, m.scr, m.twn, m.lst.go (cut_same s), m.tow⟩
theorem ne_pure (h : PV X e f) : NE X C e (wP f) := ⟨PE.mono h fun σ H Q ⟨O, ρ, ok, m, d, e, q⟩ => ⟨O, ρ, d, ok, e, fun v H' s r => q v O H' (ok.same s) (amb_same m s) (cut_same s) r⟩,
  fun ρ Φ Φ' h ⟨d, e, q⟩ => ⟨d, e, h d ρ q⟩⟩
theorem na_pure (h : PVA X es fa) : NA X C es (wPA fa) := ⟨PA.mono h fun σ H Q ⟨O, ρ, ok, m, d, e, q⟩ => ⟨O, ρ, d, ok, e, fun v H' s r => q v O H' (ok.same s) (amb_same m s) (cut_same s) r⟩,
  fun ρ Φ Φ' h ⟨d, e, q⟩ => ⟨d, e, h d ρ q⟩⟩
theorem nt_pure (h : PVT X e f) : NT X C e (wPT f) := ⟨PT.mono h fun σ H Q ⟨O, ρ, ok, m, d, e, q⟩ => ⟨O, ρ, d, ok, e, fun H' s => q O H' (ok.same s) (amb_same m s) (cut_same s)⟩,
  fun ρ Φ Φ' h ⟨d, e, q⟩ => ⟨d, e, h d ρ q⟩⟩
theorem tOpN {r : R2} {g : PyData → PyData → Option PyData} (hg : Gives2 X r g) (h1 : NE X C a w) (h2 : NE X C b w') (σ : L2.St) (H : Hp) (Q : VK) (h : tNE X C (wO2 g w w') σ H Q) : tOp r (tNE X C w) (tNE X C w') σ H Q := by
  obtain ⟨O, ρ, ok, m, q⟩ := h
  refine ⟨O, ρ, ok, m, h1.mo ρ _ _ (fun x ρ1 q1 v1 O1 H1 ok1 m1 s1 r1 => ⟨O1, ρ1, ok1, m1, h2.mo ρ1 _ _ (fun y ρ2 ⟨z, ez, q2⟩ v2 O2 H2 ok2 m2 s2 r2 => ?_) q1⟩) q⟩
  exact hg O2 H2 v1 v2 x y z Q ok2.sub (r1.mono s2) r2 ez fun v H' s3 r3 => q2 v O2 H' (ok2.same s3) (amb_same m2 s3) (s1.trans (s2.trans (cut_same s3))) r3
theorem mo_O2 {g : PyData → PyData → Option PyData} (h1 : MoE w) (h2 : MoE w') : MoE (wO2 g w w') := fun ρ Φ Φ' h q => h1 ρ _ _ (fun x ρ1 q1 => h2 ρ1 _ _ (fun y ρ2 ⟨z, ez, q2⟩ => ⟨z, ez, h z ρ2 q2⟩) q1) q
theorem ne_bin {op : Operator} {r : R2} {g : PyData → PyData → Option PyData} (ho : OpR X (binaryOp op) r) (hg : Gives2 X r g) (h1 : NE X C a w) (h2 : NE X C b w') : NE X C (.BinOp a op b pos) (wO2 g w w') := ⟨PE.mono (pe_op ho h1.pe h2.pe) (tOpN hg h1 h2), mo_O2 h1.mo h2.mo⟩
theorem nt_cmp {op : CmpOp} {r : R2} {g : PyData → PyData → Option PyData} (ho : OpR X (compareOp op) r) (hg : Gives2 X r g) (h1 : NE X C a w) (h2 : NE X C b w') (hm : behindInMarks op b = false) : NT X C (.Compare a [op] [b] pos) (wT (wO2 g w w')) :=
  ⟨PT.mono (pt_cmpR ho h1.pe h2.pe hm) fun σ H Q ⟨O, ρ, ok, m, q⟩ => tOpN hg h1 h2 σ H _ ⟨O, ρ, ok, m, mo_O2 h1.mo h2.mo ρ _ _ (fun d ρ1 ⟨k, e, q1⟩ v O1 H1 ok1 m1 s1 r1 => ⟨k, by subst e; exact bl_of r1, q1 O1 H1 ok1 m1 s1⟩) q⟩,
    fun ρ Φ Φ' h q => mo_O2 h1.mo h2.mo ρ _ _ (fun d ρ1 ⟨k, e, q1⟩ => ⟨k, e, h k ρ1 q1⟩) q⟩
theorem ne_ix (h1 : NE X C a w) (h2 : NE X C b w') (hs : PlainIx b := by exact fun _ _ => rfl) : NE X C (.Subscript a b pos) (wO2 dIdx w w') := ⟨PE.mono (pe_ix (ix_list.or ix_tup) h1.pe h2.pe hs) (tOpN g_ix h1 h2), mo_O2 h1.mo h2.mo⟩
theorem na_nil : NA X C [] wA0 := ⟨PA.mono pa_nil fun σ H Q ⟨O, ρ, ok, m, q⟩ => q [] O H ok m (Same.refl _) .nil, fun ρ Φ Φ' h q => h _ _ q⟩
theorem na_cons (h1 : NE X C e w) (h2 : NA X C es wa) (hs : starEach (e :: es) X.env = (false, eval e X.env) :: starEach es X.env := by rfl) : NA X C (e :: es) (wAc w wa) :=
  ⟨PA.mono (pa_cons h1.pe h2.pe hs) fun σ H Q ⟨O, ρ, ok, m, q⟩ => ⟨O, ρ, ok, m, h1.mo ρ _ _ (fun x ρ1 q1 v1 O1 H1 ok1 m1 s1 r1 => ⟨O1, ρ1, ok1, m1, h2.mo ρ1 _ _ (fun xs ρ2 q2 v2 O2 H2 ok2 m2 s2 r2 => q2 _ O2 H2 ok2 m2 (s1.trans s2) (.cons (r1.mono s2) r2)) q1⟩) q⟩,
    fun ρ Φ Φ' h q => h1.mo ρ _ _ (fun x ρ1 q1 => h2.mo ρ1 _ _ (fun xs ρ2 q2 => h _ _ q2) q1) q⟩
theorem amb_upd {O : Addr → Prop} {ρ : PEnv} {σ : L2.St} {H : Hp} {p : Addr} {u : HO} (ok : EnvX X O ρ σ H) (m : AmbN X C O ρ σ H) (hp : H p = none) : EnvX X O ρ σ (upd H p u) ∧ AmbN X C O ρ σ (upd H p u) := ⟨ok.same (same_upd hp), amb_same m (same_upd hp)⟩
theorem ne_tup {x1 : Nat} (h : NA X C es wa) : NE X C (.Tuple es x1 pos) (wTup wa) := ⟨PE.mono (pe_tup h.pe) fun σ H Q ⟨O, ρ, ok, m, q⟩ => ⟨O, ρ, ok, m, h.mo ρ _ _ (fun xs ρ1 ⟨hl, q1⟩ vs O1 H1 ok1 m1 s1 r1 => ⟨by
    rw [r1.len]
    exact small30 hl, fun p hp => q1 _ O1 _ (amb_upd ok1 m1 hp).1 (amb_upd ok1 m1 hp).2 (s1.trans (cut_new ok1.sub hp)) (.tup (SqT.of (cut_newat ok1.sub hp)) (r1.mono (cut_new ok1.sub hp)))⟩) q⟩,
  fun ρ Φ Φ' h' q => h.mo ρ _ _ (fun xs ρ1 ⟨hl, q1⟩ => ⟨hl, h' _ _ q1⟩) q⟩
theorem ne_bi {id : String} {rr : List V → Hp → VK → Prop} {g : List PyData → Option PyData} {x : Str} {p : Pos} (hc : CallR X (.builtin id) rr) (hgv : GivesA X rr g) (hg : Gl X x) (hm : X.mg x = none) (hv : bootBuiltins x = some (.builtin id)) (ha : NA X C (e :: es) wa)
    (hn : x ≠ "__name__" := by decide) (hdb : (x == ("__debug__" : Str)) = false := by decide)
    (he : starEach (e :: es) X.env = (false, eval e X.env) :: starEach es X.env := by rfl) (hpl : (backTo pos (starEach es X.env)).any (·.1) = false := by rfl) : NE X C (.Call (.Name x p) (e :: es) [] pos) (wOA g wa) :=
  ⟨PE.mono (pe_callB hc hg hm hv ha.pe hn hdb he hpl) fun σ H Q ⟨O, ρ, ok, m, q⟩ => ⟨O, ρ, ok, m, ha.mo ρ _ _ (fun xs ρ1 ⟨z, ez, q1⟩ vs O1 H1 ok1 m1 s1 r1 => hgv O1 H1 vs xs z Q ok1.sub r1 ez fun v H2 s2 r2 => q1 v O1 H2 (ok1.same s2) (amb_same m1 s2) (s1.trans (cut_same s2)) r2) q⟩,
    fun ρ Φ Φ' h q => ha.mo ρ _ _ (fun xs ρ1 ⟨z, ez, q1⟩ => ⟨z, ez, h _ _ q1⟩) q⟩
theorem ne_if (hc : NT X C c wt) (h1 : NE X C a w) (h2 : NE X C b w') : NE X C (.IfExp c a b pos) (wIf wt w w') := ⟨PE.mono (pe_ifExp hc.pe h1.pe h2.pe) fun σ H Q ⟨O, ρ, ok, m, q⟩ => ⟨O, ρ, ok, m, hc.mo ρ _ _ (fun k ρ1 q1 O1 H1 ok1 m1 s1 => by
    cases k with
    | true => exact iteT ⟨O1, ρ1, ok1, m1, h1.mo ρ1 _ _ (fun d ρ2 q2 v O2 H2 ok2 m2 s2 r2 => q2 v O2 H2 ok2 m2 (s1.trans s2) r2) q1⟩
    | false => exact iteF ⟨O1, ρ1, ok1, m1, h2.mo ρ1 _ _ (fun d ρ2 q2 v O2 H2 ok2 m2 s2 r2 => q2 v O2 H2 ok2 m2 (s1.trans s2) r2) q1⟩) q⟩,
  fun ρ Φ Φ' h q => hc.mo ρ _ _ (fun k ρ1 q1 => by
    cases k with
    | true => exact h1.mo ρ1 _ _ h q1
    | false => exact h2.mo ρ1 _ _ h q1) q⟩
theorem nw_one_and (h : NT X C a wt) : NW X C (.BoolOp .And [a] pos) wt := ⟨pw_and1 h.pe, h.mo⟩
theorem nw_one_or (h : NT X C a wt) : NW X C (.BoolOp .Or [a] pos) wt := ⟨pw_or1 h.pe, h.mo⟩
theorem NW.nt (h : NW X C e wt) : NT X C e wt := ⟨PW.pt h.pe, h.mo⟩
theorem nw_and {rest : List Expr} (h1 : NT X C a wt) (h2 : NW X C (.BoolOp .And (b :: rest) pos) wt') : NW X C (.BoolOp .And (a :: b :: rest) pos) (wAnd wt wt') := ⟨PW.mono (pw_and h1.pe h2.pe) fun σ H Q ⟨O, ρ, ok, m, q⟩ => ⟨O, ρ, ok, m, h1.mo ρ _ _ (fun k ρ1 q1 O1 H1 ok1 m1 s1 => by
    cases k with
    | true => exact iteT ⟨O1, ρ1, ok1, m1, h2.mo ρ1 _ _ (fun d ρ2 q2 O2 H2 ok2 m2 s2 => q2 O2 H2 ok2 m2 (s1.trans s2)) q1⟩
    | false => exact iteF (q1 O1 H1 ok1 m1 s1)) q⟩,
  fun ρ Φ Φ' h q => h1.mo ρ _ _ (fun k ρ1 q1 => by
    cases k with
    | true => exact h2.mo ρ1 _ _ h q1
    | false => exact h _ _ q1) q⟩
theorem nw_or {rest : List Expr} (h1 : NT X C a wt) (h2 : NW X C (.BoolOp .Or (b :: rest) pos) wt') : NW X C (.BoolOp .Or (a :: b :: rest) pos) (wOr wt wt') := ⟨PW.mono (pw_or h1.pe h2.pe) fun σ H Q ⟨O, ρ, ok, m, q⟩ => ⟨O, ρ, ok, m, h1.mo ρ _ _ (fun k ρ1 q1 O1 H1 ok1 m1 s1 => by
    cases k with
    | false => exact iteF ⟨O1, ρ1, ok1, m1, h2.mo ρ1 _ _ (fun d ρ2 q2 O2 H2 ok2 m2 s2 => q2 O2 H2 ok2 m2 (s1.trans s2)) q1⟩
    | true => exact iteT (q1 O1 H1 ok1 m1 s1)) q⟩,
  fun ρ Φ Φ' h q => h1.mo ρ _ _ (fun k ρ1 q1 => by
    cases k with
    | false => exact h2.mo ρ1 _ _ h q1
    | true => exact h _ _ q1) q⟩
/-- f(script, town, e, ..) -/
theorem EnvOk.town {P : Program} {w : World} {K : PySem.W.Frag} {O : Addr → Prop} {ρ : PEnv} {σ : L2.St} {H H' : Hp} {t : Addr} {p q p' q' : Int} (ok : EnvOk P w K O ρ σ H) (h : ρ[1]? = some (some (townE p q))) (ha : σ[1]? = some (some (V.ref t))) (o : O t)
    (e : H' t = some (.lst [.int p', .int q'])) (k : ∀ a u, a ≠ t → H a = some u → H' a = some u) : EnvOk P w K O (ρ.set 1 (some (townE p' q'))) σ H' ∧ Same (cut O H) (cut O H') := by
  have ok1 := ok.write (ds' := [.int p', .int q']) (vs' := [.int p', .int q']) h ha o (.cons (.int _) (.cons (.int _) .nil))
  refine ⟨ok1.same fun a u ea => ?_, fun a u ea => ?_⟩
  · by_cases z : a = t
    · rw [z, upd_same] at ea
      cases ea
      rw [z]
      exact e
    · rw [upd_ne z] at ea
      exact k a u z ea
  · obtain ⟨e1, e2⟩ := cut_of ea
    rw [cut_at e2]
    exact k a u (fun z => e2 (z ▸ o)) e1
theorem ne_call {k lv n : Nat} {f : Addr} {fd : FuncData} {ps : List Str} {W : WF} {x : Str} {p p0 p1 : Pos} {x0 x1 : Str} (F : FnOk X.prog X.w X.K X.mg X.base CX0 lv f fd ps (spN X.prog X.w X.K n W)) (hr : Room k X.A) (hlv : lv ≤ k) (hg : Gl X x) (hm : X.mg x = some (.ref f)) (hk : PySem.W.keepIn X.K (.ref f) = true) (hb : Binds X.K fd ps [])
    (hW : MoF W) (h63 : C.ns.length ≤ 63) (h0 : PE X (.Name x0 p0) (tVar 0)) (h1 : PE X (.Name x1 p1) (tVar 1)) (ha : NA X C es wa) (hdb : (x == ("__debug__" : Str)) = false := by decide)
    (hs0 : starEach (.Name x0 p0 :: .Name x1 p1 :: es) X.env = (false, eval (.Name x0 p0) X.env) :: starEach (.Name x1 p1 :: es) X.env := by rfl) (hs1 : starEach (.Name x1 p1 :: es) X.env = (false, eval (.Name x1 p1) X.env) :: starEach es X.env := by rfl)
    (hpl : (backTo pos (starEach (.Name x1 p1 :: es) X.env)).any (·.1) = false := by rfl) : NE X C (.Call (.Name x p) (.Name x0 p0 :: .Name x1 p1 :: es) [] pos) (wCall n W wa) := by
  refine ⟨PE.mono (pe_call F (hr.mono hlv) hg hm hk hb .nil pass0 (pa_cons h0 (pa_cons h1 ha.pe hs1) hs0) hdb hs0 hpl) fun σ H Q ⟨O, ρ, ok, m, q⟩ => ?_, fun ρ Φ Φ' h q => ha.mo ρ _ _ (fun ds ρ1 ⟨hl, q1⟩ => ⟨hl, hW _ _ _ (fun d q2 p q z1 z2 => h _ _ (q2 p q z1 z2)) q1⟩) q⟩
  obtain ⟨p, q', ht, hp, hq⟩ := m.tow
  refine ⟨_, m.scr, _, m.twn, O, ρ, ok, m, ha.mo ρ _ _ (fun ds ρ1 ⟨hl, q1⟩ vs O1 H1 ok1 m1 s1 r1 => ?_) q⟩
  obtain ⟨p2, q2, ht2, hp2, hq2⟩ := m1.tow
  obtain ⟨t2, vt2, et2, ot, eH, rt⟩ := ok1.lst 1 _ ht2
  rw [m.twn] at et2
  cases et2
  have ev : vt2 = [.int p2, .int q2] := by
    cases rt with
    | cons a1 rt => cases rt with
      | cons a2 rt =>
        cases rt
        rw [rp_int a1, rp_int a2]
  subst ev
  have nat : ¬ C.Oa C.t := m1.am.slot 1 C.t ⟨_, ht2, trivial⟩ m.twn
  refine ⟨O1, C.s, C.t, C.ns, p2, q2, vs, ds, by rw [List.append_nil], m1.lst, h63, ot, eH, hp2, hq2, ok1.sub, r1, hl, hW _ _ _ (fun d q3 v H' p' q' z1 z2 e1 kp rv => ?_) q1⟩
  obtain ⟨ok2, sc⟩ := ok1.town ht2 m.twn ot e1 kp
  refine q3 p' q' z1 z2 v O1 H' ok2 ⟨⟨fun b x ex => ?_, m1.am.le, m1.am.new, fun i b hi eb => ?_⟩, m1.scr, m1.twn, m1.lst.go sc, ⟨p', q', ?_, z1, z2⟩⟩ (s1.trans sc) rv
  · have ne : b ≠ C.t := fun z => by
      rw [z, m1.am.new C.t ot nat] at ex
      cases ex
    exact kp b x ne (m1.am.keep b x ex)
  · obtain ⟨h1, h2⟩ := ownLe_write (e' := townE p' q') ht2 trivial i b hi eb
    exact m1.am.slot i b h1 h2
  · have hl1 : 1 < ρ1.length := (List.getElem?_eq_some_iff.mp ht2).1
    exact List.getElem?_set_self hl1

/-! ### statements -/
def wNext : WS := fun ρ N _ => N ρ
def wSeq (w w' : WS) : WS := fun ρ N R => w ρ (fun ρ1 => w' ρ1 N R) R
def wSet (i : Nat) (w : WE) : WS := fun ρ N _ => w ρ fun d ρ1 => N (ρ1.set i (some (.val d)))
def wRet (w : WE) : WS := fun ρ _ R => w ρ R
def wIfS (c : WT) (w w' : WS) : WS := fun ρ N R => c ρ fun b ρ1 => if b = true then w ρ1 N R else w' ρ1 N R
def wWhile (c : WT) (w : WS) : Nat → WS
  | 0 => fun _ _ _ => False
  | n + 1 => fun ρ N R => c ρ fun b ρ1 => if b = true then w ρ1 (fun ρ2 => wWhile c w n ρ2 N R) R else N ρ1
def wLoop (i : Nat) (w : WS) : Nat → Nat → WS
  | 0, _ => fun ρ N _ => N ρ
  | m + 1, j => fun ρ N R => w (ρ.set i (some (.val (.int j)))) (fun ρ2 => wLoop i w m (j + 1) ρ2 N R) R
def wForR (i : Nat) (wn : WE) (w : WS) : WS := fun ρ N R => wn ρ fun d ρ1 => ∃ n : Nat, d = .int n ∧ n ≤ 1000 ∧ wLoop i w n 0 ρ1 N R
theorem nb_nil : NB X C [] wNext := ⟨PSs.mono pss_nil fun D σ H ⟨O, ρ, ok, m, q⟩ => q O σ H ok m (Same.refl _), fun ρ N N' R R' h1 h2 q => h1 _ q⟩
theorem tNS_mo {O O0 : Addr → Prop} {ρ : PEnv} {σ : L2.St} {H H0 : Hp} {D : Ends} (hw : MoS ws) (s : Same (cut O0 H0) (cut O H)) (ok : EnvX X O ρ σ H) (m : AmbN X C O ρ σ H)
    (q : ws ρ (fun ρ' => ∀ O' σ' H', EnvX X O' ρ' σ' H' → AmbN X C O' ρ' σ' H' → Same (cut O0 H0) (cut O' H') → D.nx σ' H') fun d ρ' => ∀ v O' σ' H', EnvX X O' ρ' σ' H' → AmbN X C O' ρ' σ' H' → Same (cut O0 H0) (cut O' H') → RpX X (cut O' H') v d → D.rt v H') : tNS X C ws D σ H :=
  ⟨O, ρ, ok, m, hw ρ _ _ _ _ (fun ρ' q O' σ' H' a b c => q O' σ' H' a b (s.trans c)) (fun d ρ' q v O' σ' H' a b c e => q v O' σ' H' a b (s.trans c) e) q⟩
theorem nb_cons (h1 : NS X C st ws) (h2 : NB X C sts ws') : NB X C (st :: sts) (wSeq ws ws') := ⟨PSs.mono (pss_cons h1.pe h2.pe) fun D σ H ⟨O, ρ, ok, m, q⟩ =>
    ⟨O, ρ, ok, m, h1.mo ρ _ _ _ _ (fun ρ1 q1 O1 σ1 H1 ok1 m1 s1 => tNS_mo h2.mo s1 ok1 m1 q1) (fun d ρ1 q1 => q1) q⟩,
  fun ρ N N' R R' a b q => h1.mo ρ _ _ _ _ (fun ρ1 q1 => h2.mo ρ1 _ _ _ _ a b q1) b q⟩
theorem nb_one (h1 : NS X C st ws) : NB X C [st] ws := ⟨pss_one h1.pe, h1.mo⟩
theorem amb_put {O : Addr → Prop} {ρ : PEnv} {σ : L2.St} {H : Hp} {i : Nat} {d : PyData} {v : V} (h2 : 2 ≤ i) (ok : EnvX X O ρ σ H) (m : AmbN X C O ρ σ H) (r : RpX X (cut O H) v d) : EnvX X O (ρ.set i (some (.val d))) (σ.set i (some v)) H ∧ AmbN X C O (ρ.set i (some (.val d))) (σ.set i (some v)) H := by
  refine ⟨ok.put i r, m.am.go (Same.refl H) (ownLe_put i d v ok.len), ?_, ?_, m.lst, ?_⟩
  · rw [List.getElem?_set_ne (by omega)]
    exact m.scr
  · rw [List.getElem?_set_ne (by omega)]
    exact m.twn
  · obtain ⟨p, q, e, hp, hq⟩ := m.tow
    exact ⟨p, q, by rw [List.getElem?_set_ne (by omega)]; exact e, hp, hq⟩
theorem ns_set {i : Nat} {x : Str} {pos' : Pos} (he : NE X C e w) (h2 : 2 ≤ i) (hN : X.N.Nodup) (hi : X.N[i]? = some x) (hx : Loc X.env.scope x) (hs : swapsWith e (some (.Name x pos')) pos.line X.env = pure false := by rfl)
    (hf : X.fn x = true ∨ X.env.scope.names.lookup x = some .local := by first | exact .inl rfl | exact .inr rfl) : NS X C (.Assign [.Name x pos'] e pos) (wSet i w) :=
  ⟨PS.mono (ps_set hN hi hx he.pe hs hf) fun D σ H ⟨O, ρ, ok, m, q⟩ => ⟨O, ρ, ok, m, he.mo ρ _ _ (fun d ρ1 q1 v O1 H1 ok1 m1 s1 r1 => q1 O1 _ H1 (amb_put h2 ok1 m1 r1).1 (amb_put h2 ok1 m1 r1).2 s1) q⟩,
    fun ρ N N' R R' a b q => he.mo ρ _ _ (fun d ρ1 q1 => a _ q1) q⟩
theorem ns_setComp {i : Nat} {y : Str} {py spos : Pos} {elt tg iter : Expr} {ifs : List Expr} {scope : Scope} {own : List (Str × Nat)} {pos : Pos} {it : FI} {g : FT} {is : List Nat} {ft fe : FE} (h2 : 2 ≤ i) (hc : X.calm = true) (hN : X.N.Nodup) (hy : X.N[i]? = some y) (hyl : X.env.scope.names.lookup y = some .local)
    (hsw : swapsWith (.ListComp elt [⟨tg, iter, ifs, 0⟩] scope pos) (some (.Name y py)) spos.line X.env = pure true) (hi : PI X tg iter (tI X it)) (ok : BlkOk X.N X.env.scope scope own)
    (hg : ∀ (s : Shared) (H : Hp) (C : Addr) (cl : List (Str × Addr)) (fp : List Addr), PG (X.blk s H scope (compEnvC scope cl C X.env) fp) tg (tG X is g)) (ht : ∀ (s : Shared) (H : Hp) (C : Addr) (cl : List (Str × Addr)) (fp : List Addr), PTs (X.blk s H scope (compEnvC scope cl C X.env) fp) ifs (tVT X ft))
    (he : ∀ (s : Shared) (H : Hp) (C : Addr) (cl : List (Str × Addr)) (fp : List Addr), PE (X.blk s H scope (compEnvC scope cl C X.env) fp) elt (tV X fe)) (his : ∀ i ∈ is, i ∈ own.map (·.2)) (hs : ∀ x, foldedSetIterable iter X.env x = pure x := by intro _; rfl) :
    NS X C (.Assign [.Name y py] (.ListComp elt [⟨tg, iter, ifs, 0⟩] scope pos) spos) (wSet i (wP (fComp (own.map (·.2)) it g ft fe))) := ⟨PS.mono (ps_setLc hc hN hy hyl hsw hi ok hg ht he hs) fun D σ H ⟨O, ρ, ok, m, d, e1, q⟩ =>
    comp_of his σ H _ ⟨O, ρ, d, ok, e1, fun v H1 s1 r1 => q O _ H1 (amb_put h2 (ok.same s1) (amb_same m s1) r1).1 (amb_put h2 (ok.same s1) (amb_same m s1) r1).2 (cut_same s1)⟩,
  fun ρ N N' R R' a b ⟨d, e, q⟩ => ⟨d, e, a _ q⟩⟩
theorem ns_ret (he : NE X C e w) : NS X C (.Return (some e) pos) (wRet w) := ⟨PS.mono (ps_ret he.pe) fun D σ H ⟨O, ρ, ok, m, q⟩ => ⟨O, ρ, ok, m, he.mo ρ _ _ (fun d ρ1 q1 v O1 H1 ok1 m1 s1 r1 => q1 v O1 σ H1 ok1 m1 s1 r1) q⟩,
  fun ρ N N' R R' a b q => he.mo ρ _ _ b q⟩
theorem ns_if {as bs : List Stmt} (hc : NT X C c wt) (h1 : NB X C as ws) (h2 : NB X C bs ws') : NS X C (.If c as bs pos) (wIfS wt ws ws') := ⟨PS.mono (ps_if hc.pe h1.pe h2.pe) fun D σ H ⟨O, ρ, ok, m, q⟩ => ⟨O, ρ, ok, m, hc.mo ρ _ _ (fun k ρ1 q1 O1 H1 ok1 m1 s1 => by
    cases k with
    | true => exact iteT (tNS_mo h1.mo s1 ok1 m1 q1)
    | false => exact iteF (tNS_mo h2.mo s1 ok1 m1 q1)) q⟩,
  fun ρ N N' R R' a b q => hc.mo ρ _ _ (fun k ρ1 q1 => by
    cases k with
    | true => exact h1.mo ρ1 _ _ _ _ a b q1
    | false => exact h2.mo ρ1 _ _ _ _ a b q1) q⟩
theorem mo_while (h1 : MoT wt) (h2 : MoS ws) : ∀ n, MoS (wWhile wt ws n)
  | 0 => fun ρ N N' R R' a b q => q
  | n + 1 => fun ρ N N' R R' a b q => h1 ρ _ _ (fun k ρ1 q1 => by
    cases k with
    | true => exact h2 ρ1 _ _ _ _ (fun ρ2 q2 => mo_while h1 h2 n ρ2 _ _ _ _ a b q2) b q1
    | false => exact a _ q1) q
theorem ns_while {body : List Stmt} (n : Nat) (hp : PassesOwn (model X.prog X.w) X.A X.env X.xe) (hc : NT X C c wt) (hb : NB X C body ws) : NS X C (.While c body [] pos) (wWhile wt ws n) := ⟨PS.mono (ps_while hp hc.pe hb.pe) fun D σ H h => by
    refine ⟨fun m σ H => tNS X C (wWhile wt ws m) D σ H, ⟨n, h⟩, fun m σ H ⟨O, ρ, ok, am, q⟩ => ?_⟩
    cases m with
    | zero => exact q.elim
    | succ m =>
      refine ⟨O, ρ, ok, am, hc.mo ρ _ _ (fun k ρ1 q1 O1 H1 ok1 m1 s1 => ?_) q⟩
      cases k with
      | true => exact iteT ⟨fun σ' H' => tNS X C (wWhile wt ws m) D σ' H', fun σ' H' z => ⟨m, Nat.lt_succ_self m, z⟩, O1, ρ1, ok1, m1,
          hb.mo ρ1 _ _ _ _ (fun ρ2 q2 O2 σ2 H2 ok2 m2 s2 => tNS_mo (mo_while hc.mo hb.mo m) (s1.trans s2) ok2 m2 q2) (fun d ρ2 q2 v O2 σ2 H2 ok2 m2 s2 r2 => q2 v O2 σ2 H2 ok2 m2 (s1.trans s2) r2) q1⟩
      | false => exact iteF (q1 O1 σ H1 ok1 m1 s1),
  mo_while hc.mo hb.mo n⟩
theorem mo_loop {i : Nat} (h2 : MoS ws) : ∀ m j, MoS (wLoop i ws m j)
  | 0, _ => fun ρ N N' R R' a b q => a _ q
  | m + 1, j => fun ρ N N' R R' a b q => h2 _ _ _ _ _ (fun ρ2 q2 => mo_loop h2 m (j + 1) ρ2 _ _ _ _ a b q2) b q
theorem ns_forR {i : Nat} {x : Str} {body : List Stmt} {p px : Pos} (h2 : 2 ≤ i) (hp : PassesOwn (model X.prog X.w) X.A X.env X.xe) (hc : X.calm = true) (hg : Gl X "range") (hm : X.mg "range" = none) (he : NE X C e w) (hN : X.N.Nodup) (hi : X.N[i]? = some x) (hx : X.env.scope.names.lookup x = some .local) (hb : NB X C body ws)
    (hsa : starEach [e] X.env = (false, eval e X.env) :: starEach [] X.env := by rfl) (hs1 : starEach [e] X.env = [(false, eval e X.env)] := by rfl) (hs : ∀ x, foldedSetIterable (.Call (.Name "range" p) [e] [] pos) X.env x = pure x := by intro _; rfl) {fpos : Pos} :
    NS X C (.For (.Name x px) (.Call (.Name "range" p) [e] [] pos) body [] fpos) (wForR i w ws) := by
  refine ⟨PS.mono (ps_for hp hc (pi_range1 hg hm (pa_cons he.pe pa_nil hsa) hs1) (pg_name (i := i) hN hi (.inl hx) (.inr hx)) hb.pe hs) fun D σ H ⟨O, ρ, ok, m, q⟩ => ?_, fun ρ N N' R R' a b q => he.mo ρ _ _ (fun d ρ1 ⟨n, e1, e2, q1⟩ => ⟨n, e1, e2, mo_loop hb.mo n 0 ρ1 _ _ _ _ a b q1⟩) q⟩
  refine ⟨O, ρ, ok, m, he.mo ρ _ _ (fun d ρ1 ⟨n, e1, e2, q1⟩ v O1 H1 ok1 m1 s1 r1 => ?_) q⟩
  subst e1
  refine ⟨n, by rw [rp_int r1], by omega, by omega, fun k mm σ' H' => mm = n - k ∧ k ≤ n ∧ ∃ O2 ρ2, EnvX X O2 ρ2 σ' H' ∧ AmbN X C O2 ρ2 σ' H' ∧ Same (cut O H) (cut O2 H') ∧ wLoop i ws (n - k) k ρ2 (fun ρ' => ∀ O' σ' H', EnvX X O' ρ' σ' H' → AmbN X C O' ρ' σ' H' → Same (cut O H) (cut O' H') → D.nx σ' H')
    (fun d ρ' => ∀ v O' σ' H', EnvX X O' ρ' σ' H' → AmbN X C O' ρ' σ' H' → Same (cut O H) (cut O' H') → RpX X (cut O' H') v d → D.rt v H'), ⟨n, by omega, Nat.zero_le _, O1, ρ1, ok1, m1, s1, q1⟩, ?_⟩
  rintro k mm σ' H' ⟨rfl, hk, O2, ρ2, ok2, m2, s2, q2⟩
  by_cases hlt : k < n
  · have e3 : n - k = (n - (k + 1)) + 1 := by omega
    rw [e3] at q2
    refine .inr ⟨by show k < (n : Int).toNat; omega, fun σ3 H3 => ∃ O2 ρ2, EnvX X O2 ρ2 σ3 H3 ∧ AmbN X C O2 ρ2 σ3 H3 ∧ Same (cut O H) (cut O2 H3) ∧ wLoop i ws (n - (k + 1)) (k + 1) ρ2 (fun ρ' => ∀ O' σ' H', EnvX X O' ρ' σ' H' → AmbN X C O' ρ' σ' H' → Same (cut O H) (cut O' H') → D.nx σ' H')
      (fun d ρ' => ∀ v O' σ' H', EnvX X O' ρ' σ' H' → AmbN X C O' ρ' σ' H' → Same (cut O H) (cut O' H') → RpX X (cut O' H') v d → D.rt v H'), fun σ3 H3 z => ⟨n - (k + 1), by omega, rfl, hlt, z⟩, fun y H3 z => ?_⟩
    obtain ⟨rfl, rfl⟩ := z
    have e4 : (0 : Int) + (k : Nat) = ((k : Nat) : Int) := by omega
    rw [e4]
    have z2 := amb_put (v := .int ((k : Nat) : Int)) h2 ok2 m2 (.int _)
    exact ⟨O2, _, z2.1, z2.2, hb.mo _ _ _ _ _ (fun ρ3 q3 O3 σ3 H3 ok3 m3 s3 => ⟨O3, ρ3, ok3, m3, s2.trans s3, q3⟩) (fun d ρ3 q3 v O3 σ3 H3 ok3 m3 s3 r3 => q3 v O3 σ3 H3 ok3 m3 (s2.trans s3) r3) q2⟩
  · have e3 : n - k = 0 := by omega
    rw [e3] at q2
    exact .inl ⟨by show (n : Int).toNat ≤ k; omega, q2 O2 σ' H' ok2 m2 s2⟩
/-! ### two names at once; owned lists -/
def wPar2 (i j : Nat) (w : WA) : WS := fun ρ N _ => w ρ fun ds ρ1 => ∃ a b, ds = [a, b] ∧ N ((ρ1.set i (some (.val a))).set j (some (.val b)))
def wPar2F (i j : Nat) (g : FFs) : WS := fun ρ N _ => ∃ a b, g ρ = some [a, b] ∧ N ((ρ.set i (some a)).set j (some b))
def wApp (i : Nat) (f : FE) : WS := fun ρ N _ => ∃ ds d, ρ[i]? = some (some (EV.lst ds)) ∧ f ρ = some d ∧ ds.length < 100000 ∧ N (ρ.set i (some (.lst (ds ++ [d]))))
def wAppPop (i j : Nat) (w : WE) : WS := fun ρ N _ => ∃ ds zs : List PyData, ρ[i]? = some (some (EV.lst ds)) ∧ ρ[j]? = some (some (EV.lst zs)) ∧ w ρ fun d ρ1 => ∃ (k : Nat) (y : PyData), d = .int k ∧ ρ1[i]? = some (some (EV.lst ds)) ∧ ρ1[j]? = some (some (EV.lst zs)) ∧ zs[k]? = some y ∧ ds.length < 100000 ∧ zs.length < 1000 ∧
  N ((ρ1.set j (some (.lst (zs.eraseIdx k)))).set i (some (.lst (ds ++ [y]))))
def wFrz (j : Nat) (w : WS) : WS := fun ρ N R => ∃ ds, ρ[j]? = some (some (EV.lst ds)) ∧ w (ρ.set j (some (.val (.list ds)))) N R
theorem ns_par2 {i j : Nat} {x y : Str} {a b : Expr} {px py pt : Pos} {kt k2 pt2} (h2i : 2 ≤ i) (h2j : 2 ≤ j) (hc : X.calm = true) (hN : X.N.Nodup) (hi : X.N[i]? = some x) (hj : X.N[j]? = some y) (hij : i ≠ j)
    (hx : X.env.scope.names.lookup x = some .local) (hy : X.env.scope.names.lookup y = some .local) (ha : NA X C [a, b] wa)
    (hw : swappedStores [.Tuple [.Name x px, .Name y py] kt pt] (.Tuple [a, b] k2 pt2) X.env = pure (some [x, y]))
    (hs : swapsWithSole [.Tuple [.Name x px, .Name y py] kt pt] (.Tuple [a, b] k2 pt2) pos.line X.env = pure false := by rfl) :
    NS X C (.Assign [.Tuple [.Name x px, .Name y py] kt pt] (.Tuple [a, b] k2 pt2) pos) (wPar2 i j wa) := ⟨PS.mono (ps_par hc hN hi hj hij hx hy ha.pe hw hs) fun D σ H ⟨O, ρ, ok, m, q⟩ => by
    refine ⟨O, ρ, ok, m, ha.mo ρ _ _ (fun ds ρ1 ⟨da, db, e, q1⟩ vs O1 H1 ok1 m1 s1 r1 => ?_) q⟩
    subst e
    cases r1 with
    | cons ra r1 =>
      cases r1 with
      | cons rb r1 =>
        cases r1
        have z1 := amb_put h2i ok1 m1 ra
        have z2 := amb_put h2j z1.1 z1.2 rb
        exact ⟨_, _, rfl, q1 O1 _ H1 z2.1 z2.2 s1⟩,
  fun ρ N N' R R' a b q => ha.mo ρ _ _ (fun ds ρ1 ⟨da, db, e, q1⟩ => ⟨da, db, e, a _ q1⟩) q⟩
theorem ns_par2F {i j : Nat} {x y : Str} {a b : Expr} {r : FFs} {px py pt : Pos} {kt k2 pt2} (h2i : 2 ≤ i) (h2j : 2 ≤ j) (hc : X.calm = true) (hN : X.N.Nodup) (hi : X.N[i]? = some x) (hj : X.N[j]? = some y) (hij : i ≠ j)
    (hx : X.env.scope.names.lookup x = some .local) (hy : X.env.scope.names.lookup y = some .local) (ha : PA X [a, b] (tFs X r))
    (hw : swappedStores [.Tuple [.Name x px, .Name y py] kt pt] (.Tuple [a, b] k2 pt2) X.env = pure (some [x, y]))
    (hs : swapsWithSole [.Tuple [.Name x px, .Name y py] kt pt] (.Tuple [a, b] k2 pt2) pos.line X.env = pure false := by rfl) :
    NS X C (.Assign [.Tuple [.Name x px, .Name y py] kt pt] (.Tuple [a, b] k2 pt2) pos) (wPar2F i j r) := ⟨PS.mono (ps_par hc hN hi hj hij hx hy ha hw hs) fun D σ H ⟨O, ρ, ok, m, ea, eb, e1, q⟩ => by
    refine ⟨O, ρ, _, ok, e1, fun vs H1 O1 s1 z => ?_⟩
    obtain ⟨va, vb, rfl, ra, rb⟩ : ∃ va vb, vs = [va, vb] ∧ EVone X.prog X.w X.K O1 H1 va ea ∧ EVone X.prog X.w X.K O1 H1 vb eb := by
      cases z.one with
      | cons h1 t => cases t with
        | cons h2 t => cases t; exact ⟨_, _, rfl, h1, h2⟩
    refine ⟨va, vb, rfl, ?_⟩
    have ok1 := ok.grow s1 z.sub z.le z.new
    have ok2 := ok1.putE i ra (no_own ok z (i := 0) rfl rfl)
    have ok3 := ok2.putE j rb fun k a o e h1 h2 => by
      rcases own_putE i k a h1 h2 with ⟨h3, h4⟩ | ⟨h3, h4⟩
      · subst e h4
        exact absurd (z.dis 0 1 ea eb a rfl h3 rfl o rfl rfl) (by decide)
      · exact no_own ok z (i := 1) rfl rfl k a o e h3 h4
    have sc := cut_grow s1 z.new
    refine q O1 _ H1 ok3 ⟨amb_new m.am s1 z fun k a h1 h2 => ?_, ?_, ?_, m.lst.go sc, ?_⟩ sc
    · rcases own_putE j k a h1 h2 with ⟨h3, h4⟩ | ⟨h3, h4⟩
      · exact .inl ⟨1, eb, rfl, h3, by rw [h4]; rfl⟩
      · rcases own_putE i k a h3 h4 with ⟨h3, h4⟩ | h3
        · exact .inl ⟨0, ea, rfl, h3, by rw [h4]; rfl⟩
        · exact .inr h3
    · rw [List.getElem?_set_ne (by omega), List.getElem?_set_ne (by omega)]
      exact m.scr
    · rw [List.getElem?_set_ne (by omega), List.getElem?_set_ne (by omega)]
      exact m.twn
    · obtain ⟨p, q, e, hp, hq⟩ := m.tow
      exact ⟨p, q, by rw [List.getElem?_set_ne (by omega), List.getElem?_set_ne (by omega)]; exact e, hp, hq⟩,
  fun ρ N N' R R' a b ⟨ea, eb, e, q⟩ => ⟨ea, eb, e, a _ q⟩⟩
theorem amb_wr {O : Addr → Prop} {ρ : PEnv} {σ : L2.St} {H : Hp} {j : Nat} {p : Addr} {ds ds' : List PyData} {vs' : List V} (h2 : 2 ≤ j) (ok : EnvX X O ρ σ H) (m : AmbN X C O ρ σ H) (h : ρ[j]? = some (some (EV.lst ds))) (ha : σ[j]? = some (some (V.ref p))) (o : O p) (r : RpAllX X (cut O H) vs' ds') :
    EnvX X O (ρ.set j (some (.lst ds'))) σ (upd H p (.lst vs')) ∧ AmbN X C O (ρ.set j (some (.lst ds'))) σ (upd H p (.lst vs')) ∧ cut O (upd H p (.lst vs')) = cut O H := by
  have na : ¬ C.Oa p := m.am.slot j p ⟨_, h, trivial⟩ ha
  refine ⟨ok.write h ha o r, ⟨amb_write m.am o na (ownLe_write h trivial), m.scr, m.twn, m.lst.go (by rw [cut_upd o]; exact Same.refl _), ?_⟩, cut_upd o⟩
  obtain ⟨a, b, e, hp, hq⟩ := m.tow
  exact ⟨a, b, by rw [List.getElem?_set_ne (by omega)]; exact e, hp, hq⟩
theorem ns_app {i : Nat} {cpos apos : Pos} (h2 : 2 ≤ i) (ho : PE X o (tVar i)) (he : PV X e f) (hbase : attributeBase o "append" X.env (eval o X.env) = eval o X.env := by rfl)
    (hfew : ((backTo cpos (starEach [e] X.env)).all (fun x => !x.1) && (backToKw cpos (keywordEach [] X.env)).all (fun x => x.1.isSome)
      && decide (([e] : List Expr).length + ([] : List Keyword).length + (if ([] : List Keyword).isEmpty then 0 else 1) < 30)) = true := by rfl)
    (hline : (apos.endLine == cpos.line) = true := by rfl) (hs : starEach [e] X.env = (false, eval e X.env) :: starEach [] X.env := by rfl) (hplain : (backTo cpos (starEach ([] : List Expr) X.env)).any (·.1) = false := by rfl)
    (hsw : swapsWith (.Call (.Attribute o "append" apos) [e] [] cpos) none pos.line X.env = pure false := by rfl) :
    NS X C (.Expr (.Call (.Attribute o "append" apos) [e] [] cpos) pos) (wApp i f) := ⟨PS.mono (ps_expr (pe_bm PySem.F.plainAttrs_list PySem.F.slot_list_append PySem.F.type_list_append mt_append ho (pa_cons he pa_nil hs) hbase hfew hline hs hplain) hsw) fun D σ H ⟨O, ρ, ok, m, ds, d, hj, e3, hl, q⟩ => by
    obtain ⟨p, vs, e1, op, e2, r⟩ := ok.lst i ds hj
    refine ⟨_, e1, .inl ⟨rfl, _, SqL.of e2⟩, O, ρ, d, ok, e3, fun v H1 s1 r1 => ⟨p, vs, v, rfl, rfl, s1 _ _ e2, ?_, ?_⟩⟩
    · rw [r.len, sizeLine_eq]
      omega
    · obtain ⟨z1, z2, z3⟩ := amb_wr h2 (ok.same s1) (amb_same m s1) hj e1 op ((r.mono (cut_same s1)).app (.cons r1 .nil))
      exact q O σ _ z1 z2 (by rw [z3]; exact cut_same s1),
  fun ρ N N' R R' a b ⟨ds, d, h1, h2, h3, q⟩ => ⟨ds, d, h1, h2, h3, a _ q⟩⟩
theorem ns_appPop {i j : Nat} {o2 e2 : Expr} {cpos apos cpos2 apos2 : Pos} (h2 : 2 ≤ i) (h2j : 2 ≤ j) (hij : i ≠ j) (ho : PE X o (tVar i)) (ho2 : PE X o2 (tVar j)) (he : NE X C e2 w)
    (hbase : attributeBase o "append" X.env (eval o X.env) = eval o X.env := by rfl) (hbase2 : attributeBase o2 "pop" X.env (eval o2 X.env) = eval o2 X.env := by rfl)
    (hfew2 : ((backTo cpos2 (starEach [e2] X.env)).all (fun x => !x.1) && (backToKw cpos2 (keywordEach [] X.env)).all (fun x => x.1.isSome)
      && decide (([e2] : List Expr).length + ([] : List Keyword).length + (if ([] : List Keyword).isEmpty then 0 else 1) < 30)) = true := by rfl)
    (hfew : ((backTo cpos (starEach [.Call (.Attribute o2 "pop" apos2) [e2] [] cpos2] X.env)).all (fun x => !x.1) && (backToKw cpos (keywordEach [] X.env)).all (fun x => x.1.isSome)
      && decide (([.Call (.Attribute o2 "pop" apos2) [e2] [] cpos2] : List Expr).length + ([] : List Keyword).length + (if ([] : List Keyword).isEmpty then 0 else 1) < 30)) = true := by rfl)
    (hline : (apos.endLine == cpos.line) = true := by rfl) (hline2 : (apos2.endLine == cpos2.line) = true := by rfl)
    (hs : starEach [.Call (.Attribute o2 "pop" apos2) [e2] [] cpos2] X.env = (false, eval (.Call (.Attribute o2 "pop" apos2) [e2] [] cpos2) X.env) :: starEach [] X.env := by rfl) (hs2 : starEach [e2] X.env = (false, eval e2 X.env) :: starEach [] X.env := by rfl)
    (hplain : (backTo cpos (starEach ([] : List Expr) X.env)).any (·.1) = false := by rfl) (hplain2 : (backTo cpos2 (starEach ([] : List Expr) X.env)).any (·.1) = false := by rfl)
    (hsw : swapsWith (.Call (.Attribute o "append" apos) [.Call (.Attribute o2 "pop" apos2) [e2] [] cpos2] [] cpos) none pos.line X.env = pure false := by rfl) :
    NS X C (.Expr (.Call (.Attribute o "append" apos) [.Call (.Attribute o2 "pop" apos2) [e2] [] cpos2] [] cpos) pos) (wAppPop i j w) := ⟨PS.mono (ps_expr (pe_bm PySem.F.plainAttrs_list PySem.F.slot_list_append PySem.F.type_list_append mt_append ho
      (pa_cons (pe_bm PySem.F.plainAttrs_list PySem.F.slot_list_pop PySem.F.type_list_pop mt_popAt ho2 (pa_cons he.pe pa_nil hs2) hbase2 hfew2 hline2 hs2 hplain2) pa_nil hs) hbase hfew hline hs hplain) hsw) fun D σ H ⟨O, ρ, ok, m, ds, zs, hi, hj, q⟩ => by
    obtain ⟨p1, vs1, e1, op1, eH1, r1⟩ := ok.lst i ds hi
    obtain ⟨p2, vs2, e2', op2, eH2, r2⟩ := ok.lst j zs hj
    refine ⟨_, e1, .inl ⟨rfl, _, SqL.of eH1⟩, _, e2', .inl ⟨rfl, _, SqL.of eH2⟩, O, ρ, ok, m, he.mo ρ _ _ (fun d ρ1 ⟨k, y, h1, h3, h4, h5, h6, h7, q1⟩ v O1 H1 ok1 m1 s1 rv => ?_) q⟩
    subst h1
    obtain ⟨p1', vs1', e1', op1', eH1', r1'⟩ := ok1.lst i ds h3
    obtain ⟨p2', vs2', e2'', op2', eH2', r2'⟩ := ok1.lst j zs h4
    rw [e1] at e1'
    cases e1'
    rw [e2'] at e2''
    cases e2''
    obtain ⟨u, hu, ru⟩ := r2'.at h5
    have hk : k < vs2'.length := (List.getElem?_eq_some_iff.mp hu).1
    have hz : vs2'.length < 1000 := by
      rw [r2'.len]
      exact h7
    have er : RpAllX X (cut O1 H1) (vs2'.eraseIdx k) (zs.eraseIdx k) := by
      rw [List.eraseIdx_eq_take_drop_succ, List.eraseIdx_eq_take_drop_succ]
      exact (r2'.take k).app (r2'.drop (k + 1))
    obtain ⟨z1, z2, z3⟩ := amb_wr h2j ok1 m1 h4 e2' op2' er
    have ne : p1 ≠ p2 := fun z => by
      subst z
      exact hij (ok.one i j _ ⟨_, hi, trivial⟩ ⟨_, hj, trivial⟩ e1 e2')
    have h3' : (ρ1.set j (some (EV.lst (zs.eraseIdx k))))[i]? = some (some (EV.lst ds)) := by
      rw [List.getElem?_set_ne (Ne.symm hij)]
      exact h3
    have ra : RpAllX X (cut O1 (upd H1 p2 (.lst (vs2'.eraseIdx k)))) (vs1' ++ [u]) (ds ++ [y]) := by
      rw [z3]
      exact r1'.app (.cons ru .nil)
    obtain ⟨y1, y2, y3⟩ := amb_wr h2 z1 z2 h3' e1 op1' ra
    have hseq : seqIndex? ((k : Nat) : Int) vs2'.length = some k := by
      unfold seqIndex?
      simp only [show ¬ ((k : Nat) : Int) < 0 by omega, if_false]
      rw [if_pos (by simp; omega)]
      rfl
    refine ⟨p2, vs2', (k : Int), k, u, rfl, by rw [rp_int rv], eH2', by omega, by omega, hseq, hu, p1, vs1', u, rfl, rfl, by rw [upd_ne ne]; exact eH1', ?_, q1 O1 σ _ y1 y2 ?_⟩
    · rw [r1'.len, sizeLine_eq]
      omega
    · rw [y3, z3]
      exact s1,
  fun ρ N N' R R' a b ⟨ds, zs, h1, h2, q⟩ => ⟨ds, zs, h1, h2, he.mo ρ _ _ (fun d ρ1 ⟨k, y, h1, h2, h3, h4, h5, h6, q⟩ => ⟨k, y, h1, h2, h3, h4, h5, h6, a _ q⟩) q⟩⟩
theorem ns_frz {j : Nat} (h2 : 2 ≤ j) (h : NS X C st ws) : NS X C st (wFrz j ws) := ⟨PS.mono h.pe fun D σ H ⟨O, ρ, ok, m, ds, hj, q⟩ => by
    obtain ⟨p, vs, e1, op, e2, sc, ok'⟩ := freeze_list ok hj
    have na : ¬ C.Oa p := m.am.slot j p ⟨_, hj, trivial⟩ e1
    refine tNS_mo h.mo sc ok' ⟨⟨m.am.keep, fun b z => ⟨m.am.le b z, fun e => na (e ▸ z)⟩, fun b z1 z2 => m.am.new b z1.1 z2, fun i b hi q1 => m.am.slot i b (own_unset hi).2 q1⟩, m.scr, m.twn, m.lst.go sc, ?_⟩ q
    obtain ⟨a, b, e, hp, hq⟩ := m.tow
    exact ⟨a, b, by rw [List.getElem?_set_ne (by omega)]; exact e, hp, hq⟩,
  fun ρ N N' R R' a b ⟨ds, e, q⟩ => ⟨ds, e, h.mo _ _ _ _ _ a b q⟩⟩
end

/-! ### a def that draws -/
def startN (n : Nat) (ds : List PyData) (p q : Int) : PEnv := none :: some (townE p q) :: (ds.map (fun d => some (EV.val d)) ++ List.replicate (n - (ds.length + 2)) none)
def OkN (P : Program) (w : World) (K : PySem.W.Frag) (mg : Str → Option Value) (base : Heap) (x : Str) (ps : List Str) (lv n : Nat) (W : WF) : Prop :=
  ∃ f fd, mg x = some (.ref f) ∧ PySem.W.keepIn K (.ref f) = true ∧ Binds K fd ps [] ∧ FnOk P w K mg base CX0 lv f fd ps (spN P w K n W) ∧ MoF W
theorem startN_ok {P : Program} {w : World} {K : PySem.W.Frag} {O : Addr → Prop} {H : Hp} {N : List Str} {vs : List V} {ds : List PyData} {s t : Addr} {p q : Int} (sub : Sub O H) (r : RpAll P w K (cut O H) vs ds) (ot : O t) (et : H t = some (.lst [.int p, .int q])) :
    EnvOk P w K O (startN N.length ds p q) (L2.start N (.ref s :: .ref t :: vs)) H ∧ ∀ i, OwnAt (startN N.length ds p q) i → i = 1 := by
  have hl := r.len
  have key : ∀ (i : Nat) (x : EV), (startN N.length ds p q)[i]? = some (some x) → (i = 1 ∧ x = townE p q) ∨ ∃ j d, i = j + 2 ∧ ds[j]? = some d ∧ x = .val d := fun i x h => by
    unfold startN at h
    match i, h with
    | 0, h => cases h
    | 1, h =>
      cases h
      exact .inl ⟨rfl, rfl⟩
    | i + 2, h =>
      simp only [List.getElem?_cons_succ] at h
      refine .inr ⟨i, ?_⟩
      by_cases hi : i < (ds.map (fun d => some (EV.val d))).length
      · rw [List.getElem?_append_left hi, List.getElem?_map] at h
        cases q : ds[i]? with
        | none => rw [q] at h; cases h
        | some d =>
          rw [q] at h
          cases h
          exact ⟨d, rfl, rfl, rfl⟩
      · rw [List.getElem?_append_right (by omega)] at h
        obtain ⟨h1, h2⟩ := List.getElem?_eq_some_iff.mp h
        rw [List.getElem_replicate] at h2
        cases h2
  have one : ∀ i, OwnAt (startN N.length ds p q) i → i = 1 := fun i ⟨e, h, o⟩ => by
    rcases key i e h with ⟨h1, _⟩ | ⟨j, d, _, _, e2⟩
    · exact h1
    · subst e2
      exact o.elim
  refine ⟨⟨sub, ?_, fun i d h => ?_, fun i d h => ?_, fun i d h => ?_, fun i j a h1 h2 _ _ => (one i h1).trans (one j h2).symm⟩, one⟩
  · unfold startN L2.start
    simp only [List.length_cons, List.length_append, List.length_map, List.length_replicate]
    omega
  · rcases key i _ h with ⟨_, e2⟩ | ⟨j, d', rfl, e1, e2⟩
    · cases e2
    · cases e2
      obtain ⟨x, e3, rx⟩ := r.at e1
      refine ⟨x, ?_, rx⟩
      unfold L2.start
      have hi : j < (vs.map some).length := by
        rw [List.length_map]
        exact (List.getElem?_eq_some_iff.mp e3).1
      simp only [List.map_cons, List.cons_append, List.getElem?_cons_succ]
      rw [List.getElem?_append_left hi, List.getElem?_map, e3]
      rfl
  · rcases key i _ h with ⟨rfl, e2⟩ | ⟨j, d', rfl, e1, e2⟩
    · cases e2
      exact ⟨t, _, rfl, ot, et, .cons (.int _) (.cons (.int _) .nil)⟩
    · cases e2
  · rcases key i _ h with ⟨rfl, e2⟩ | ⟨j, d', rfl, e1, e2⟩
    · cases e2
    · cases e2
/-- THE RULE for a def that draws -/
theorem okN_mk {P : Program} {w : World} {K : PySem.W.Frag} {mg : Str → Option Value} {base : Heap} {x : Str} {st : Stmt} {N ps : List Str} {k n : Nat} {W : WF} {ws : WS} (D : Defd K mg x st) (S : FnScope N ps (defScope st)) (hn : ps.length = n + 2)
    (hbd : ∀ (kV doc pm : Value) (an : Option Addr) (cdv ct : Value) (us : List Value), us.length = ps.length → bindArgs (PySem.W.fnOf x x (defArgs st) (defBody st) (defScope st) .none kV doc pm an cdv ct) ⟨us, []⟩ = pure (ps.zip us)) (hW : MoF W)
    (hφ : ∀ ds p q Φ, 0 ≤ p → 0 ≤ q → ds.length = n → W ds Φ → ws (startN N.length ds p q) (fun _ => False) fun d _ => Φ d)
    (hb : ∀ (fa : Addr) (cdv : Value) (A : Around) (outer : List Env) (s : Shared) (H : Hp) (C : Tn), C.ns.length ≤ 63 → Room k (A.deeper (envOfC x (defScope st) s.heap.objs.size fa cdv)) →
      NB (cxOf CX0 P w K mg base N x (defScope st) fa cdv A outer s H E0).nox C (defBody st) ws) : OkN P w K mg base x ps (k + 1) n W := by
  obtain ⟨fa, fd, F, hm⟩ := D
  refine ⟨fa, fd, hm, F.kp, F.bindsN hbd, FunD.ok F S (fun vs H Q E h => ?_) (fun cdv A outer sh H vs Q E hr h => ?_), hW⟩
  · obtain ⟨O, s, t, ns, p, q, vs', ds, rfl, _, _, _, _, _, _, _, r, hl, _⟩ := h
    rw [List.length_cons, List.length_cons, r.len, hl, hn]
  · obtain ⟨O, s, t, ns, p, q, vs', ds, rfl, hs, h63, ot, et, hp, hq, sub, r, hl, hw⟩ := h
    obtain ⟨ok, one⟩ := startN_ok (N := N) (s := s) sub r ot et
    have body := hb fa cdv A outer sh H ⟨s, t, ns, fun a => if a = t then none else H a, fun a => O a ∧ a ≠ t⟩ h63 hr
    refine ⟨_, PSs.nox (X := cxOf CX0 P w K mg base N x (defScope st) fa cdv A outer sh H E) body.pe, O, _, ok, ⟨⟨fun a u e => ?_, fun a z => z.1, fun a z1 z2 => ?_, fun i a hi e => ?_⟩, rfl, rfl, hs, p, q, rfl, hp, hq⟩,
      body.mo _ _ _ _ _ (fun ρ' (z : False) => False.elim z) (fun d ρ' z => z ρ') (hφ ds p q (fun d => ∀ (ρ' : PEnv) (v : V) (O' : Addr → Prop) (σ' : L2.St) (H' : Hp), EnvX (cxOf CX0 P w K mg base N x (defScope st) fa cdv A outer sh H E0).nox O' ρ' σ' H' → AmbN (cxOf CX0 P w K mg base N x (defScope st) fa cdv A outer sh H E0).nox ⟨s, t, ns, fun a => if a = t then none else H a, fun a => O a ∧ a ≠ t⟩ O' ρ' σ' H' → Same (cut O H) (cut O' H') → RpX (cxOf CX0 P w K mg base N x (defScope st) fa cdv A outer sh H E0).nox (cut O' H') v d → Q v H') hp hq hl ?_)⟩
    · simp only at e
      split at e
      · cases e
      · exact e
    · by_cases e : a = t
      · simp [e]
      · exact absurd ⟨z1, e⟩ z2
    · have e1 := one i hi
      subst e1
      have e2 : V.ref t = V.ref a := by
        have q1 : (L2.start N (V.ref s :: V.ref t :: vs'))[1]? = some (some (V.ref t)) := rfl
        rw [q1] at e
        exact Option.some.inj (Option.some.inj e)
      cases e2
      exact fun z => z.2 rfl
    · refine hW _ _ _ (fun d hq2 ρ' v O' σ' H' ok' m' s' r' => ?_) hw
      obtain ⟨p', q', e1, z1, z2⟩ := m'.tow
      obtain ⟨t', vt, e2, o2, e3, rt⟩ := ok'.lst 1 _ e1
      have e4 : t' = t := by
        have q1 := m'.twn
        rw [e2] at q1
        cases q1
        rfl
      subst e4
      have ev : vt = [.int p', .int q'] := by
        cases rt with
        | cons a1 rt => cases rt with
          | cons a2 rt =>
            cases rt
            rw [rp_int a1, rp_int a2]
      subst ev
      refine hq2 v H' p' q' z1 z2 e3 (fun a u ne ea => m'.am.keep a u ?_) (r'.mono (cut_sub fun a za => ?_))
      · simp only
        rw [if_neg ne]
        exact ea
      · by_cases e : a = t'
        · rw [e]
          exact o2
        · exact m'.am.le a ⟨za, e⟩
theorem ne_callO {X : Cx} {C : Tn} {es : List Expr} {wa : WA} {pos : Pos} {k lv n : Nat} {ps : List Str} {W : WF} {x : Str} {p p0 p1 : Pos} {x0 x1 : Str} (F : OkN X.prog X.w X.K X.mg X.base x ps lv n W) (hr : Room k X.A) (hlv : lv ≤ k) (hg : Gl X x)
    (h63 : C.ns.length ≤ 63) (h0 : PE X (.Name x0 p0) (tVar 0)) (h1 : PE X (.Name x1 p1) (tVar 1)) (ha : NA X C es wa) (hdb : (x == ("__debug__" : Str)) = false := by decide)
    (hs0 : starEach (.Name x0 p0 :: .Name x1 p1 :: es) X.env = (false, eval (.Name x0 p0) X.env) :: starEach (.Name x1 p1 :: es) X.env := by rfl) (hs1 : starEach (.Name x1 p1 :: es) X.env = (false, eval (.Name x1 p1) X.env) :: starEach es X.env := by rfl)
    (hpl : (backTo pos (starEach (.Name x1 p1 :: es) X.env)).any (·.1) = false := by rfl) : NE X C (.Call (.Name x p) (.Name x0 p0 :: .Name x1 p1 :: es) [] pos) (wCall n W wa) := by
  obtain ⟨f, fd, hm, hk, hb, F, hW⟩ := F
  exact ne_call F hr hlv hg hm hk hb hW h63 h0 h1 ha hdb hs0 hs1 hpl
end L3

/-! L3L: the law's own defs that draw. -/
namespace L3
open PySem PySem.Spec PyProof.Rows L2
section
variable {X : Cx}
theorem get_list : PGet X (fun x y H Q => ∃ p xs i v, x = .ref p ∧ y = .int ((i : Nat) : Int) ∧ SqL X.K H p xs ∧ xs[i]? = some v ∧ Q v H) := by
  intro pins s σ H o i ov iv Q I ro ri h
  obtain ⟨p, xs, k, v, rfl, rfl, hq, he, q⟩ := h
  cases ro
  obtain ⟨t, rfl⟩ := ri
  obtain ⟨its, r, pl, hz⟩ := I.list hq
  obtain ⟨w, ew, rw'⟩ := r.get he
  have hn := line63
  have hk : k < its.length := (List.getElem?_eq_some_iff.mp ew).1
  have hl := r.length
  exact wpAny_getItem_list pl.isList (by omega) (by omega) (by simpa using ew) ⟨v, H, I, rw', q⟩
end
def W_draw : WF := fun ds Φ => ∃ m : Int, ds = [.int m] ∧ 0 < m ∧ m ≤ 1000 ∧ ∀ i : Int, 0 ≤ i → i < m → Φ (.int i)
theorem mo_draw : MoF W_draw := fun ds Φ Φ' h ⟨m, e, h0, h1, q⟩ => ⟨m, e, h0, h1, fun i a b => h _ (q i a b)⟩
abbrev N_law_draw : List Str := ["_law_script", "_law_town", "_law_many", "_law_one", "_law_at", "_law_mixed"]
theorem sc_law_draw : FnScope N_law_draw ["_law_script", "_law_town", "_law_many"] (defScope s_law_draw) := ⟨rfl, rfl, rfl, by decide +kernel, rfl, by decide +kernel, by decide +kernel⟩
section
variable {P : Program} {w : World} {K : PySem.W.Frag} {mg : Str → Option Value} {base : Heap}
theorem ok_law_draw (T : Txt K mg) : OkN P w K mg base "_law_draw" ["_law_script", "_law_town", "_law_many"] 1 1 W_draw := by
  obtain ⟨fa, fd, F, hmg⟩ := T.law_draw
  refine ⟨fa, fd, hmg, F.kp, F.bindsN (fun _ _ _ _ _ _ us hl => match us, hl with | [_, _, _], _ => rfl), FunD.ok F sc_law_draw (fun vs H Q E h => ?_) (fun cdv A outer sh H vs Q E hr h => ?_), mo_draw⟩
  · obtain ⟨O, s, t, ns, p, q, vs', ds, rfl, _, _, _, _, _, _, _, r, hl, _⟩ := h
    rw [List.length_cons, List.length_cons, r.len, hl]
    rfl
  · obtain ⟨O, s, t, ns, p, q, vs', ds, rfl, hs, h63, ot, et, hp, hq, sub, r, hl, m, rfl, hm0, hm1, fin⟩ := h
    have ev : vs' = [.int m] := by
      cases r with
      | cons r1 r2 =>
        cases r2
        rw [rp_int r1]
    subst ev
    refine ⟨_, PSs.nox (X := cxOf CX0 P w K mg base N_law_draw "_law_draw" (defScope s_law_draw) fa cdv A outer sh H E)
      (show PSs (cxOf CX0 P w K mg base N_law_draw "_law_draw" (defScope s_law_draw) fa cdv A outer sh H E).nox (defBody s_law_draw) _ from
      pss_cons (ps_if (pt_cmpR op_gt (pe_ix ix_list (pv 1) pe_int (fun _ _ => rfl)) pe_int (nomark _))
          (pss_cons (ps_set (i := 3) sc_law_draw.nd rfl (.inl rfl) (pe_op op_mod (pe_ix ix_list (pv 1) pe_int (fun _ _ => rfl)) (pv 2)))
          (pss_cons (ps_asg (pe_op op_fdiv (pe_ix ix_list (pv 1) pe_int (fun _ _ => rfl)) (pv 2)) (pg_sub (pv 1) pe_int set_list))
          (pss_one (ps_ret (pv 3))))) pss_nil)
      (pss_cons (ps_set (i := 4) sc_law_draw.nd rfl (.inl rfl) (pe_ix ix_list (pv 1) pe_int (fun _ _ => rfl)))
      (pss_cons (ps_augS (pv 1) pe_int get_list pe_int ip_add set_list)
      (pss_cons (ps_if (pt_cmpR (op_eqR hr.units) (pv 0) (pe_lst pa_nil) (nomark _)) (pss_one (ps_ret (pe_op op_mod (pv 4) (pv 2)))) pss_nil)
      (pss_cons (ps_if (PW.pt (pw_and (pt_cmpR op_lt (pv 4) (pe_callB call_len_seq rfl T.bi.len boot_len (pa_cons (pv 0) pa_nil)) (nomark _))
            (pw_and1 (pt_cmpR op_ge (pe_ix ix_list (pv 0) (pv 4) (fun _ _ => rfl)) (pe_op op_pow pe_int pe_int) (nomark _)))))
          (pss_cons (ps_asg (pe_op op_mod (pe_op op_fdiv (pe_ix ix_list (pv 0) (pv 4) (fun _ _ => rfl)) (pv 2)) (pe_op op_mulW (pe_op op_pow pe_int pe_int) (pe_op op_pow pe_int pe_int))) (pg_sub (pv 1) pe_int set_list))
          (pss_one (ps_ret (pe_op op_mod (pe_ix ix_list (pv 0) (pv 4) (fun _ _ => rfl)) (pv 2))))) pss_nil)
      (pss_cons (ps_set (i := 5) sc_law_draw.nd rfl (.inl rfl) (pe_op op_mod (pe_op op_add (pe_op op_add (pe_op op_mul (pe_ix ix_list (pv 0) (pe_op op_mod (pv 4) (pe_callB call_len_seq rfl T.bi.len boot_len (pa_cons (pv 0) pa_nil))) (fun _ _ => rfl)) pe_int) (pe_op op_mul pe_int (pv 4))) pe_int) pe_int))
      (pss_one (ps_ret (pe_op op_mod (pe_op op_mod (pe_op op_mod (pe_op op_pow (pv 5) pe_int) pe_int) pe_int) (pv 2)))))))))), ?_⟩
    have le18 : (10 : Int) ^ (18 : Int).toNat = 1000000000000000000 := by decide
    have p60 : ((10 : Int) ^ (60 : Int).toNat).natAbs < 2 ^ 400 := by decide +kernel
    have fin2 : ∀ (i : Int) (H' : Hp) (p' q' : Int), 0 ≤ i → i < m → 0 ≤ p' → 0 ≤ q' → H' t = some (.lst [.int p', .int q']) → (∀ a u, a ≠ t → H a = some u → H' a = some u) → Q (.int i) H' := fun i H' p' q' a b c d e k => fin i a b (.int i) H' p' q' c d e k (.int i)
    have kp : ∀ (u : HO) (a : Addr) (x : HO), a ≠ t → H a = some x → upd H t u a = some x := fun u a x ne e => by rw [upd_ne ne]; exact e
    -- if town[1] > 0
    refine ⟨_, rfl, t, _, 1, .int q, rfl, rfl, SqL.of et, rfl, q, 0, rfl, rfl, _, rfl, ?_⟩
    refine ite2 (fun c => ?_) (fun c => ?_)
    · refine ⟨_, rfl, t, _, 1, .int q, rfl, rfl, SqL.of et, rfl, _, rfl, q, m, rfl, rfl, hm0, ?_⟩
      refine ⟨_, rfl, t, _, 1, .int q, rfl, rfl, SqL.of et, rfl, _, rfl, q, m, rfl, rfl, ⟨hm0, by omega⟩, _, rfl, t, _, 1, 1, rfl, rfl, et, rfl, ?_⟩
      exact ⟨_, rfl, fin2 (q % m) _ p (q / m) (Int.emod_nonneg _ (by omega)) (Int.emod_lt_of_pos _ hm0) hp (Int.ediv_nonneg hq (by omega)) upd_same (kp _)⟩
    · refine ⟨_, rfl, t, _, 0, .int p, rfl, rfl, SqL.of et, rfl, ?_⟩
      refine ⟨_, rfl, t, _, 0, .int p, rfl, rfl, SqL.of et, rfl, p, 1, rfl, rfl, t, _, 0, 0, rfl, rfl, et, rfl, ?_⟩
      have h1s : ScrOk K O (upd H t (.lst [.int (p + 1), .int q])) s ns := hs.go (by rw [cut_upd ot]; exact Same.refl _)
      have h1t : upd H t (.lst [.int (p + 1), .int q]) t = some (.lst [.int (p + 1), .int q]) := upd_same
      have sub1 : ∀ b, upd H t (.lst [.int (p + 1), .int q]) b = none → H b = none ∧ b ≠ t := fun b e => by
        have ne : b ≠ t := fun z => by rw [z, upd_same] at e; cases e
        rw [upd_ne ne] at e
        exact ⟨e, ne⟩
      -- if script == []
      refine ⟨_, rfl, Nat.zero_le _, fun r0 hr0 => ?_⟩
      have s12 : Same (upd H t (.lst [.int (p + 1), .int q])) (upd (upd H t (.lst [.int (p + 1), .int q])) r0 (.lst [])) := same_upd hr0
      have h2s : SqL K (upd (upd H t (.lst [.int (p + 1), .int q])) r0 (.lst [])) s (ns.map V.int) := s12.seq h1s.sq
      have h2t := s12 _ _ h1t
      have kp2 : ∀ a x, a ≠ t → H a = some x → upd (upd H t (.lst [.int (p + 1), .int q])) r0 (.lst []) a = some x := fun a x ne e => s12 _ _ (kp _ a x ne e)
      have dpi : ∀ l : List Int, DpAll K (upd (upd H t (.lst [.int (p + 1), .int q])) r0 (.lst [])) (l.map V.int) (l.map PyData.int) := fun l => by
        induction l with
        | nil => exact .nil
        | cons i l ih => exact .cons (.int i) ih
      have cl : ∀ l : List Int, PyData.canLayAll0 (l.map PyData.int) = true := fun l => by
        induction l with
        | nil => simp [PyData.canLayAll0]
        | cons i l ih => simp [PyData.canLayAll0, PyData.canLay0, ih]
      refine ⟨.list (ns.map PyData.int), .list [], .lst h2s (dpi ns), .lst (SqL.of upd_same) .nil, by simp [PyData.canLay0, cl], by simp [PyData.canLay0, PyData.canLayAll0], by simp only [PyData.depth, PyData.depthAll]; omega, _, rfl, ?_⟩
      refine ite2 (fun c2 => ?_) (fun c2 => ?_)
      · exact ⟨_, rfl, _, rfl, p, m, rfl, rfl, hm0, fin2 (p % m) _ (p + 1) q (Int.emod_nonneg _ (by omega)) (Int.emod_lt_of_pos _ hm0) (by omega) hq h2t kp2⟩
      · have hne : 0 < ns.length := by
          cases ns with
          | nil => exact absurd (by simp [PyData.eqv, PyData.eqvAll]) c2
          | cons i l => exact Nat.succ_pos _
        have hl2 : (ns.map V.int).length = ns.length := List.length_map _
        have at_ : ∀ i : Int, 0 ≤ i → i < ns.length → ∃ k : Int, L2.atI (ns.map V.int) i = some (.int k) := fun i h0 h1 => by
          have hk : i.toNat < ns.length := by omega
          have e1 : i = ((i.toNat : Nat) : Int) := by omega
          have e2 : L2.atI (ns.map V.int) ((i.toNat : Nat) : Int) = some (.int ns[i.toNat]) := atI_nat (by
            rw [List.getElem?_map, List.getElem?_eq_getElem hk]
            rfl)
          rw [← e1] at e2
          exact ⟨ns[i.toNat], e2⟩
        -- if at < len(script) and script[at] >= 10 ** 18
        refine ⟨_, rfl, _, rfl, s, _, rfl, .inl h2s, p, _, rfl, rfl, _, rfl, ?_⟩
        have tail : ∀ D : Ends, D.rt = Q → tSeq (tAsg (tOp (rI (fun _ j => 0 < j) fun i j => .int (i % j)) (tOp (rI0 fun i j => .int (i + j)) (tOp (rI0 fun i j => .int (i + j)) (tOp (rI CMul fun i j => .int (i * j)) (tOp (rIxL K) (tVar 0) (tOp (rI (fun _ j => 0 < j) fun i j => .int (i % j)) (tVar 4)
            (tCB (fun xs H Q => ∃ p ys, xs = [.ref p] ∧ (SqL K H p ys ∨ SqT K H p ys) ∧ Q (.int ys.length) H) (tCons (tVar 0) tNil)))) (tC (.int 1103515245))) (tOp (rI CMul fun i j => .int (i * j)) (tC (.int 7919)) (tVar 4))) (tC (.int 12345))) (tC (.int 2147483647))) (gName 5))
            (tRet (tOp (rI (fun _ j => 0 < j) fun i j => .int (i % j)) (tOp (rI (fun _ j => 0 < j) fun i j => .int (i % j)) (tOp (rI (fun _ j => 0 < j) fun i j => .int (i % j)) (tOp (rI CPow fun i j => .int (i ^ j.toNat)) (tVar 5) (tC (.int 5))) (tC (.int 2147483647))) (tC (.int 999983))) (tVar 2))) D
            [some (.ref s), some (.ref t), some (.int m), none, some (.int p), none] (upd (upd H t (.lst [.int (p + 1), .int q])) r0 (.lst [])) := fun D eD => by
          obtain ⟨k, hk⟩ := at_ (p % ns.length) (Int.emod_nonneg _ (by omega)) (Int.emod_lt_of_pos _ (by omega))
          refine ⟨_, rfl, _, rfl, _, rfl, s, _, rfl, .inl h2s, p, _, rfl, rfl, by rw [hl2]; omega, s, _, _, .int k, rfl, rfl, h2s, by rw [hl2]; exact hk, k, 1103515245, rfl, rfl, .inr ⟨by decide, by decide⟩, _, rfl, 7919, p, rfl, rfl, .inl ⟨by decide, by decide⟩, _, _, rfl, rfl, _, _, rfl, rfl, _, _, rfl, rfl, (show (0 : Int) < 2147483647 by decide), ?_⟩
          refine ⟨_, rfl, _, _, rfl, rfl, ⟨by decide, by decide, ?_⟩, _, _, rfl, rfl, (show (0 : Int) < 2147483647 by decide), _, _, rfl, rfl, (show (0 : Int) < 999983 by decide), _, rfl, _, _, rfl, rfl, hm0, ?_⟩
          · have h0 := Int.emod_nonneg (k * 1103515245 + 7919 * p + 12345) (show (2147483647 : Int) ≠ 0 by decide)
            have h1 := Int.emod_lt_of_pos (k * 1103515245 + 7919 * p + 12345) (show (0 : Int) < 2147483647 by decide)
            omega
          · rw [eD]
            exact fin2 _ _ (p + 1) q (Int.emod_nonneg _ (by omega)) (Int.emod_lt_of_pos _ hm0) (by omega) hq h2t kp2
        refine ite2 (fun c3 => ?_) (fun c3 => ?_)
        · have c3' : p < ((ns.map V.int).length : Nat) := of_decide_eq_true c3
          rw [hl2] at c3'
          obtain ⟨k, hk⟩ := at_ p hp c3'
          refine ⟨_, rfl, _, rfl, s, _, _, .int k, rfl, rfl, h2s, hk, 10, 18, rfl, rfl, ⟨by decide, by decide, by decide⟩, k, _, rfl, rfl, _, rfl, ?_⟩
          refine ite2 (fun c4 => ?_) (fun c4 => tail _ rfl)
          refine ⟨_, rfl, _, rfl, s, _, _, .int k, rfl, rfl, h2s, hk, _, rfl, k, m, rfl, rfl, ⟨hm0, by omega⟩, 10, 60, rfl, rfl, ⟨by decide, by decide, by decide⟩, 10, 60, rfl, rfl, ⟨by decide, by decide, by decide⟩, _, _, rfl, rfl, wide_mul p60 p60 (by decide) (by decide) (by decide), _, _, rfl, rfl, (show (0 : Int) < 10 ^ Int.toNat 60 * 10 ^ Int.toNat 60 by decide +kernel), _, rfl, t, _, 1, 1, rfl, rfl, h2t, rfl, ?_⟩
          have ht0 : ∀ u : HO, SqL K (upd (upd (upd H t (.lst [.int (p + 1), .int q])) r0 (.lst [])) t u) s (ns.map V.int) := fun u => by
            have : ScrOk K O (upd (upd (upd H t (.lst [.int (p + 1), .int q])) r0 (.lst [])) t u) s ns := h1s.go (by
              have e := cut_upd (O := O) (H := upd (upd H t (.lst [.int (p + 1), .int q])) r0 (.lst [])) (u := u) ot
              rw [e]
              exact cut_same s12)
            exact this.sq
          refine ⟨_, rfl, _, rfl, s, _, _, .int k, rfl, rfl, ht0 _, hk, _, rfl, k, m, rfl, rfl, hm0, fin2 _ _ (p + 1) _ (Int.emod_nonneg _ (by omega)) (Int.emod_lt_of_pos _ hm0) (by omega) ?_ upd_same fun a x ne e => ?_⟩
          · exact Int.emod_nonneg _ (by decide +kernel)
          · rw [upd_ne ne]
            exact kp2 a x ne e
        · exact tail _ rfl
end
end L3

/-! M0: what the combinators compute, as rules for simp. -/
namespace L3
open PySem PySem.Spec PyProof.Rows L2
def andK (o : Option PyData) (f' : FE) (ρ : PEnv) : Option PyData := o.bind fun x => match x with
  | .bool true => f' ρ
  | .bool false => some (.bool false)
  | _ => none
def orK (o : Option PyData) (f' : FE) (ρ : PEnv) : Option PyData := o.bind fun x => match x with
  | .bool true => some (.bool true)
  | .bool false => f' ρ
  | _ => none
def ifK (o : Option PyData) (f f' : FE) (ρ : PEnv) : Option PyData := o.bind fun x => match x with
  | .bool true => f ρ
  | .bool false => f' ρ
  | _ => none
def sifK (o : Option PyData) (f f' : FS) (ρ : PEnv) : Option Out := o.bind fun x => match x with
  | .bool true => f ρ
  | .bool false => f' ρ
  | _ => none
def seqK : Option Out → FS → Option Out
  | some (.nx ρ), f => f ρ
  | some (.rt d), _ => some (.rt d)
  | none, _ => none
section
variable {i j : Nat} {ρ : PEnv} {d : PyData} {f f' f'' : FE} {r : FA} {s s' : FS}
@[simp] theorem m_fVar0 : fVar 0 (some (.val d) :: ρ) = some d := rfl
@[simp] theorem m_fVarS {x : Option EV} : fVar (i + 1) (x :: ρ) = fVar i ρ := rfl
@[simp] theorem m_fC : fC d ρ = some d := rfl
@[simp] theorem m_o1 {g : PyData → Option PyData} : o1 g f ρ = (f ρ).bind g := rfl
@[simp] theorem m_o2 {g : PyData → PyData → Option PyData} : o2 g f f' ρ = (f ρ).bind fun x => (f' ρ).bind fun y => g x y := rfl
@[simp] theorem m_and : fAnd f f' ρ = andK (f ρ) f' ρ := rfl
@[simp] theorem m_andT : andK (some (.bool true)) f' ρ = f' ρ := rfl
@[simp] theorem m_andF : andK (some (.bool false)) f' ρ = some (.bool false) := rfl
@[simp] theorem m_or : fOr f f' ρ = orK (f ρ) f' ρ := rfl
@[simp] theorem m_orT : orK (some (.bool true)) f' ρ = some (.bool true) := rfl
@[simp] theorem m_orF : orK (some (.bool false)) f' ρ = f' ρ := rfl
@[simp] theorem m_if : fIf f f' f'' ρ = ifK (f ρ) f' f'' ρ := rfl
@[simp] theorem m_ifT : ifK (some (.bool true)) f' f'' ρ = f' ρ := rfl
@[simp] theorem m_ifF : ifK (some (.bool false)) f' f'' ρ = f'' ρ := rfl
@[simp] theorem m_sIf : sIf f s s' ρ = sifK (f ρ) s s' ρ := rfl
@[simp] theorem m_sIfT : sifK (some (.bool true)) s s' ρ = s ρ := rfl
@[simp] theorem m_sIfF : sifK (some (.bool false)) s s' ρ = s' ρ := rfl
@[simp] theorem m_not (b : Bool) : dNot (.bool b) = some (.bool (!b)) := rfl
@[simp] theorem m_a0 : a0 ρ = some [] := rfl
@[simp] theorem m_ac : ac f r ρ = (f ρ).bind fun x => (r ρ).bind fun xs => some (x :: xs) := rfl
@[simp] theorem m_fTup : fTup r ρ = (r ρ).bind fun xs => some (.tuple xs) := rfl
@[simp] theorem m_fLst : fLst r ρ = (r ρ).bind fun xs => some (.list xs) := rfl
@[simp] theorem m_oA {g : List PyData → Option PyData} : oA g r ρ = (r ρ).bind g := rfl
@[simp] theorem m_sNext : sNext ρ = some (.nx ρ) := rfl
@[simp] theorem m_seq : sSeq s s' ρ = seqK (s ρ) s' := by
  unfold sSeq seqK
  cases s ρ with
  | none => rfl
  | some o => cases o <;> rfl
@[simp] theorem m_seqN : seqK (some (.nx ρ)) s' = s' ρ := rfl
@[simp] theorem m_seqR : seqK (some (.rt d)) s' = some (.rt d) := rfl
@[simp] theorem m_sSet : sSet i f ρ = (f ρ).bind fun d => some (.nx (ρ.set i (some (.val d)))) := rfl
@[simp] theorem m_sAsg {g : FT} : sAsg g f ρ = (f ρ).bind fun d => (g d ρ).bind fun ρ' => some (.nx ρ') := rfl
@[simp] theorem m_sRet : sRet f ρ = (f ρ).bind fun d => some (.rt d) := rfl
@[simp] theorem m_gN : gN i d ρ = some (ρ.set i (some (.val d))) := rfl
@[simp] theorem m_gs0 : gs0 [] ρ = some ρ := rfl
@[simp] theorem m_gsC {g : FT} {r : FTs} {ds : List PyData} : gsC g r (d :: ds) ρ = (g d ρ).bind fun ρ' => r ds ρ' := rfl
@[simp] theorem m_gT {r : FTs} {ds : List PyData} : gT r (.tuple ds) ρ = r ds ρ := rfl
@[simp] theorem m_gL {r : FTs} {ds : List PyData} : gL r (.list ds) ρ = r ds ρ := rfl
@[simp] theorem m_runF {n : Nat} {ds : List PyData} : runF n s ds = endOf (s (startE n ds)) := rfl
@[simp] theorem m_endR : endOf (some (.rt d)) = some d := rfl
@[simp] theorem m_endN : endOf (some (.nx ρ)) = some .none := rfl
@[simp] theorem m_start1 {n : Nat} {a : PyData} : startE (n + 1) [a] = some (.val a) :: List.replicate n none := rfl
@[simp] theorem m_start2 {n : Nat} {a b : PyData} : startE (n + 2) [a, b] = some (.val a) :: some (.val b) :: List.replicate n none := rfl
@[simp] theorem m_start3 {n : Nat} {a b c : PyData} : startE (n + 3) [a, b, c] = some (.val a) :: some (.val b) :: some (.val c) :: List.replicate n none := rfl
@[simp] theorem m_start4 {n : Nat} {a b c e : PyData} : startE (n + 4) [a, b, c, e] = some (.val a) :: some (.val b) :: some (.val c) :: some (.val e) :: List.replicate n none := rfl
@[simp] theorem m_start5 {n : Nat} {a b c e f : PyData} : startE (n + 5) [a, b, c, e, f] = some (.val a) :: some (.val b) :: some (.val c) :: some (.val e) :: some (.val f) :: List.replicate n none := rfl
@[simp] theorem m_idxT {xs : List PyData} {k : Int} : dIdx (.tuple xs) (.int k) = L2.atI xs k := rfl
@[simp] theorem m_idxL {xs : List PyData} {k : Int} : dIdx (.list xs) (.int k) = L2.atI xs k := rfl
@[simp] theorem m_at0 {α : Type} {x : α} {xs : List α} : L2.atI (x :: xs) 0 = some x := by simp [L2.atI, L2.ixN]
@[simp] theorem m_at1 {α : Type} {x y : α} {xs : List α} : L2.atI (x :: y :: xs) 1 = some y := by
  have : (1 : Int) < ((xs.length : Int) + 1 + 1) := by omega
  simp [L2.atI, L2.ixN, this]
@[simp] theorem m_at2 {α : Type} {x y z : α} {xs : List α} : L2.atI (x :: y :: z :: xs) 2 = some z := by
  have : (2 : Int) < ((xs.length : Int) + 1 + 1 + 1) := by omega
  simp [L2.atI, L2.ixN, this]
@[simp] theorem m_at3 {α : Type} {x y z u : α} {xs : List α} : L2.atI (x :: y :: z :: u :: xs) 3 = some u := by
  have : (3 : Int) < ((xs.length : Int) + 1 + 1 + 1 + 1) := by omega
  simp [L2.atI, L2.ixN, this]
@[simp] theorem m_addI (a b : Int) : dAdd (.int a) (.int b) = some (.int (a + b)) := rfl
@[simp] theorem m_addB (a : Int) (b : Bool) : dAdd (.int a) (.bool b) = some (.int (a + b2i b)) := rfl
@[simp] theorem m_subI (a b : Int) : dSub (.int a) (.int b) = some (.int (a - b)) := rfl
@[simp] theorem m_lt (a b : Int) : dLt (.int a) (.int b) = some (.bool (decide (a < b))) := rfl
@[simp] theorem m_le (a b : Int) : dLe (.int a) (.int b) = some (.bool (decide (a ≤ b))) := rfl
@[simp] theorem m_gt (a b : Int) : dGt (.int a) (.int b) = some (.bool (decide (b < a))) := rfl
@[simp] theorem m_ge (a b : Int) : dGe (.int a) (.int b) = some (.bool (decide (b ≤ a))) := rfl
@[simp] theorem m_eqI (a b : Int) : dEq (.int a) (.int b) = some (.bool (decide (a = b))) := rfl
@[simp] theorem m_eqS (a b : Str) : dEq (.str a) (.str b) = some (.bool (decide (a = b))) := rfl
@[simp] theorem m_eqB (a b : Bool) : dEq (.bool a) (.bool b) = some (.bool (decide (a = b))) := rfl
@[simp] theorem m_neI (a b : Int) : dNe (.int a) (.int b) = some (.bool (!decide (a = b))) := rfl
@[simp] theorem m_neS (a b : Str) : dNe (.str a) (.str b) = some (.bool (!decide (a = b))) := rfl
@[simp] theorem m_neB (a b : Bool) : dNe (.bool a) (.bool b) = some (.bool (!decide (a = b))) := rfl
@[simp] theorem m_max (a b : Int) : gMax [.int a, .int b] = some (.int (if b > a then b else a)) := rfl
@[simp] theorem m_min (a b : Int) : gMin [.int a, .int b] = some (.int (if b < a then b else a)) := rfl
@[simp] theorem m_lenL (xs : List PyData) : gLen [.list xs] = some (.int xs.length) := rfl
@[simp] theorem m_lenT (xs : List PyData) : gLen [.tuple xs] = some (.int xs.length) := rfl
end
end L3

/-! M1: trees, rules, deeds; the shapes' functions. -/
namespace L3
open PySem PySem.Spec PyProof.Rows L2

inductive Tree where
  | nil
  | node (l : Tree) (k : Int) (r : Tree)
  deriving DecidableEq
namespace Tree
def keys : Tree → List Int
  | .nil => []
  | .node l k r => keys l ++ [k] ++ keys r
def ht : Tree → Nat
  | .nil => 0
  | .node l _ r => max (ht l) (ht r) + 1
def size : Tree → Nat
  | .nil => 0
  | .node l _ r => size l + 1 + size r
end Tree
def enc : Tree → PyData
  | .nil => .tuple []
  | .node l k r => .tuple [enc l, .int k, enc r]
def iL0 (l : List Int) : PyData := .list (l.map .int)

theorem canLay_enc : ∀ t : Tree, (enc t).canLay0 = true
  | .nil => by simp [enc, PyData.canLay0, PyData.canLayAll0]
  | .node l k r => by simp [enc, PyData.canLay0, PyData.canLayAll0, canLay_enc l, canLay_enc r]
theorem canLay_ints : ∀ l : List Int, PyData.canLayAll0 (l.map .int) = true
  | [] => by simp [PyData.canLayAll0]
  | i :: r => by simp [PyData.canLayAll0, PyData.canLay0, canLay_ints r]
@[simp] theorem eqE_nil : dEqE (enc .nil) (.tuple []) = some (.bool true) := by simp [dEqE, isE, enc, PyData.canLayAll0]
@[simp] theorem eqE_node (l k r) : dEqE (enc (.node l k r)) (.tuple []) = some (.bool false) := by simp [dEqE, isE, enc, PyData.canLayAll0, PyData.canLay0, canLay_enc]
@[simp] theorem neE_nil : dNeE (enc .nil) (.tuple []) = some (.bool false) := by simp [dNeE, isE, enc, PyData.canLayAll0]
@[simp] theorem neE_node (l k r) : dNeE (enc (.node l k r)) (.tuple []) = some (.bool true) := by simp [dNeE, isE, enc, PyData.canLayAll0, PyData.canLay0, canLay_enc]
@[simp] theorem eqE_ints (l : List Int) : dEqE (iL0 l) (.list []) = some (.bool l.isEmpty) := by
  simp [dEqE, isE, iL0, canLay_ints]
@[simp] theorem idx0 (l k r) : dIdx (enc (.node l k r)) (.int 0) = some (enc l) := by simp [enc]
@[simp] theorem idx1 (l k r) : dIdx (enc (.node l k r)) (.int 1) = some (.int k) := by simp [enc]
@[simp] theorem idx2 (l k r) : dIdx (enc (.node l k r)) (.int 2) = some (enc r) := by simp [enc]
@[simp] theorem gT_node {r' : FTs} {l k r} {ρ : PEnv} : gT r' (enc (.node l k r)) ρ = r' [enc l, .int k, enc r] ρ := rfl
@[simp] theorem add_ints {a b : List Int} (h : a.length + b.length ≤ 1000) : dAdd (iL0 a) (iL0 b) = some (iL0 (a ++ b)) := by
  unfold dAdd iL0
  simp only [List.length_map, List.map_append]
  rw [if_pos (by omega)]
@[simp] theorem lst_one (k : Int) : PyData.list [.int k] = iL0 [k] := rfl
@[simp] theorem lst_nil : PyData.list [] = iL0 [] := rfl

theorem keys_len : ∀ t : Tree, t.keys.length = t.size
  | .nil => rfl
  | .node l k r => by simp [Tree.keys, Tree.size, keys_len l, keys_len r]; omega
theorem ht_le : ∀ t : Tree, t.ht ≤ t.size
  | .nil => Nat.le_refl 0
  | .node l k r => by
    have h1 := ht_le l
    have h2 := ht_le r
    simp only [Tree.ht, Tree.size]
    omega
theorem F_keys_of_eq : ∀ (n : Nat) (t : Tree), t.ht < n → t.size ≤ 500 → F_keys_of n [enc t] = some (iL0 t.keys)
  | 0, _, h, _ => by omega
  | n + 1, .nil, _, _ => by
    simp [F_keys_of, B_keys_of, Tree.keys]
  | n + 1, .node l k r, h, hs => by
    simp only [Tree.ht] at h
    simp only [Tree.size] at hs
    have hl := F_keys_of_eq n l (by omega) (by omega)
    have hr := F_keys_of_eq n r (by omega) (by omega)
    have h1 := keys_len l
    have h2 := keys_len r
    have ha : dAdd (iL0 l.keys) (iL0 [k]) = some (iL0 (l.keys ++ [k])) := add_ints (by simp; omega)
    have hb : dAdd (iL0 (l.keys ++ [k])) (iL0 r.keys) = some (iL0 (l.keys ++ [k] ++ r.keys)) := add_ints (by simp; omega)
    simp only [List.append_assoc, List.cons_append, List.nil_append] at hb
    simp [F_keys_of, B_keys_of, hl, hr, Tree.keys, ha, hb]
theorem F_law_keys_eq : ∀ (n : Nat) (t : Tree), t.ht < n → t.size ≤ 500 → F_law_keys n [enc t] = some (iL0 t.keys)
  | 0, _, h, _ => by omega
  | n + 1, .nil, _, _ => by
    simp [F_law_keys, B_law_keys, Tree.keys]
  | n + 1, .node l k r, h, hs => by
    simp only [Tree.ht] at h
    simp only [Tree.size] at hs
    have hl := F_law_keys_eq n l (by omega) (by omega)
    have hr := F_law_keys_eq n r (by omega) (by omega)
    have h1 := keys_len l
    have h2 := keys_len r
    have ha : dAdd (iL0 l.keys) (iL0 [k]) = some (iL0 (l.keys ++ [k])) := add_ints (by simp; omega)
    have hb : dAdd (iL0 (l.keys ++ [k])) (iL0 r.keys) = some (iL0 (l.keys ++ [k] ++ r.keys)) := add_ints (by simp; omega)
    simp only [List.append_assoc, List.cons_append, List.nil_append] at hb
    simp [F_law_keys, B_law_keys, hl, hr, Tree.keys, ha, hb]
theorem F_size_of_eq : ∀ (n : Nat) (t : Tree), t.ht < n → F_size_of n [enc t] = some (.int t.size)
  | 0, _, h => by omega
  | n + 1, .nil, _ => by simp [F_size_of, B_size_of, Tree.size]
  | n + 1, .node l k r, h => by
    simp only [Tree.ht] at h
    simp [F_size_of, B_size_of, F_size_of_eq n l (by omega), F_size_of_eq n r (by omega), Tree.size]
theorem F_height_of_eq : ∀ (n : Nat) (t : Tree), t.ht < n → F_height_of n [enc t] = some (.int t.ht)
  | 0, _, h => by omega
  | n + 1, .nil, _ => by simp [F_height_of, B_height_of, Tree.ht]
  | n + 1, .node l k r, h => by
    simp only [Tree.ht] at h
    simp [F_height_of, B_height_of, F_height_of_eq n l (by omega), F_height_of_eq n r (by omega), Tree.ht]
    split <;> omega
/-- the number of keys above a key, or above the place where it would be hung on -/
def way : Tree → Int → Nat
  | .nil, _ => 0
  | .node l x r, k => if x = k then 0 else if k < x then way l k + 1 else way r k + 1
theorem F_way_to_eq : ∀ (n : Nat) (t : Tree) (k : Int), t.ht < n → F_way_to n [enc t, .int k] = some (.int (way t k))
  | 0, _, _, h => by omega
  | n + 1, .nil, _, _ => by simp [F_way_to, B_way_to, way]
  | n + 1, .node l x r, k, h => by
    simp only [Tree.ht] at h
    by_cases h1 : x = k
    · simp [F_way_to, B_way_to, way, h1]
    · by_cases h2 : k < x
      · simp [F_way_to, B_way_to, way, h1, h2, F_way_to_eq n l k (by omega)]
        omega
      · simp [F_way_to, B_way_to, way, h1, h2, F_way_to_eq n r k (by omega)]
        omega
theorem F_left_up_eq (a y b x r) : F_left_up [enc (.node (.node a y b) x r)] = some (enc (.node a y (.node b x r))) := by
  simp [F_left_up, B_left_up, List.replicate]
  simp [enc]
theorem F_right_up_eq (l x a y b) : F_right_up [enc (.node l x (.node a y b))] = some (enc (.node (.node l x a) y b)) := by
  simp [F_right_up, B_right_up, List.replicate]
  simp [enc]
def isTop : Tree → Int → Bool
  | .nil, _ => false
  | .node _ x _, k => decide (x = k)
def lup : Tree → Int → Tree → Tree
  | .nil, _, _ => .nil
  | .node a y b, x, r => .node a y (.node b x r)
def rup : Tree → Int → Tree → Tree
  | _, _, .nil => .nil
  | l, x, .node a y b => .node (.node l x a) y b
/-- a key rotated up -/
def turn : Tree → Int → Tree
  | .nil, _ => .nil
  | .node l x r, k => if k < x then (if isTop l k then lup l x r else .node (turn l k) x r) else if isTop r k then rup l x r else .node l x (turn r k)
/-- a key of a tree, found by the order, that is not the top -/
def below : Tree → Int → Prop
  | .nil, _ => False
  | .node l x r, k => x ≠ k ∧ if k < x then (∃ a b, l = .node a k b) ∨ below l k else (∃ a b, r = .node a k b) ∨ below r k
theorem F_turned_eq : ∀ (n : Nat) (t : Tree) (k : Int), t.ht ≤ n → below t k → F_turned n [enc t, .int k] = some (enc (turn t k))
  | _, .nil, _, _, h => h.elim
  | 0, .node _ _ _, _, h, _ => by simp [Tree.ht] at h
  | n + 1, .node l x r, k, h, hb => by
    simp only [Tree.ht] at h
    obtain ⟨hx, hb⟩ := hb
    by_cases h2 : k < x
    · rw [if_pos h2] at hb
      cases l with
      | nil =>
        rcases hb with ⟨a, b, e⟩ | hb
        · cases e
        · exact hb.elim
      | node a y b =>
        by_cases h3 : y = k
        · simp [F_turned, B_turned, List.replicate, h2, h3, F_left_up_eq, turn, isTop, lup]
        · have hb2 : below (.node a y b) k := by
            rcases hb with ⟨a', b', e⟩ | hb
            · cases e
              exact absurd rfl h3
            · exact hb
          simp [F_turned, B_turned, List.replicate, h2, h3, F_turned_eq n (.node a y b) k (by omega) hb2, turn, isTop]
          simp [enc]
    · rw [if_neg h2] at hb
      cases r with
      | nil =>
        rcases hb with ⟨a, b, e⟩ | hb
        · cases e
        · exact hb.elim
      | node a y b =>
        by_cases h3 : y = k
        · simp [F_turned, B_turned, List.replicate, h2, h3, F_right_up_eq, turn, isTop, rup]
        · have hb2 : below (.node a y b) k := by
            rcases hb with ⟨a', b', e⟩ | hb
            · cases e
              exact absurd rfl h3
            · exact hb
          simp [F_turned, B_turned, List.replicate, h2, h3, F_turned_eq n (.node a y b) k (by omega) hb2, turn, isTop]
          simp [enc]
end L3

/-! M2: going up: once_up, to_top, splayed keep the keys. -/
namespace L3
open PySem PySem.Spec PyProof.Rows L2

abbrev Srt (l : List Int) : Prop := l.Pairwise (· < ·)
def fnd : Tree → Int → Prop
  | .nil, _ => False
  | .node l x r, k => x = k ∨ (if k < x then fnd l k else fnd r k)
theorem srt_node {l x r} (h : Srt (Tree.keys (.node l x r))) : Srt l.keys ∧ Srt r.keys ∧ (∀ y ∈ l.keys, y < x) ∧ ∀ y ∈ r.keys, x < y := by
  simp only [Tree.keys, List.append_assoc, List.cons_append, List.nil_append] at h
  obtain ⟨h1, h2, h3⟩ := List.pairwise_append.mp h
  obtain ⟨h4, h5⟩ := List.pairwise_cons.mp h2
  exact ⟨h1, h5, fun y hy => h3 y hy x List.mem_cons_self, h4⟩
theorem mem_node {l x r} {k : Int} : k ∈ Tree.keys (.node l x r) ↔ k ∈ l.keys ∨ k = x ∨ k ∈ r.keys := by
  simp [Tree.keys]
theorem fnd_of : ∀ {t : Tree} {k : Int}, Srt t.keys → k ∈ t.keys → fnd t k
  | .nil, k, _, h => by simp [Tree.keys] at h
  | .node l x r, k, hs, h => by
    obtain ⟨h1, h2, h3, h4⟩ := srt_node hs
    unfold fnd
    by_cases e : x = k
    · exact .inl e
    · refine .inr ?_
      rcases mem_node.mp h with h | h | h
      · rw [if_pos (h3 k h)]
        exact fnd_of h1 h
      · exact absurd h.symm e
      · have := h4 k h
        rw [if_neg (by omega)]
        exact fnd_of h2 h
theorem mem_of_fnd : ∀ {t : Tree} {k : Int}, fnd t k → k ∈ t.keys
  | .nil, _, h => h.elim
  | .node l x r, k, h => by
    rcases h with h | h
    · exact mem_node.mpr (.inr (.inl h.symm))
    · split at h
      · exact mem_node.mpr (.inl (mem_of_fnd h))
      · exact mem_node.mpr (.inr (.inr (mem_of_fnd h)))
theorem fnd_cases {t : Tree} {k : Int} (h : fnd t k) : (∃ a b, t = .node a k b) ∨ below t k := by
  induction t with
  | nil => exact h.elim
  | node l x r ihl ihr =>
    by_cases e : x = k
    · exact .inl ⟨l, r, by rw [e]⟩
    · refine .inr ⟨e, ?_⟩
      rcases h with h | h
      · exact absurd h e
      · split at h
        · rename_i hk
          rw [if_pos hk]
          exact ihl h
        · rename_i hk
          rw [if_neg hk]
          exact ihr h
theorem fnd_below : ∀ {t : Tree} {k : Int}, below t k → fnd t k
  | .nil, _, h => h.elim
  | .node l x r, k, ⟨e, h⟩ => by
    refine .inr ?_
    split at h
    · rename_i hk
      rw [if_pos hk]
      rcases h with ⟨a, b, e⟩ | h
      · rw [e]
        exact .inl rfl
      · exact fnd_below h
    · rename_i hk
      rw [if_neg hk]
      rcases h with ⟨a, b, e⟩ | h
      · rw [e]
        exact .inl rfl
      · exact fnd_below h
theorem below_top {t : Tree} {k : Int} (h : below t k) : isTop t k = false := by
  cases t with
  | nil => rfl
  | node l x r => exact decide_eq_false h.1
theorem keys_turn : ∀ {t : Tree} {k : Int}, below t k → (turn t k).keys = t.keys
  | .nil, _, h => h.elim
  | .node l x r, k, ⟨e, h⟩ => by
    unfold turn
    split at h
    · rename_i hk
      rw [if_pos hk]
      rcases h with ⟨a, b, e⟩ | h
      · subst e
        simp [isTop, lup, Tree.keys]
      · rw [below_top h]
        simp [Tree.keys, keys_turn h]
    · rename_i hk
      rw [if_neg hk]
      rcases h with ⟨a, b, e⟩ | h
      · subst e
        simp [isTop, rup, Tree.keys]
      · rw [below_top h]
        simp [Tree.keys, keys_turn h]
theorem way_turn : ∀ {t : Tree} {k : Int}, below t k → way (turn t k) k + 1 = way t k
  | .nil, _, h => h.elim
  | .node l x r, k, ⟨e, h⟩ => by
    unfold turn
    split at h
    · rename_i hk
      rw [if_pos hk]
      rcases h with ⟨a, b, e2⟩ | h
      · subst e2
        simp [isTop, lup, way, e, hk]
      · rw [below_top h]
        simp [way, e, hk, way_turn h]
    · rename_i hk
      rw [if_neg hk]
      rcases h with ⟨a, b, e2⟩ | h
      · subst e2
        simp [isTop, rup, way, e, hk]
      · rw [below_top h]
        simp [way, e, hk, way_turn h]
theorem way_lt : ∀ {t : Tree} {k : Int}, fnd t k → way t k < t.ht
  | .nil, _, h => h.elim
  | .node l x r, k, h => by
    by_cases e : x = k
    · simp [way, Tree.ht, e]
    · rcases h with h | h
      · exact absurd h e
      · split at h
        · rename_i hk
          have := way_lt h
          simp [way, Tree.ht, e, hk]
          omega
        · rename_i hk
          have := way_lt h
          simp [way, Tree.ht, e, hk]
          omega
/-- t is a tree of at most six keys, in their order -/
structure Good (t : Tree) (ks : List Int) : Prop where
  keys : t.keys = ks
  srt : Srt ks
  few : ks.length ≤ 6
theorem Good.size {t : Tree} {ks : List Int} (g : Good t ks) : t.size ≤ 6 := by rw [← keys_len, g.keys]; exact g.few
theorem Good.ht {t : Tree} {ks : List Int} (g : Good t ks) : t.ht ≤ 6 := Nat.le_trans (ht_le t) g.size
theorem Good.srtT {t : Tree} {ks : List Int} (g : Good t ks) : Srt t.keys := by rw [g.keys]; exact g.srt
theorem Good.fnd {t : Tree} {ks : List Int} (g : Good t ks) {k : Int} (h : k ∈ ks) : L3.fnd t k := fnd_of g.srtT (by rw [g.keys]; exact h)
theorem Good.turn {t : Tree} {ks : List Int} (g : Good t ks) {k : Int} (h : below t k) : Good (L3.turn t k) ks := ⟨by rw [keys_turn h, g.keys], g.srt, g.few⟩
theorem idx_top {t : Tree} {k : Int} (h : L3.fnd t k) : ∃ x, dIdx (enc t) (.int 1) = some (.int x) ∧ (x = k ↔ isTop t k = true) ∧ (x = k → way t k = 0) ∧ (x ≠ k → below t k) := by
  cases t with
  | nil => exact h.elim
  | node l x r =>
    refine ⟨x, by simp, by simp [isTop], fun e => by simp [way, e], fun e => ?_⟩
    rcases fnd_cases h with ⟨a, b, e2⟩ | h
    · cases e2
      exact absurd rfl e
    · exact h
theorem F_once_up_ok {t : Tree} {ks : List Int} {k : Int} (g : Good t ks) (h : k ∈ ks) : ∃ t', F_once_up [enc t, .int k] = some (enc t') ∧ Good t' ks := by
  obtain ⟨x, e1, _, _, e2⟩ := idx_top (g.fnd h)
  by_cases e : x = k
  · exact ⟨t, by simp [F_once_up, B_once_up, e1, e], g⟩
  · have hb := e2 e
    have := g.ht
    exact ⟨turn t k, by simp [F_once_up, B_once_up, e1, e, F_turned_eq 8 t k (by omega) hb], g.turn hb⟩
@[simp] theorem m_while {c : FE} {f : FS} {n : Nat} {ρ : PEnv} : whileF c f (n + 1) ρ = sifK (c ρ) (sSeq f (whileF c f n)) sNext ρ := by
  show (c ρ).bind _ = (c ρ).bind _
  congr
theorem F_to_top_ok {t : Tree} {ks : List Int} {k : Int} (g : Good t ks) (h : k ∈ ks) : ∃ t', F_to_top [enc t, .int k] = some (enc t') ∧ Good t' ks := by
  have key : ∀ (n : Nat) (t : Tree), Good t ks → way t k < n → ∃ t', whileF (o2 dNe (o2 dIdx (fVar 0) (fC (.int 1))) (fVar 1)) (sSet 0 (oA (F_turned 8) (ac (fVar 0) (ac (fVar 1) a0)))) n [some (.val (enc t)), some (.val (.int k))] = some (.nx [some (.val (enc t')), some (.val (.int k))]) ∧ Good t' ks := by
    intro n
    induction n with
    | zero => intro t _ h; omega
    | succ n ih =>
      intro t g hn
      obtain ⟨x, e1, _, _, e2⟩ := idx_top (g.fnd h)
      by_cases e : x = k
      · exact ⟨t, by simp [e1, e], g⟩
      · have hb := e2 e
        have hw := way_turn hb
        have := g.ht
        obtain ⟨t', h1, h2⟩ := ih (turn t k) (g.turn hb) (by omega)
        exact ⟨t', by simp [e1, e, F_turned_eq 8 t k (by omega) hb, h1], h2⟩
  have hw := way_lt (g.fnd h)
  have := g.ht
  obtain ⟨t', h1, h2⟩ := key 8 t g (by omega)
  refine ⟨t', ?_, h2⟩
  simp [F_to_top, B_to_top, h1, -m_while]
/-! ### splaying -/
def path : Tree → Int → List Int
  | .nil, _ => []
  | .node l x r, k => if x = k then [k] else x :: (if k < x then path l k else path r k)
theorem path_len : ∀ {t : Tree} {k : Int}, fnd t k → (path t k).length = way t k + 1
  | .nil, _, h => h.elim
  | .node l x r, k, h => by
    unfold path way
    by_cases e : x = k
    · simp [e]
    · rcases h with h | h
      · exact absurd h e
      · split at h <;> rename_i hk <;> simp [e, hk, path_len h]
theorem F_way_down_eq : ∀ (n : Nat) (t : Tree) (k : Int), t.ht < n → n ≤ 100 → fnd t k → F_way_down n [enc t, .int k] = some (iL0 (path t k))
  | 0, _, _, h, _, _ => by omega
  | n + 1, .nil, _, _, _, h => h.elim
  | n + 1, .node l x r, k, h, h100, hf => by
    simp only [Tree.ht] at h
    by_cases e : x = k
    · simp [F_way_down, B_way_down, e, path]
    · rcases hf with hf | hf
      · exact absurd hf e
      · split at hf
        · rename_i hk
          have hl := path_len hf
          have hw := way_lt hf
          have ha : dAdd (iL0 [x]) (iL0 (path l k)) = some (iL0 ([x] ++ path l k)) := add_ints (by simp; omega)
          simp [F_way_down, B_way_down, e, hk, path, F_way_down_eq n l k (by omega) (by omega) hf, ha]
        · rename_i hk
          have hl := path_len hf
          have hw := way_lt hf
          have ha : dAdd (iL0 [x]) (iL0 (path r k)) = some (iL0 ([x] ++ path r k)) := add_ints (by simp; omega)
          simp [F_way_down, B_way_down, e, hk, path, F_way_down_eq n r k (by omega) (by omega) hf, ha]
theorem way_one {t : Tree} {k : Int} (h : fnd t k) (e : way t k = 0) : ∃ a b, t = .node a k b := by
  cases t with
  | nil => exact h.elim
  | node l x r =>
    by_cases e2 : x = k
    · exact ⟨l, r, by rw [e2]⟩
    · simp [way, e2] at e
      split at e <;> omega
theorem splay_step : ∀ {t : Tree} {k : Int}, fnd t k → Srt t.keys → 2 ≤ way t k → ∃ q g p, path t k = q ++ [g, p, k] ∧ p ∈ t.keys ∧
    ∃ first, first = (if decide (k < p) = decide (p < g) then p else k) ∧ below t first ∧ way (turn t first) k + 1 = way t k
  | .nil, _, h, _, _ => h.elim
  | .node l x r, k, h, hs, hw => by
    obtain ⟨s1, s2, s3, s4⟩ := srt_node hs
    have e : x ≠ k := fun e => by simp [way, e] at hw
    rcases h with h | h
    · exact absurd h e
    · split at h
      · rename_i hk
        have hwl : way (.node l x r) k = way l k + 1 := by simp [way, e, hk]
        by_cases h2 : 2 ≤ way l k
        · obtain ⟨q, g, p, hp, hm, first, hf, hb, hwt⟩ := splay_step h s1 h2
          have hfm := mem_of_fnd (fnd_below hb)
          have hfx := s3 first hfm
          refine ⟨x :: q, g, p, by simp [path, e, hk, hp], mem_node.mpr (.inl hm), first, hf, ⟨by omega, by rw [if_pos hfx]; exact .inr hb⟩, ?_⟩
          rw [hwl]
          simp [turn, hfx, below_top hb, way, e, hk, hwt]
        · have h1 : way l k = 1 := by omega
          cases l with
          | nil => exact h.elim
          | node a y b =>
            have ey : y ≠ k := fun e => by simp [way, e] at h1
            have hyx := s3 y (mem_node.mpr (.inr (.inl rfl)))
            obtain ⟨t1, t2, t3, t4⟩ := srt_node s1
            rcases h with h | h
            · exact absurd h ey
            · split at h
              · rename_i hky
                have h0 : way a k = 0 := by simp [way, ey, hky] at h1; exact h1
                obtain ⟨a1, a2, rfl⟩ := way_one h h0
                refine ⟨[], x, y, by simp [path, e, hk, ey, hky], mem_node.mpr (.inl (mem_node.mpr (.inr (.inl rfl)))), y, by simp [hky, hyx], ⟨by omega, by rw [if_pos hyx]; exact .inl ⟨_, _, rfl⟩⟩, ?_⟩
                rw [hwl, h1]
                simp [turn, hyx, isTop, lup, way, ey, hky]
              · rename_i hky
                have h0 : way b k = 0 := by simp [way, ey, hky] at h1; exact h1
                obtain ⟨a1, a2, rfl⟩ := way_one h h0
                have hb : below (.node (.node a y (.node a1 k a2)) x r) k := ⟨e, by rw [if_pos hk]; exact .inr ⟨ey, by rw [if_neg hky]; exact .inl ⟨_, _, rfl⟩⟩⟩
                exact ⟨[], x, y, by simp [path, e, hk, ey, hky], mem_node.mpr (.inl (mem_node.mpr (.inr (.inl rfl)))), k, by simp [hky, hyx], hb, way_turn hb⟩
      · rename_i hk
        have hwl : way (.node l x r) k = way r k + 1 := by simp [way, e, hk]
        by_cases h2 : 2 ≤ way r k
        · obtain ⟨q, g, p, hp, hm, first, hf, hb, hwt⟩ := splay_step h s2 h2
          have hfm := mem_of_fnd (fnd_below hb)
          have hfx := s4 first hfm
          have hfx2 : ¬ first < x := by omega
          refine ⟨x :: q, g, p, by simp [path, e, hk, hp], mem_node.mpr (.inr (.inr hm)), first, hf, ⟨by omega, by rw [if_neg hfx2]; exact .inr hb⟩, ?_⟩
          rw [hwl]
          simp [turn, hfx2, below_top hb, way, e, hk, hwt]
        · have h1 : way r k = 1 := by omega
          cases r with
          | nil => exact h.elim
          | node a y b =>
            have ey : y ≠ k := fun e => by simp [way, e] at h1
            have hyx := s4 y (mem_node.mpr (.inr (.inl rfl)))
            have hyx2 : ¬ y < x := by omega
            obtain ⟨t1, t2, t3, t4⟩ := srt_node s2
            rcases h with h | h
            · exact absurd h ey
            · split at h
              · rename_i hky
                have h0 : way a k = 0 := by simp [way, ey, hky] at h1; exact h1
                obtain ⟨a1, a2, rfl⟩ := way_one h h0
                have hb : below (.node l x (.node (.node a1 k a2) y b)) k := ⟨e, by rw [if_neg hk]; exact .inr ⟨ey, by rw [if_pos hky]; exact .inl ⟨_, _, rfl⟩⟩⟩
                exact ⟨[], x, y, by simp [path, e, hk, ey, hky], mem_node.mpr (.inr (.inr (mem_node.mpr (.inr (.inl rfl))))), k, by simp [hky, hyx2], hb, way_turn hb⟩
              · rename_i hky
                have h0 : way b k = 0 := by simp [way, ey, hky] at h1; exact h1
                obtain ⟨a1, a2, rfl⟩ := way_one h h0
                refine ⟨[], x, y, by simp [path, e, hk, ey, hky], mem_node.mpr (.inr (.inr (mem_node.mpr (.inr (.inl rfl))))), y, by simp [hky, hyx2], ⟨by omega, by rw [if_neg hyx2]; exact .inl ⟨_, _, rfl⟩⟩, ?_⟩
                rw [hwl, h1]
                simp [turn, hyx2, isTop, rup, way, ey, hky]
theorem cut3 (q : List PyData) (a b c : PyData) : cutL (q ++ [a, b, c]) (some (-3)) (some (-1)) = [a, b] := by
  have h1 : HT.sIx (q ++ [a, b, c]).length 0 (some (-3)) = q.length := by
    unfold HT.sIx
    simp
    omega
  have h2 : HT.sIx (q ++ [a, b, c]).length (q ++ [a, b, c]).length (some (-1)) = q.length + 2 := by
    unfold HT.sIx
    simp
    omega
  unfold cutL
  rw [h1, h2, List.drop_left]
  simp
end L3

/-! M3: splayed; leaves put in, keys taken out. -/
namespace L3
open PySem PySem.Spec PyProof.Rows L2

theorem once_top {t : Tree} {ks : List Int} {k : Int} (g : Good t ks) (h : k ∈ ks) (hw : way t k ≤ 1) : ∃ t', F_once_up [enc t, .int k] = some (enc t') ∧ Good t' ks ∧ isTop t' k = true := by
  obtain ⟨x, e1, e0, _, e2⟩ := idx_top (g.fnd h)
  by_cases e : x = k
  · exact ⟨t, by simp [F_once_up, B_once_up, e1, e], g, e0.mp e⟩
  · have hb := e2 e
    have := g.ht
    have hwt := way_turn hb
    obtain ⟨a, b, et⟩ := way_one (fnd_of (t := turn t k) (by rw [keys_turn hb]; exact g.srtT) (by rw [keys_turn hb, g.keys]; exact h)) (by omega)
    exact ⟨turn t k, by simp [F_once_up, B_once_up, e1, e, F_turned_eq 8 t k (by omega) hb], g.turn hb, by rw [et]; simp [isTop]⟩
@[simp] theorem m_neg (i : Int) : dNeg (.int i) = some (.int (-i)) := rfl
@[simp] theorem m_cut {f : FE} {l h : FO} {ρ : PEnv} : fCut f l h ρ = (f ρ).bind fun x => (l ρ).bind fun lo => (h ρ).bind fun hi => dCut lo hi x := rfl
@[simp] theorem m_pS {f : FE} {ρ : PEnv} : pSome f ρ = (f ρ).bind toI := rfl
@[simp] theorem m_pN {ρ : PEnv} : pNone ρ = some none := rfl
@[simp] theorem m_toI (i : Int) : toI (.int i) = some (some i) := rfl
@[simp] theorem m_dCut (lo hi : Option Int) (xs : List PyData) : dCut lo hi (.list xs) = some (.list (cutL xs lo hi)) := rfl
theorem F_splayed_ok {t : Tree} {ks : List Int} {k : Int} (g : Good t ks) (h : k ∈ ks) : ∃ t', F_splayed [enc t, .int k] = some (enc t') ∧ Good t' ks ∧ isTop t' k = true := by
  have key : ∀ (n : Nat) (t : Tree) (e2 e3 e4 : Option EV), Good t ks → way t k ≤ n → ∃ t' e2' e3' e4', whileF (o2 dGt (oA (F_way_to 8) (ac (fVar 0) (ac (fVar 1) a0))) (fC (.int 1))) (sSeq (sAsg (gL (gsC (gN 2) (gsC (gN 3) gs0))) (fCut (oA (F_way_down 8) (ac (fVar 0) (ac (fVar 1) a0))) (pSome (o1 dNeg (fC (.int 3)))) (pSome (o1 dNeg (fC (.int 1))))))
    (sSeq (sSet 4 (fIf (o2 dEq (o2 dLt (fVar 1) (fVar 3)) (o2 dLt (fVar 3) (fVar 2))) (fVar 3) (fVar 1)))
    (sSet 0 (oA (F_turned 8) (ac (oA (F_turned 8) (ac (fVar 0) (ac (fVar 4) a0))) (ac (fVar 1) a0)))))) (n + 1) [some (.val (enc t)), some (.val (.int k)), e2, e3, e4] = some (.nx [some (.val (enc t')), some (.val (.int k)), e2', e3', e4']) ∧ Good t' ks ∧ way t' k ≤ 1 := by
    intro n
    induction n with
    | zero =>
      intro t e2 e3 e4 g hn
      have hh := g.ht
      have hw := F_way_to_eq 8 t k (by omega)
      have h0 : way t k = 0 := by omega
      rw [h0] at hw
      exact ⟨t, e2, e3, e4, by simp [hw], g, by omega⟩
    | succ n ih =>
      intro t e2 e3 e4 g hn
      have hh := g.ht
      have hw := F_way_to_eq 8 t k (by omega)
      by_cases h1 : way t k ≤ 1
      · have : ¬ (1 : Int) < (way t k : Int) := by omega
        exact ⟨t, e2, e3, e4, by simp [hw, this], g, h1⟩
      · have h1' : (1 : Int) < (way t k : Int) := by omega
        have hf := g.fnd h
        obtain ⟨q, gr, p, hp, hm, first, hfi, hb, hwt⟩ := splay_step hf g.srtT (by omega)
        have hd := F_way_down_eq 8 t k (by omega) (by omega) hf
        rw [hp] at hd
        have hd2 : F_way_down 8 [enc t, .int k] = some (.list (q.map .int ++ [.int gr, .int p, .int k])) := by
          rw [hd]
          simp [iL0]
        have g1 := g.turn hb
        have ht1 := F_turned_eq 8 t first (by omega) hb
        have hb2 : below (turn t first) k := by
          obtain ⟨x, _, _, e0, e2⟩ := idx_top (g1.fnd h)
          refine e2 fun e => ?_
          have := e0 e
          omega
        have hh1 := g1.ht
        have ht2 := F_turned_eq 8 (turn t first) k (by omega) hb2
        have hw2 := way_turn hb2
        obtain ⟨t', e2', e3', e4', i1, i2, i3⟩ := ih (turn (turn t first) k) (some (.val (.int gr))) (some (.val (.int p))) (some (.val (.int first))) (g1.turn hb2) (by omega)
        refine ⟨t', e2', e3', e4', ?_, i2, i3⟩
        rw [m_while]
        by_cases hc : decide (k < p) = decide (p < gr)
        · rw [if_pos hc] at hfi
          subst hfi
          simp [hw, h1', hd2, cut3, hc, ht1, ht2, i1, -m_while]
        · rw [if_neg hc] at hfi
          subst hfi
          simp [hw, h1', hd2, cut3, hc, ht1, ht2, i1, -m_while]
  have hw := way_lt (g.fnd h)
  have := g.ht
  obtain ⟨t', e2', e3', e4', h1, h2, h3⟩ := key 7 t none none none g (by omega)
  obtain ⟨t2, o1, o2, o3⟩ := once_top h2 h h3
  refine ⟨t2, ?_, o2, o3⟩
  simp [F_splayed, B_splayed, List.replicate, h1, o1, -m_while]
/-! ### keys put in, taken out -/
def insK (k : Int) (l : List Int) : List Int := l.filter (fun y => decide (y < k)) ++ k :: l.filter fun y => decide (k < y)
def delK (k : Int) (l : List Int) : List Int := l.filter fun y => decide (y ≠ k)
section
variable {L R : List Int} {x k : Int}
theorem insK_lt (hL : ∀ y ∈ L, y < x) (hR : ∀ y ∈ R, x < y) (h : k < x) : insK k (L ++ x :: R) = insK k L ++ x :: R := by
  have r1 : R.filter (fun y => decide (y < k)) = [] := List.filter_eq_nil_iff.mpr fun y hy => by
    have := hR y hy
    simp
    omega
  have r2 : R.filter (fun y => decide (k < y)) = R := List.filter_eq_self.mpr fun y hy => by
    have := hR y hy
    simp
    omega
  have n1 : ¬ x < k := by omega
  simp [insK, List.filter_append, List.filter_cons, r1, r2, n1, h]
theorem insK_gt (hL : ∀ y ∈ L, y < x) (hR : ∀ y ∈ R, x < y) (h : x < k) : insK k (L ++ x :: R) = L ++ x :: insK k R := by
  have r1 : L.filter (fun y => decide (y < k)) = L := List.filter_eq_self.mpr fun y hy => by
    have := hL y hy
    simp
    omega
  have r2 : L.filter (fun y => decide (k < y)) = [] := List.filter_eq_nil_iff.mpr fun y hy => by
    have := hL y hy
    simp
    omega
  have n1 : ¬ k < x := by omega
  simp [insK, List.filter_append, List.filter_cons, r1, r2, n1, h]
theorem delK_no {l : List Int} (h : k ∉ l) : delK k l = l := List.filter_eq_self.mpr fun y hy => by
  simp
  exact fun e => h (e ▸ hy)
theorem delK_lt (hL : ∀ y ∈ L, y < x) (hR : ∀ y ∈ R, x < y) (h : k < x) : delK k (L ++ x :: R) = delK k L ++ x :: R := by
  have e : delK k (x :: R) = x :: R := delK_no fun z => by
    rcases List.mem_cons.mp z with z | z
    · omega
    · have := hR k z
      omega
  unfold delK at e ⊢
  rw [List.filter_append, e]
theorem delK_gt (hL : ∀ y ∈ L, y < x) (hR : ∀ y ∈ R, x < y) (h : x < k) : delK k (L ++ x :: R) = L ++ x :: delK k R := by
  have e : delK k L = L := delK_no fun z => by
    have := hL k z
    omega
  have n : x ≠ k := by omega
  unfold delK at e ⊢
  rw [List.filter_append, e, List.filter_cons]
  simp [n]
theorem delK_eq (hL : ∀ y ∈ L, y < x) (hR : ∀ y ∈ R, x < y) : delK x (L ++ x :: R) = L ++ R := by
  have e : delK x L = L := delK_no fun z => by
    have := hL x z
    omega
  have e2 : delK x R = R := delK_no fun z => by
    have := hR x z
    omega
  unfold delK at e e2 ⊢
  rw [List.filter_append, e, List.filter_cons, e2]
  simp
theorem insK_nil : insK k [] = [k] := rfl
theorem mem_insK {l : List Int} {y : Int} (h : k ∉ l) : y ∈ insK k l ↔ y = k ∨ y ∈ l := by
  simp only [insK, List.mem_append, List.mem_filter, List.mem_cons, decide_eq_true_eq]
  constructor
  · rintro (⟨h1, _⟩ | h1 | ⟨h1, _⟩)
    · exact .inr h1
    · exact .inl h1
    · exact .inr h1
  · rintro (h1 | h1)
    · exact .inr (.inl h1)
    · have : y ≠ k := fun e => h (e ▸ h1)
      by_cases e : y < k
      · exact .inl ⟨h1, e⟩
      · exact .inr (.inr ⟨h1, by omega⟩)
theorem srt_insK {l : List Int} (h : Srt l) : Srt (insK k l) := by
  refine List.pairwise_append.mpr ⟨h.filter _, List.pairwise_cons.mpr ⟨fun y hy => ?_, h.filter _⟩, fun a ha b hb => ?_⟩
  · simpa using (List.mem_filter.mp hy).2
  · have h1 : a < k := by simpa using (List.mem_filter.mp ha).2
    rcases List.mem_cons.mp hb with e | hb
    · omega
    · have h2 : k < b := by simpa using (List.mem_filter.mp hb).2
      omega
theorem len_insK {l : List Int} (h : k ∉ l) : (insK k l).length = l.length + 1 := by
  induction l with
  | nil => rfl
  | cons y l ih =>
    have h1 : k ∉ l := fun z => h (List.mem_cons_of_mem _ z)
    have h2 : y ≠ k := fun z => h (z ▸ List.mem_cons_self)
    have e := ih h1
    simp only [insK, List.length_append, List.length_cons, List.filter_cons] at e ⊢
    by_cases c : y < k
    · have : ¬ k < y := by omega
      simp [c, this]
      omega
    · have : k < y := by omega
      simp [c, this]
      omega
theorem srt_delK {l : List Int} (h : Srt l) : Srt (delK k l) := h.filter _
theorem mem_delK {l : List Int} {y : Int} : y ∈ delK k l ↔ y ∈ l ∧ y ≠ k := by simp [delK]
theorem len_delK (l : List Int) : (delK k l).length ≤ l.length := List.length_filter_le _ _
end
theorem keys_node (l x r) : Tree.keys (.node l x r) = l.keys ++ x :: r.keys := by simp [Tree.keys]
theorem F_with_leaf_ok : ∀ (n : Nat) (t : Tree) (k : Int), t.ht < n → Srt t.keys → k ∉ t.keys → ∃ t', F_with_leaf n [enc t, .int k] = some (enc t') ∧ t'.keys = insK k t.keys
  | 0, _, _, h, _, _ => by omega
  | n + 1, .nil, k, _, _, _ => ⟨.node .nil k .nil, by simp [F_with_leaf, B_with_leaf]; simp [enc], rfl⟩
  | n + 1, .node l x r, k, h, hs, hk => by
    simp only [Tree.ht] at h
    obtain ⟨s1, s2, s3, s4⟩ := srt_node hs
    have hk1 : k ∉ l.keys := fun z => hk (mem_node.mpr (.inl z))
    have hk2 : k ≠ x := fun z => hk (mem_node.mpr (.inr (.inl z)))
    have hk3 : k ∉ r.keys := fun z => hk (mem_node.mpr (.inr (.inr z)))
    by_cases c : k < x
    · obtain ⟨t', e1, e2⟩ := F_with_leaf_ok n l k (by omega) s1 hk1
      refine ⟨.node t' x r, ?_, ?_⟩
      · simp [F_with_leaf, B_with_leaf, List.replicate, c, e1]
        simp [enc]
      · rw [keys_node, keys_node, e2, insK_lt s3 s4 c]
    · obtain ⟨t', e1, e2⟩ := F_with_leaf_ok n r k (by omega) s2 hk3
      refine ⟨.node l x t', ?_, ?_⟩
      · simp [F_with_leaf, B_with_leaf, List.replicate, c, e1]
        simp [enc]
      · rw [keys_node, keys_node, e2, insK_gt s3 s4 (by omega)]
theorem F_least_ok : ∀ (n : Nat) (t : Tree), t.ht ≤ n → t ≠ .nil → ∃ m rest, F_least n [enc t] = some (.int m) ∧ t.keys = m :: rest
  | _, .nil, _, h => absurd rfl h
  | 0, .node l x r, h, _ => by simp [Tree.ht] at h
  | n + 1, .node .nil x r, h, _ => ⟨x, r.keys, by simp [F_least, B_least], by simp [Tree.keys]⟩
  | n + 1, .node (.node a y b) x r, h, _ => by
    have h' : max (Tree.ht (.node a y b)) r.ht + 1 ≤ n + 1 := h
    obtain ⟨m, rest, e1, e2⟩ := F_least_ok n (.node a y b) (by omega) (fun z => by cases z)
    refine ⟨m, rest ++ x :: r.keys, ?_, ?_⟩
    · simp [F_least, B_least, e1]
    · rw [keys_node, e2]
      rfl
theorem F_greatest_ok : ∀ (n : Nat) (t : Tree), t.ht ≤ n → t ≠ .nil → ∃ m rest, F_greatest n [enc t] = some (.int m) ∧ t.keys = rest ++ [m]
  | _, .nil, _, h => absurd rfl h
  | 0, .node l x r, h, _ => by simp [Tree.ht] at h
  | n + 1, .node l x .nil, h, _ => ⟨x, l.keys, by simp [F_greatest, B_greatest], by simp [Tree.keys]⟩
  | n + 1, .node l x (.node a y b), h, _ => by
    have h' : max l.ht (Tree.ht (.node a y b)) + 1 ≤ n + 1 := h
    obtain ⟨m, rest, e1, e2⟩ := F_greatest_ok n (.node a y b) (by omega) (fun z => by cases z)
    refine ⟨m, l.keys ++ x :: rest, ?_, ?_⟩
    · simp [F_greatest, B_greatest, e1]
    · rw [keys_node, e2]
      simp
theorem F_without_ok : ∀ (n : Nat) (t : Tree) (k : Int), t.ht ≤ n → n ≤ 8 → Srt t.keys → k ∈ t.keys → ∃ t', F_without n [enc t, .int k] = some (enc t') ∧ t'.keys = delK k t.keys ∧ t'.ht ≤ t.ht
  | _, .nil, _, _, _, _, h => by simp [Tree.keys] at h
  | 0, .node l x r, _, h, _, _, _ => by simp [Tree.ht] at h
  | n + 1, .node l x r, k, h, hn, hs, hk => by
    simp only [Tree.ht] at h
    obtain ⟨s1, s2, s3, s4⟩ := srt_node hs
    by_cases c : k < x
    · have hk1 : k ∈ l.keys := by
        rcases mem_node.mp hk with z | z | z
        · exact z
        · omega
        · have := s4 k z
          omega
      obtain ⟨t', e1, e2, e3⟩ := F_without_ok n l k (by omega) (by omega) s1 hk1
      refine ⟨.node t' x r, ?_, ?_, ?_⟩
      · simp [F_without, B_without, List.replicate, c, e1]
        simp [enc]
      · rw [keys_node, keys_node, e2, delK_lt s3 s4 c]
      · simp only [Tree.ht]
        omega
    · by_cases c2 : x < k
      · have hk1 : k ∈ r.keys := by
          rcases mem_node.mp hk with z | z | z
          · have := s3 k z
            omega
          · omega
          · exact z
        obtain ⟨t', e1, e2, e3⟩ := F_without_ok n r k (by omega) (by omega) s2 hk1
        refine ⟨.node l x t', ?_, ?_, ?_⟩
        · simp [F_without, B_without, List.replicate, c, c2, e1]
          simp [enc]
        · rw [keys_node, keys_node, e2, delK_gt s3 s4 c2]
        · simp only [Tree.ht]
          omega
      · have e : x = k := by omega
        subst e
        rw [keys_node, delK_eq s3 s4]
        cases l with
        | nil =>
          refine ⟨r, ?_, by simp [Tree.keys], by simp only [Tree.ht]; omega⟩
          cases r with
          | nil => simp [F_without, B_without, List.replicate]
          | node a y b => simp [F_without, B_without, List.replicate]
        | node a y b =>
          cases r with
          | nil => exact ⟨.node a y b, by simp [F_without, B_without, List.replicate], by simp [Tree.keys], by simp only [Tree.ht]; omega⟩
          | node a' y' b' =>
            obtain ⟨m, rest, e1, e2⟩ := F_least_ok 8 (.node a' y' b') (by omega) (fun z => by cases z)
            have sm : Srt (m :: rest) := e2 ▸ s2
            obtain ⟨t', e3, e4, e5⟩ := F_without_ok n (.node a' y' b') m (by omega) (by omega) s2 (by rw [e2]; exact List.mem_cons_self)
            refine ⟨.node (.node a y b) m t', ?_, ?_, ?_⟩
            · simp [F_without, B_without, List.replicate, e1, e3]
              simp [enc]
            · rw [keys_node, e4, e2]
              have := delK_eq (L := []) (R := rest) (x := m) (fun y hy => by cases hy) (List.pairwise_cons.mp sm).1
              simp only [List.nil_append] at this
              rw [this]
            · simp only [Tree.ht] at e5 ⊢
              omega
theorem F_without_splayed_ok {t : Tree} {ks : List Int} {k : Int} (g : Good t ks) (h : k ∈ ks) : ∃ t', F_without_splayed [enc t, .int k] = some (enc t') ∧ t'.keys = delK k ks := by
  obtain ⟨t1, e1, g1, tp⟩ := F_splayed_ok g h
  cases t1 with
  | nil => cases tp
  | node l x r =>
    have ex : x = k := of_decide_eq_true tp
    subst ex
    obtain ⟨s1, s2, s3, s4⟩ := srt_node g1.srtT
    have hk := g1.keys
    rw [keys_node] at hk
    have few := g1.few
    rw [← hk, List.length_append, List.length_cons] at few
    rw [← hk, delK_eq s3 s4]
    cases l with
    | nil => exact ⟨r, by simp [F_without_splayed, B_without_splayed, List.replicate, e1], by simp [Tree.keys]⟩
    | node a y b =>
      have hsz := keys_len (.node a y b)
      have hht := ht_le (.node a y b)
      obtain ⟨m, rest, e2, e3⟩ := F_greatest_ok 8 (.node a y b) (by omega) (fun z => by cases z)
      obtain ⟨t2, e4, g2, tp2⟩ := F_splayed_ok (t := .node a y b) (ks := rest ++ [m]) (k := m) ⟨e3, e3 ▸ s1, by rw [← e3]; omega⟩ (by simp)
      cases t2 with
      | nil => cases tp2
      | node a2 y2 b2 =>
        have ey : y2 = m := of_decide_eq_true tp2
        subst ey
        have hb : b2.keys = [] := by
          have q := g2.keys
          obtain ⟨_, q2, _, q4⟩ := srt_node g2.srtT
          rw [keys_node] at q
          cases hb : b2.keys with
          | nil => rfl
          | cons z zs =>
            have l1 : (rest ++ [y2]).getLast? = some y2 := by simp
            rw [← q] at l1
            have l2 : (a2.keys ++ y2 :: b2.keys).getLast? = b2.keys.getLast? := by
              rw [hb]
              rw [List.getLast?_append, List.getLast?_cons_cons]
              cases hz : (z :: zs).getLast? with
              | none => simp at hz
              | some u => rfl
            rw [l2] at l1
            have := q4 y2 (List.mem_of_getLast? l1)
            omega
        refine ⟨.node a2 y2 r, ?_, ?_⟩
        · simp [F_without_splayed, B_without_splayed, List.replicate, e1, e2, e4]
          simp [enc]
        · have q := g2.keys
          rw [keys_node, hb] at q
          rw [keys_node, e3, ← q]
          simp
end L3

/-! M4: heights, weights, rebuilding. -/
namespace L3
open PySem PySem.Spec PyProof.Rows L2

@[simp] theorem tup_enc (l : Tree) (k : Int) (r : Tree) : PyData.tuple [enc l, .int k, enc r] = enc (.node l k r) := rfl
@[simp] theorem m_mul3 (j : Int) : dMul (.int 3) (.int j) = some (.int (3 * j)) := rfl
@[simp] theorem m_mul2 (j : Int) : dMul (.int 2) (.int j) = some (.int (2 * j)) := rfl
@[simp] theorem m_div2 (j : Int) : dDiv (.int j) (.int 2) = some (.int (j / 2)) := rfl
def grt (w : Str) (a b : Tree) : Bool := if w = "heights" then decide ((b.ht : Int) + 1 < a.ht) else decide (3 * ((b.size : Int) + 1) < a.size + 1)
def inr (w : Str) (a b : Tree) : Bool := if w = "heights" then decide ((b.ht : Int) < a.ht) else decide (2 * ((b.size : Int) + 1) ≤ a.size + 1)
theorem F_weight_of_eq {t : Tree} (h : t.ht < 8) : F_weight_of [enc t] = some (.int (t.size + 1)) := by
  simp [F_weight_of, B_weight_of, F_size_of_eq 8 t h]
theorem F_is_greater_eq (w : Str) {a b : Tree} (ha : a.ht < 8) (hb : b.ht < 8) : F_is_greater [.str w, enc a, enc b] = some (.bool (grt w a b)) := by
  by_cases c : w = "heights"
  · simp [F_is_greater, B_is_greater, F_height_of_eq 8 a ha, F_height_of_eq 8 b hb, c, grt]
  · simp [F_is_greater, B_is_greater, F_weight_of_eq ha, F_weight_of_eq hb, c, grt]
theorem F_is_inner_eq (w : Str) {a b : Tree} (ha : a.ht < 8) (hb : b.ht < 8) : F_is_inner [.str w, enc a, enc b] = some (.bool (inr w a b)) := by
  by_cases c : w = "heights"
  · simp [F_is_inner, B_is_inner, F_height_of_eq 8 a ha, F_height_of_eq 8 b hb, c, inr]
  · simp [F_is_inner, B_is_inner, F_weight_of_eq ha, F_weight_of_eq hb, c, inr]
theorem grt_ne {w : Str} {a b : Tree} (h : grt w a b = true) : a ≠ .nil := by
  rintro rfl
  unfold grt at h
  split at h <;> have h := of_decide_eq_true h <;> simp only [Tree.ht, Tree.size] at h <;> omega
theorem inr_ne {w : Str} {a b : Tree} (h : inr w a b = true) : a ≠ .nil := by
  rintro rfl
  unfold inr at h
  split at h <;> have h := of_decide_eq_true h <;> simp only [Tree.ht, Tree.size] at h <;> omega
theorem F_set_right_ok (w : Str) (l : Tree) (x : Int) (r : Tree) (h : Tree.ht (.node l x r) < 9) : ∃ t', F_set_right [.str w, enc (.node l x r)] = some (enc t') ∧ t'.keys = Tree.keys (.node l x r) := by
  simp only [Tree.ht] at h
  have hl : l.ht < 8 := by omega
  have hr : r.ht < 8 := by omega
  cases c1 : grt w l r with
  | true =>
    cases l with
    | nil => exact absurd rfl (grt_ne c1)
    | node a y b =>
      have hab : a.ht < 8 ∧ b.ht < 8 := by simp only [Tree.ht] at hl; omega
      cases c2 : inr w b a with
      | false =>
        refine ⟨.node a y (.node b x r), ?_, by simp [Tree.keys]⟩
        simp [F_set_right, B_set_right, List.replicate, F_is_greater_eq w hl hr, c1, F_is_inner_eq w hab.2 hab.1, c2, F_left_up_eq]
      | true =>
        cases b with
        | nil => exact absurd rfl (inr_ne c2)
        | node b1 z b2 =>
          refine ⟨.node (.node a y b1) z (.node b2 x r), ?_, by simp [Tree.keys]⟩
          simp [F_set_right, B_set_right, List.replicate, F_is_greater_eq w hl hr, c1, F_is_inner_eq w hab.2 hab.1, c2, F_left_up_eq, F_right_up_eq]
  | false =>
    cases c3 : grt w r l with
    | false => exact ⟨.node l x r, by simp [F_set_right, B_set_right, List.replicate, F_is_greater_eq w hl hr, c1, F_is_greater_eq w hr hl, c3], rfl⟩
    | true =>
      cases r with
      | nil => exact absurd rfl (grt_ne c3)
      | node a y b =>
        have hab : a.ht < 8 ∧ b.ht < 8 := by simp only [Tree.ht] at hr; omega
        cases c2 : inr w a b with
        | false =>
          refine ⟨.node (.node l x a) y b, ?_, by simp [Tree.keys]⟩
          simp [F_set_right, B_set_right, List.replicate, F_is_greater_eq w hl hr, c1, F_is_greater_eq w hr hl, c3, F_is_inner_eq w hab.1 hab.2, c2, F_right_up_eq]
        | true =>
          cases a with
          | nil => exact absurd rfl (inr_ne c2)
          | node b1 z b2 =>
            refine ⟨.node (.node l x b1) z (.node b2 y b), ?_, by simp [Tree.keys]⟩
            simp [F_set_right, B_set_right, List.replicate, F_is_greater_eq w hl hr, c1, F_is_greater_eq w hr hl, c3, F_is_inner_eq w hab.1 hab.2, c2, F_left_up_eq, F_right_up_eq]
theorem size_ins {t t' : Tree} {k : Int} (h : k ∉ t.keys) (e : t'.keys = insK k t.keys) : t'.size = t.size + 1 := by
  rw [← keys_len, ← keys_len, e, len_insK h]
theorem size_del {t t' : Tree} {k : Int} (e : t'.keys = delK k t.keys) : t'.size ≤ t.size := by
  rw [← keys_len, ← keys_len, e]
  exact len_delK _
theorem F_put_right_ok (w : Str) : ∀ (n : Nat) (t : Tree) (k : Int), t.ht < n → t.size ≤ 6 → Srt t.keys → k ∉ t.keys → ∃ t', F_put_right n [.str w, enc t, .int k] = some (enc t') ∧ t'.keys = insK k t.keys
  | 0, _, _, h, _, _, _ => by omega
  | n + 1, .nil, k, _, _, _, _ => ⟨.node .nil k .nil, by simp [F_put_right, B_put_right]; rfl, rfl⟩
  | n + 1, .node l x r, k, h, hz, hs, hk => by
    simp only [Tree.ht] at h
    simp only [Tree.size] at hz
    obtain ⟨s1, s2, s3, s4⟩ := srt_node hs
    have hk1 : k ∉ l.keys := fun z => hk (mem_node.mpr (.inl z))
    have hk2 : k ≠ x := fun z => hk (mem_node.mpr (.inr (.inl z)))
    have hk3 : k ∉ r.keys := fun z => hk (mem_node.mpr (.inr (.inr z)))
    have hl := ht_le l
    have hr := ht_le r
    by_cases c : k < x
    · obtain ⟨t', e1, e2⟩ := F_put_right_ok w n l k (by omega) (by omega) s1 hk1
      have e3 := size_ins hk1 e2
      have e4 := ht_le t'
      obtain ⟨t2, f1, f2⟩ := F_set_right_ok w t' x r (by simp only [Tree.ht]; omega)
      refine ⟨t2, ?_, ?_⟩
      · simp [F_put_right, B_put_right, List.replicate, c, e1, f1]
      · rw [f2, keys_node, keys_node, e2, insK_lt s3 s4 c]
    · obtain ⟨t', e1, e2⟩ := F_put_right_ok w n r k (by omega) (by omega) s2 hk3
      have e3 := size_ins hk3 e2
      have e4 := ht_le t'
      obtain ⟨t2, f1, f2⟩ := F_set_right_ok w l x t' (by simp only [Tree.ht]; omega)
      refine ⟨t2, ?_, ?_⟩
      · simp [F_put_right, B_put_right, List.replicate, c, e1, f1]
      · rw [f2, keys_node, keys_node, e2, insK_gt s3 s4 (by omega)]
theorem F_take_right_ok (w : Str) : ∀ (n : Nat) (t : Tree) (k : Int), t.ht ≤ n → t.size ≤ 6 → Srt t.keys → k ∈ t.keys → ∃ t', F_take_right n [.str w, enc t, .int k] = some (enc t') ∧ t'.keys = delK k t.keys
  | _, .nil, _, _, _, _, h => by simp [Tree.keys] at h
  | 0, .node l x r, _, h, _, _, _ => by simp [Tree.ht] at h
  | n + 1, .node l x r, k, h, hz, hs, hk => by
    simp only [Tree.ht] at h
    simp only [Tree.size] at hz
    obtain ⟨s1, s2, s3, s4⟩ := srt_node hs
    have hl := ht_le l
    have hr := ht_le r
    by_cases c : k < x
    · have hk1 : k ∈ l.keys := by
        rcases mem_node.mp hk with z | z | z
        · exact z
        · omega
        · have := s4 k z
          omega
      obtain ⟨t', e1, e2⟩ := F_take_right_ok w n l k (by omega) (by omega) s1 hk1
      have e3 := size_del e2
      have e4 := ht_le t'
      obtain ⟨t2, f1, f2⟩ := F_set_right_ok w t' x r (by simp only [Tree.ht]; omega)
      refine ⟨t2, ?_, ?_⟩
      · simp [F_take_right, B_take_right, List.replicate, c, e1, f1]
      · rw [f2, keys_node, keys_node, e2, delK_lt s3 s4 c]
    · by_cases c2 : x < k
      · have hk1 : k ∈ r.keys := by
          rcases mem_node.mp hk with z | z | z
          · have := s3 k z
            omega
          · omega
          · exact z
        obtain ⟨t', e1, e2⟩ := F_take_right_ok w n r k (by omega) (by omega) s2 hk1
        have e3 := size_del e2
        have e4 := ht_le t'
        obtain ⟨t2, f1, f2⟩ := F_set_right_ok w l x t' (by simp only [Tree.ht]; omega)
        refine ⟨t2, ?_, ?_⟩
        · simp [F_take_right, B_take_right, List.replicate, c, c2, e1, f1]
        · rw [f2, keys_node, keys_node, e2, delK_gt s3 s4 c2]
      · have e : x = k := by omega
        subst e
        rw [keys_node, delK_eq s3 s4]
        cases l with
        | nil =>
          refine ⟨r, ?_, by simp [Tree.keys]⟩
          cases r with
          | nil => simp [F_take_right, B_take_right, List.replicate]
          | node a y b => simp [F_take_right, B_take_right, List.replicate]
        | node a y b =>
          cases r with
          | nil => exact ⟨.node a y b, by simp [F_take_right, B_take_right, List.replicate], by simp [Tree.keys]⟩
          | node a' y' b' =>
            obtain ⟨m, rest, e1, e2⟩ := F_least_ok 8 (.node a' y' b') (by omega) (fun z => by cases z)
            have sm : Srt (m :: rest) := e2 ▸ s2
            obtain ⟨t', e3, e4⟩ := F_take_right_ok w n (.node a' y' b') m (by omega) (by omega) s2 (by rw [e2]; exact List.mem_cons_self)
            have e5 := size_del e4
            have e6 := ht_le t'
            obtain ⟨t2, f1, f2⟩ := F_set_right_ok w (.node a y b) m t' (by rw [Tree.ht]; omega)
            refine ⟨t2, ?_, ?_⟩
            · simp [F_take_right, B_take_right, List.replicate, e1, e3, f1]
            · rw [f2, keys_node, e4, e2]
              have := delK_eq (L := []) (R := rest) (x := m) (fun y hy => by cases hy) (List.pairwise_cons.mp sm).1
              simp only [List.nil_append] at this
              rw [this]
/-! ### building anew -/
theorem F_is_even_eq (l : Tree) (x : Int) (r : Tree) (h : Tree.ht (.node l x r) < 8) : ∃ b : Bool, F_is_even [enc (.node l x r)] = some (.bool b) := by
  have h0 := h
  simp only [Tree.ht] at h
  exact ⟨_, by simp [F_is_even, B_is_even, F_size_of_eq 8 l (by omega), F_size_of_eq 8 r (by omega), F_size_of_eq 8 _ h0]; rfl⟩
theorem cutTo (xs : List PyData) (k : Nat) (h : k ≤ xs.length) : cutL xs none (some (k : Int)) = xs.take k := by
  have h1 : HT.sIx xs.length 0 none = 0 := by unfold HT.sIx; simp
  have h2 : HT.sIx xs.length xs.length (some (k : Int)) = k := by
    have : ¬ ((k : Int) < 0) := by omega
    unfold HT.sIx
    simp [this]
    omega
  unfold cutL
  rw [h1, h2]
  simp
theorem cutFrom (xs : List PyData) (k : Nat) (h : k ≤ xs.length) : cutL xs (some (k : Int)) none = xs.drop k := by
  have h1 : HT.sIx xs.length xs.length none = xs.length := by unfold HT.sIx; simp
  have h2 : HT.sIx xs.length 0 (some (k : Int)) = k := by
    have : ¬ ((k : Int) < 0) := by omega
    unfold HT.sIx
    simp [this]
    omega
  unfold cutL
  rw [h1, h2]
  exact List.take_of_length_le (by simp)
theorem F_built_ok : ∀ (n : Nat) (l : List Int), l.length < n → ∃ t', F_built n [iL0 l] = some (enc t') ∧ t'.keys = l
  | 0, _, h => by omega
  | n + 1, [], _ => ⟨.nil, by simp [F_built, B_built, List.replicate]; rfl, rfl⟩
  | n + 1, a :: l, h => by
    have hl : (a :: l).length = l.length + 1 := rfl
    generalize e : a :: l = L at h hl ⊢
    have hm : L.length / 2 < L.length := by omega
    have hdv : ((L.length : Int) / 2) = ((L.length / 2 : Nat) : Int) := by omega
    generalize L.length / 2 = m at hm hdv
    obtain ⟨t1, e1, e2⟩ := F_built_ok n (L.take (m)) (by simp; omega)
    obtain ⟨t2, f1, f2⟩ := F_built_ok n (L.drop (m + 1)) (by simp; omega)
    refine ⟨.node t1 (L[m]'hm) t2, ?_, ?_⟩
    · have c1 : cutL (L.map PyData.int) none (some ((m : Nat) : Int)) = (L.take (m)).map .int := by
        rw [cutTo _ _ (by simp; omega), List.map_take]
      have c2 : cutL (L.map PyData.int) (some ((m + 1 : Nat) : Int)) none = (L.drop (m + 1)).map .int := by
        rw [cutFrom _ _ (by simp; omega), List.map_drop]
      have c3 : L2.atI (L.map PyData.int) ((m : Nat) : Int) = some (.int (L[m]'hm)) := by
        have p1 : (0 : Int) ≤ (m : Int) := by omega
        have p2 : (m : Int) < (L.length : Int) := by omega
        unfold L2.atI L2.ixN
        simp [p1, p2, hm]
      have c4 : L.isEmpty = false := by rw [← e]; rfl
      have c6 : ((m : Nat) : Int) + 1 = ((m + 1 : Nat) : Int) := by omega
      have g1 : gLen [iL0 L] = some (.int L.length) := by simp [iL0]
      have g2 : dDiv (.int (L.length : Int)) (.int 2) = some (.int ((m : Nat) : Int)) := by rw [m_div2, hdv]
      have g3 : dCut none (some ((m : Nat) : Int)) (iL0 L) = some (iL0 (L.take (m))) := by
        show some (PyData.list _) = _
        rw [c1]
        rfl
      have g4 : dCut (some ((m + 1 : Nat) : Int)) none (iL0 L) = some (iL0 (L.drop (m + 1))) := by
        show some (PyData.list _) = _
        rw [c2]
        rfl
      have g5 : dIdx (iL0 L) (.int ((m : Nat) : Int)) = some (.int (L[m]'hm)) := c3
      have g6 : dAdd (.int ((m : Nat) : Int)) (.int 1) = some (.int ((m + 1 : Nat) : Int)) := by rw [m_addI, c6]
      have g7 : dEqE (iL0 L) (iL0 []) = some (.bool false) := by
        rw [← lst_nil, eqE_ints, c4]
      simp [F_built, B_built, List.replicate, g7, g1, g2, g3, g4, g5, g6, e1, f1, -m_div2, -m_addI, -Int.natCast_add]
    · rw [keys_node, e2, f2, List.getElem_cons_drop, List.take_append_drop]
theorem F_rebuilt_ok : ∀ (n : Nat) (t : Tree), t.ht < n → n ≤ 8 → t.size ≤ 7 → ∃ t', F_rebuilt n [enc t] = some (enc t') ∧ t'.keys = t.keys
  | 0, _, h, _, _ => by omega
  | n + 1, .nil, _, _, _ => ⟨.nil, by simp [F_rebuilt, B_rebuilt]; rfl, rfl⟩
  | n + 1, .node l x r, h, h8, hz => by
    obtain ⟨b, hb⟩ := F_is_even_eq l x r (by omega)
    have hk := F_keys_of_eq 8 (.node l x r) (by omega) (by omega)
    have hn := keys_len (.node l x r)
    cases b with
    | false =>
      obtain ⟨t', e1, e2⟩ := F_built_ok 8 (Tree.keys (.node l x r)) (by omega)
      exact ⟨t', by simp [F_rebuilt, B_rebuilt, hb, hk, e1], e2⟩
    | true =>
      simp only [Tree.ht] at h
      simp only [Tree.size] at hz
      obtain ⟨t1, e1, e2⟩ := F_rebuilt_ok n l (by omega) (by omega) (by omega)
      obtain ⟨t2, f1, f2⟩ := F_rebuilt_ok n r (by omega) (by omega) (by omega)
      exact ⟨.node t1 x t2, by simp [F_rebuilt, B_rebuilt, hb, e1, f1], by rw [keys_node, keys_node, e2, f2]⟩
theorem F_put_rebuilt_ok {t : Tree} {k : Int} (h : t.size ≤ 6) (hs : Srt t.keys) (hk : k ∉ t.keys) : ∃ t', F_put_rebuilt [enc t, .int k] = some (enc t') ∧ t'.keys = insK k t.keys := by
  have h1 := ht_le t
  obtain ⟨t1, e1, e2⟩ := F_with_leaf_ok 8 t k (by omega) hs hk
  have h2 := size_ins hk e2
  have h3 := ht_le t1
  obtain ⟨t2, f1, f2⟩ := F_rebuilt_ok 8 t1 (by omega) (by omega) (by omega)
  exact ⟨t2, by simp [F_put_rebuilt, B_put_rebuilt, e1, f1], by rw [f2, e2]⟩
theorem F_take_rebuilt_ok {t : Tree} {k : Int} (h : t.size ≤ 6) (hs : Srt t.keys) (hk : k ∈ t.keys) : ∃ t', F_take_rebuilt [enc t, .int k] = some (enc t') ∧ t'.keys = delK k t.keys := by
  have h1 := ht_le t
  obtain ⟨t1, e1, e2, _⟩ := F_without_ok 8 t k (by omega) (by omega) hs hk
  have h2 := size_del e2
  have h3 := ht_le t1
  obtain ⟨t2, f1, f2⟩ := F_rebuilt_ok 8 t1 (by omega) (by omega) (by omega)
  exact ⟨t2, by simp [F_take_rebuilt, B_take_rebuilt, e1, f1], by rw [f2, e2]⟩
end L3

/-! M5: trees by levels. -/
namespace L3
open PySem PySem.Spec PyProof.Rows L2

inductive RT where
  | nil
  | node (l : RT) (k : Int) (r : RT) (q : Int)
namespace RT
def keys : RT → List Int
  | .nil => []
  | .node l k r _ => keys l ++ k :: keys r
def ht : RT → Nat
  | .nil => 0
  | .node l _ r _ => max (ht l) (ht r) + 1
def size : RT → Nat
  | .nil => 0
  | .node l _ r _ => size l + 1 + size r
def rk : RT → Int
  | .nil => 0
  | .node _ _ _ q => q
/-- no rank is below 0 -/
def Nn : RT → Prop
  | .nil => True
  | .node l _ r q => Nn l ∧ Nn r ∧ 0 ≤ q
end RT
def encR : RT → PyData
  | .nil => .tuple []
  | .node l k r q => .tuple [encR l, .int k, encR r, .int q]
theorem canLay_encR : ∀ t : RT, (encR t).canLay0 = true
  | .nil => by simp [encR, PyData.canLay0, PyData.canLayAll0]
  | .node l k r q => by simp [encR, PyData.canLay0, PyData.canLayAll0, canLay_encR l, canLay_encR r]
@[simp] theorem eqER_nil : dEqE (encR .nil) (.tuple []) = some (.bool true) := by simp [dEqE, isE, encR, PyData.canLayAll0]
@[simp] theorem eqER_node (l k r q) : dEqE (encR (.node l k r q)) (.tuple []) = some (.bool false) := by simp [dEqE, isE, encR, PyData.canLayAll0, PyData.canLay0, canLay_encR]
@[simp] theorem neER_nil : dNeE (encR .nil) (.tuple []) = some (.bool false) := by simp [dNeE, isE, encR, PyData.canLayAll0]
@[simp] theorem neER_node (l k r q) : dNeE (encR (.node l k r q)) (.tuple []) = some (.bool true) := by simp [dNeE, isE, encR, PyData.canLayAll0, PyData.canLay0, canLay_encR]
@[simp] theorem idxR0 (l k r q) : dIdx (encR (.node l k r q)) (.int 0) = some (encR l) := by simp [encR]
@[simp] theorem idxR1 (l k r q) : dIdx (encR (.node l k r q)) (.int 1) = some (.int k) := by simp [encR]
@[simp] theorem idxR2 (l k r q) : dIdx (encR (.node l k r q)) (.int 2) = some (encR r) := by simp [encR]
@[simp] theorem idxR3 (l k r q) : dIdx (encR (.node l k r q)) (.int 3) = some (.int q) := by simp [encR]
@[simp] theorem gTR_node {r' : FTs} {l k r q} {ρ : PEnv} : gT r' (encR (.node l k r q)) ρ = r' [encR l, .int k, encR r, .int q] ρ := rfl
@[simp] theorem tup_encR (l : RT) (k : Int) (r : RT) (q : Int) : PyData.tuple [encR l, .int k, encR r, .int q] = encR (.node l k r q) := rfl
@[simp] theorem F_rank_of_eq (t : RT) : F_rank_of [encR t] = some (.int t.rk) := by
  cases t <;> simp [F_rank_of, B_rank_of, RT.rk]
theorem keysR_len : ∀ t : RT, t.keys.length = t.size
  | .nil => rfl
  | .node l k r q => by simp [RT.keys, RT.size, keysR_len l, keysR_len r]; omega
theorem htR_le : ∀ t : RT, t.ht ≤ t.size
  | .nil => Nat.le_refl 0
  | .node l k r q => by
    have h1 := htR_le l
    have h2 := htR_le r
    simp only [RT.ht, RT.size]
    omega
theorem rk_nn : ∀ {t : RT}, t.Nn → 0 ≤ t.rk
  | .nil, _ => Int.le_refl 0
  | .node _ _ _ _, h => h.2.2
theorem F_ranked_ok : ∀ (n : Nat) (t : Tree), t.ht < n → ∃ q, F_ranked n [enc t] = some (encR q) ∧ q.keys = t.keys ∧ q.Nn
  | 0, _, h => by omega
  | n + 1, .nil, _ => ⟨.nil, by simp [F_ranked, B_ranked, List.replicate]; rfl, rfl, trivial⟩
  | n + 1, .node l x r, h => by
    simp only [Tree.ht] at h
    obtain ⟨q1, e1, e2, e3⟩ := F_ranked_ok n l (by omega)
    obtain ⟨q2, f1, f2, f3⟩ := F_ranked_ok n r (by omega)
    refine ⟨.node q1 x q2 (q1.rk + 1), by simp [F_ranked, B_ranked, List.replicate, e1, f1], by rw [keys_node, RT.keys, e2, f2], e3, f3, ?_⟩
    have := rk_nn e3
    omega
theorem F_bare_ok : ∀ (n : Nat) (q : RT), q.ht < n → ∃ t, F_bare n [encR q] = some (enc t) ∧ t.keys = q.keys
  | 0, _, h => by omega
  | n + 1, .nil, _ => ⟨.nil, by simp [F_bare, B_bare]; rfl, rfl⟩
  | n + 1, .node l x r k, h => by
    simp only [RT.ht] at h
    obtain ⟨q1, e1, e2⟩ := F_bare_ok n l (by omega)
    obtain ⟨q2, f1, f2⟩ := F_bare_ok n r (by omega)
    exact ⟨.node q1 x q2, by simp [F_bare, B_bare, e1, f1], by rw [keys_node, RT.keys, e2, f2]⟩
def skewT : RT → RT
  | .nil => .nil
  | .node .nil x r k => .node .nil x r k
  | .node (.node a y b s) x r k => if s = k then .node a y (.node b x r k) s else .node (.node a y b s) x r k
def splitT : RT → RT
  | .nil => .nil
  | .node l x .nil k => .node l x .nil k
  | .node l x (.node a y .nil s) k => .node l x (.node a y .nil s) k
  | .node l x (.node a y (.node b z c u) s) k => if u = k then .node (.node l x a k) y (.node b z c u) (s + 1) else .node l x (.node a y (.node b z c u) s) k
@[simp] theorem F_skew_eq (t : RT) : F_skew [encR t] = some (encR (skewT t)) := by
  cases t with
  | nil => simp [F_skew, B_skew, List.replicate, skewT]
  | node l x r k =>
    cases l with
    | nil => simp [F_skew, B_skew, List.replicate, skewT]
    | node a y b s =>
      by_cases c : s = k
      · simp [F_skew, B_skew, List.replicate, skewT, RT.rk, c]
      · simp [F_skew, B_skew, List.replicate, skewT, RT.rk, c]
@[simp] theorem F_split_eq (t : RT) : F_split [encR t] = some (encR (splitT t)) := by
  cases t with
  | nil => simp [F_split, B_split, List.replicate, splitT]
  | node l x r k =>
    cases r with
    | nil => simp [F_split, B_split, List.replicate, splitT]
    | node a y b s =>
      cases b with
      | nil => simp [F_split, B_split, List.replicate, splitT]
      | node b z c' u =>
        by_cases c : u = k
        · simp [F_split, B_split, List.replicate, splitT, RT.rk, c]
        · simp [F_split, B_split, List.replicate, splitT, RT.rk, c]
@[simp] theorem F_with_right_eq (l x r k) (q : RT) : F_with_right [encR (.node l x r k), encR q] = some (encR (.node l x q k)) := by
  simp [F_with_right, B_with_right]
theorem skew_node (l x r k) (h : RT.Nn (.node l x r k)) : ∃ l' x' r' k', skewT (.node l x r k) = .node l' x' r' k' ∧ RT.keys (.node l' x' r' k') = RT.keys (.node l x r k) ∧ RT.Nn (.node l' x' r' k') := by
  cases l with
  | nil => exact ⟨_, _, _, _, rfl, rfl, h⟩
  | node a y b s =>
    obtain ⟨⟨h1, h2, h3⟩, h4, h5⟩ := h
    by_cases c : s = k
    · exact ⟨a, y, .node b x r k, s, by simp only [skewT, if_pos c], by simp [RT.keys], h1, ⟨h2, h4, h5⟩, h3⟩
    · exact ⟨.node a y b s, x, r, k, by simp only [skewT, if_neg c], rfl, ⟨h1, h2, h3⟩, h4, h5⟩
theorem split_node (l x r k) (h : RT.Nn (.node l x r k)) : ∃ l' x' r' k', splitT (.node l x r k) = .node l' x' r' k' ∧ RT.keys (.node l' x' r' k') = RT.keys (.node l x r k) ∧ RT.Nn (.node l' x' r' k') := by
  cases r with
  | nil => exact ⟨_, _, _, _, rfl, rfl, h⟩
  | node a y b s =>
    cases b with
    | nil => exact ⟨_, _, _, _, rfl, rfl, h⟩
    | node b z c' u =>
      by_cases c : u = k
      · obtain ⟨h1, ⟨h2, h3, h4⟩, h5⟩ := h
        exact ⟨.node l x a k, y, .node b z c' u, s + 1, by simp only [splitT, if_pos c], by simp [RT.keys], ⟨h1, h2, h5⟩, h3, by omega⟩
      · exact ⟨l, x, .node a y (.node b z c' u) s, k, by simp only [splitT, if_neg c], rfl, h⟩
def Tsb : FS := (sSeq (sSet 0 (oA F_skew (ac (fTup (ac (fVar 1) (ac (fVar 2) (ac (fVar 3) (ac (fVar 4) a0))))) a0)))
  (sSeq (sIf (o2 dNeE (o2 dIdx (fVar 0) (fC (.int 2))) (fTup a0)) (sSet 0 (oA F_with_right (ac (fVar 0) (ac (oA F_skew (ac (o2 dIdx (fVar 0) (fC (.int 2))) a0)) a0)))) sNext)
  (sSeq (sIf (fAnd (o2 dNeE (o2 dIdx (fVar 0) (fC (.int 2))) (fTup a0)) (o2 dNeE (o2 dIdx (o2 dIdx (fVar 0) (fC (.int 2))) (fC (.int 2))) (fTup a0))) (sSet 0 (oA F_with_right (ac (fVar 0) (ac (oA F_with_right (ac (o2 dIdx (fVar 0) (fC (.int 2))) (ac (oA F_skew (ac (o2 dIdx (o2 dIdx (fVar 0) (fC (.int 2))) (fC (.int 2))) a0)) a0))) a0)))) sNext)
  (sSeq (sSet 0 (oA F_split (ac (fVar 0) a0)))
  (sRet (fIf (o2 dNeE (o2 dIdx (fVar 0) (fC (.int 2))) (fTup a0)) (oA F_with_right (ac (fVar 0) (ac (oA F_split (ac (o2 dIdx (fVar 0) (fC (.int 2))) a0)) a0))) (fVar 0)))))))
theorem sb_end {l x r k} (h : RT.Nn (.node l x r k)) : ∃ (l' : RT) (x' : Int) (r' : RT) (k' : Int) (q : RT), splitT (.node l x r k) = .node l' x' r' k' ∧ (r' = RT.nil ∧ q = RT.node l' x' r' k' ∨ (∃ a y b s, r' = RT.node a y b s) ∧ q = RT.node l' x' (splitT r') k') ∧ q.keys = RT.keys (.node l x r k) ∧ q.Nn := by
  obtain ⟨l', x', r', k', e1, e2, e3⟩ := split_node l x r k h
  cases r' with
  | nil => exact ⟨l', x', .nil, k', _, e1, .inl ⟨rfl, rfl⟩, e2, e3⟩
  | node a y b s =>
    obtain ⟨h1, h2, h3⟩ := e3
    obtain ⟨a', y', b', s', f1, f2, f3⟩ := split_node a y b s h2
    refine ⟨l', x', _, k', _, e1, .inr ⟨⟨_, _, _, _, rfl⟩, rfl⟩, ?_, ?_⟩
    · rw [f1, ← e2, RT.keys, f2]
      rfl
    · rw [f1]
      exact ⟨h1, f3, h3⟩
theorem sb_tail (l x r k) (h : RT.Nn (.node l x r k)) (v0 e5 : Option EV) : ∃ q, Tsb [v0, some (.val (encR l)), some (.val (.int x)), some (.val (encR r)), some (.val (.int k)), e5] = some (.rt (encR q)) ∧ q.keys = RT.keys (.node l x r k) ∧ q.Nn := by
  obtain ⟨l1, x1, r1, k1, e1, e2, e3⟩ := skew_node l x r k h
  cases r1 with
  | nil =>
    obtain ⟨l2, x2, r2, k2, q, f1, f2, f3, f4⟩ := sb_end e3
    refine ⟨q, ?_, by rw [f3, e2], f4⟩
    rcases f2 with ⟨rfl, rfl⟩ | ⟨⟨a, y, b, s, rfl⟩, rfl⟩
    · simp [Tsb, e1, f1]
    · simp [Tsb, e1, f1]
  | node a y b s =>
    obtain ⟨g1, g2, g3⟩ := e3
    obtain ⟨a2, y2, b2, s2, i1, i2, i3⟩ := skew_node a y b s g2
    cases b2 with
    | nil =>
      obtain ⟨l2, x2, r2, k2, q, f1, f2, f3, f4⟩ := sb_end (l := l1) (x := x1) (r := .node a2 y2 .nil s2) (k := k1) ⟨g1, i3, g3⟩
      refine ⟨q, ?_, by rw [f3, ← e2, RT.keys, i2]; rfl, f4⟩
      rcases f2 with ⟨rfl, rfl⟩ | ⟨⟨a', y', b', s', rfl⟩, rfl⟩
      · simp [Tsb, e1, f1, i1]
      · simp [Tsb, e1, f1, i1]
    | node b3 y3 b4 s3 =>
      obtain ⟨i4, i5, i6⟩ := i3
      obtain ⟨a5, y5, b5, s5, j1, j2, j3⟩ := skew_node b3 y3 b4 s3 i5
      obtain ⟨l2, x2, r2, k2, q, f1, f2, f3, f4⟩ := sb_end (l := l1) (x := x1) (r := .node a2 y2 (.node a5 y5 b5 s5) s2) (k := k1) ⟨g1, ⟨i4, j3, i6⟩, g3⟩
      refine ⟨q, ?_, ?_, f4⟩
      · rcases f2 with ⟨rfl, rfl⟩ | ⟨⟨a', y', b', s', rfl⟩, rfl⟩
        · simp [Tsb, e1, f1, i1, j1]
        · simp [Tsb, e1, f1, i1, j1]
      · rw [f3, ← e2]
        simp only [RT.keys] at i2 j2 ⊢
        rw [j2, i2]
theorem F_set_back_ok (l x r k) (h : RT.Nn (.node l x r k)) : ∃ q, F_set_back [encR (.node l x r k)] = some (encR q) ∧ q.keys = RT.keys (.node l x r k) ∧ q.Nn := by
  have hB : B_set_back = sSeq (sAsg (gT (gsC (gN 1) (gsC (gN 2) (gsC (gN 3) (gsC (gN 4) gs0))))) (fVar 0))
    (sSeq (sSet 5 (o2 dAdd (oA gMin (ac (oA F_rank_of (ac (fVar 1) a0)) (ac (oA F_rank_of (ac (fVar 3) a0)) a0))) (fC (.int 1))))
    (sSeq (sIf (o2 dLt (fVar 5) (fVar 4)) (sSeq (sSet 4 (fVar 5))
    (sIf (o2 dLt (fVar 5) (oA F_rank_of (ac (fVar 3) a0))) (sSet 3 (fTup (ac (o2 dIdx (fVar 3) (fC (.int 0))) (ac (o2 dIdx (fVar 3) (fC (.int 1))) (ac (o2 dIdx (fVar 3) (fC (.int 2))) (ac (fVar 5) a0)))))) sNext)) sNext) Tsb)) := rfl
  obtain ⟨h1, h2, h3⟩ := h
  have p1 := rk_nn h1
  have p2 := rk_nn h2
  obtain ⟨due, hd, hd1⟩ : ∃ due : Int, (if r.rk < l.rk then r.rk else l.rk) + 1 = due ∧ 1 ≤ due := ⟨_, rfl, by split <;> omega⟩
  by_cases c1 : due < k
  · by_cases c2 : due < r.rk
    · cases r with
      | nil =>
        simp [RT.rk] at c2
        omega
      | node a y b s =>
        obtain ⟨q, e1, e2, e3⟩ := sb_tail l x (.node a y b due) due ⟨h1, ⟨h2.1, h2.2.1, by omega⟩, by omega⟩ (some (.val (encR (.node l x (.node a y b s) k)))) (some (.val (.int due)))
        refine ⟨q, ?_, e2, e3⟩
        simp [F_set_back, hB, List.replicate, hd, c1, c2, e1]
    · obtain ⟨q, e1, e2, e3⟩ := sb_tail l x r due ⟨h1, h2, by omega⟩ (some (.val (encR (.node l x r k)))) (some (.val (.int due)))
      refine ⟨q, ?_, e2, e3⟩
      simp [F_set_back, hB, List.replicate, hd, c1, c2, e1]
  · obtain ⟨q, e1, e2, e3⟩ := sb_tail l x r k ⟨h1, h2, h3⟩ (some (.val (encR (.node l x r k)))) (some (.val (.int due)))
    refine ⟨q, ?_, e2, e3⟩
    simp [F_set_back, hB, List.replicate, hd, c1, e1]
theorem memR_node {l x r q} {k : Int} : k ∈ RT.keys (.node l x r q) ↔ k ∈ l.keys ∨ k = x ∨ k ∈ r.keys := by
  simp [RT.keys]
theorem srtR_node {l x r q} (h : Srt (RT.keys (.node l x r q))) : Srt l.keys ∧ Srt r.keys ∧ (∀ y ∈ l.keys, y < x) ∧ ∀ y ∈ r.keys, x < y := by
  obtain ⟨h1, h2, h3⟩ := List.pairwise_append.mp h
  obtain ⟨h4, h5⟩ := List.pairwise_cons.mp h2
  exact ⟨h1, h5, fun y hy => h3 y hy x List.mem_cons_self, h4⟩
theorem skew_ok {q : RT} (h : q.Nn) : (skewT q).keys = q.keys ∧ (skewT q).Nn := by
  cases q with
  | nil => exact ⟨rfl, h⟩
  | node l x r k =>
    obtain ⟨_, _, _, _, e1, e2, e3⟩ := skew_node l x r k h
    rw [e1]
    exact ⟨e2, e3⟩
theorem split_ok {q : RT} (h : q.Nn) : (splitT q).keys = q.keys ∧ (splitT q).Nn := by
  cases q with
  | nil => exact ⟨rfl, h⟩
  | node l x r k =>
    obtain ⟨_, _, _, _, e1, e2, e3⟩ := split_node l x r k h
    rw [e1]
    exact ⟨e2, e3⟩
theorem F_put_in_ok : ∀ (n : Nat) (t : RT) (k : Int), t.ht < n → Srt t.keys → t.Nn → k ∉ t.keys → ∃ t', F_put_in n [encR t, .int k] = some (encR t') ∧ t'.keys = insK k t.keys ∧ t'.Nn
  | 0, _, _, h, _, _, _ => by omega
  | n + 1, .nil, k, _, _, _, _ => ⟨.node .nil k .nil 1, by simp [F_put_in, B_put_in]; rfl, rfl, trivial, trivial, by decide⟩
  | n + 1, .node l x r q, k, h, hs, hn, hk => by
    simp only [RT.ht] at h
    obtain ⟨n1, n2, n3⟩ := hn
    obtain ⟨s1, s2, s3, s4⟩ := srtR_node hs
    have hk1 : k ∉ l.keys := fun z => hk (memR_node.mpr (.inl z))
    have hk2 : k ≠ x := fun z => hk (memR_node.mpr (.inr (.inl z)))
    have hk3 : k ∉ r.keys := fun z => hk (memR_node.mpr (.inr (.inr z)))
    by_cases c : k < x
    · obtain ⟨t', e1, e2, e3⟩ := F_put_in_ok n l k (by omega) s1 n1 hk1
      obtain ⟨f1, f2⟩ := skew_ok (q := .node t' x r q) ⟨e3, n2, n3⟩
      obtain ⟨f3, f4⟩ := split_ok f2
      refine ⟨_, ?_, ?_, f4⟩
      · simp [F_put_in, B_put_in, List.replicate, c, e1]
      · rw [f3, f1, RT.keys, RT.keys, e2, insK_lt s3 s4 c]
    · obtain ⟨t', e1, e2, e3⟩ := F_put_in_ok n r k (by omega) s2 n2 hk3
      obtain ⟨f1, f2⟩ := skew_ok (q := .node l x t' q) ⟨n1, e3, n3⟩
      obtain ⟨f3, f4⟩ := split_ok f2
      refine ⟨_, ?_, ?_, f4⟩
      · simp [F_put_in, B_put_in, List.replicate, c, e1]
      · rw [f3, f1, RT.keys, RT.keys, e2, insK_gt s3 s4 (by omega)]
theorem F_leastR_ok : ∀ (n : Nat) (t : RT), t.ht ≤ n → t ≠ .nil → ∃ m rest, F_least n [encR t] = some (.int m) ∧ t.keys = m :: rest
  | _, .nil, _, h => absurd rfl h
  | 0, .node l x r q, h, _ => by simp [RT.ht] at h
  | n + 1, .node .nil x r q, h, _ => ⟨x, r.keys, by simp [F_least, B_least], by simp [RT.keys]⟩
  | n + 1, .node (.node a y b s) x r q, h, _ => by
    have h' : max (RT.ht (.node a y b s)) r.ht + 1 ≤ n + 1 := h
    obtain ⟨m, rest, e1, e2⟩ := F_leastR_ok n (.node a y b s) (by omega) (fun z => by cases z)
    refine ⟨m, rest ++ x :: r.keys, ?_, ?_⟩
    · simp [F_least, B_least, e1]
    · rw [RT.keys, e2]
      rfl
theorem F_greatestR_ok : ∀ (n : Nat) (t : RT), t.ht ≤ n → t ≠ .nil → ∃ m rest, F_greatest n [encR t] = some (.int m) ∧ t.keys = rest ++ [m]
  | _, .nil, _, h => absurd rfl h
  | 0, .node l x r q, h, _ => by simp [RT.ht] at h
  | n + 1, .node l x .nil q, h, _ => ⟨x, l.keys, by simp [F_greatest, B_greatest], by simp [RT.keys]⟩
  | n + 1, .node l x (.node a y b s) q, h, _ => by
    have h' : max l.ht (RT.ht (.node a y b s)) + 1 ≤ n + 1 := h
    obtain ⟨m, rest, e1, e2⟩ := F_greatestR_ok n (.node a y b s) (by omega) (fun z => by cases z)
    refine ⟨m, l.keys ++ x :: rest, ?_, ?_⟩
    · simp [F_greatest, B_greatest, e1]
    · rw [RT.keys, e2]
      simp
theorem F_take_out_ok : ∀ (n : Nat) (t : RT) (k : Int), t.ht ≤ n → n ≤ 8 → Srt t.keys → t.Nn → k ∈ t.keys → ∃ t', F_take_out n [encR t, .int k] = some (encR t') ∧ t'.keys = delK k t.keys ∧ t'.Nn
  | _, .nil, _, _, _, _, _, h => by simp [RT.keys] at h
  | 0, .node l x r q, _, h, _, _, _, _ => by simp [RT.ht] at h
  | n + 1, .node l x r q, k, h, h8, hs, hn, hk => by
    simp only [RT.ht] at h
    obtain ⟨n1, n2, n3⟩ := hn
    obtain ⟨s1, s2, s3, s4⟩ := srtR_node hs
    by_cases c : k < x
    · have hk1 : k ∈ l.keys := by
        rcases memR_node.mp hk with z | z | z
        · exact z
        · omega
        · have := s4 k z
          omega
      obtain ⟨t', e1, e2, e3⟩ := F_take_out_ok n l k (by omega) (by omega) s1 n1 hk1
      obtain ⟨t2, f1, f2, f3⟩ := F_set_back_ok t' x r q ⟨e3, n2, n3⟩
      refine ⟨t2, ?_, ?_, f3⟩
      · simp [F_take_out, B_take_out, List.replicate, c, e1, f1]
      · rw [f2, RT.keys, RT.keys, e2, delK_lt s3 s4 c]
    · by_cases c2 : x < k
      · have hk1 : k ∈ r.keys := by
          rcases memR_node.mp hk with z | z | z
          · have := s3 k z
            omega
          · omega
          · exact z
        obtain ⟨t', e1, e2, e3⟩ := F_take_out_ok n r k (by omega) (by omega) s2 n2 hk1
        obtain ⟨t2, f1, f2, f3⟩ := F_set_back_ok l x t' q ⟨n1, e3, n3⟩
        refine ⟨t2, ?_, ?_, f3⟩
        · simp [F_take_out, B_take_out, List.replicate, c, c2, e1, f1]
        · rw [f2, RT.keys, RT.keys, e2, delK_gt s3 s4 c2]
      · have e : x = k := by omega
        subst e
        rw [RT.keys, delK_eq s3 s4]
        cases l with
        | nil =>
          cases r with
          | nil => exact ⟨.nil, by simp [F_take_out, B_take_out, List.replicate]; rfl, rfl, trivial⟩
          | node a y b s =>
            obtain ⟨m, rest, e1, e2⟩ := F_leastR_ok 8 (.node a y b s) (by omega) (fun z => by cases z)
            have sm : Srt (m :: rest) := e2 ▸ s2
            obtain ⟨t', e3, e4, e5⟩ := F_take_out_ok n (.node a y b s) m (by omega) (by omega) s2 n2 (by rw [e2]; exact List.mem_cons_self)
            obtain ⟨t2, f1, f2, f3⟩ := F_set_back_ok .nil m t' q ⟨n1, e5, n3⟩
            refine ⟨t2, ?_, ?_, f3⟩
            · simp [F_take_out, B_take_out, List.replicate, e1, e3, f1]
            · have := delK_eq (L := []) (R := rest) (x := m) (fun y hy => by cases hy) (List.pairwise_cons.mp sm).1
              simp only [List.nil_append] at this
              rw [f2, e2]
              show [] ++ m :: t'.keys = [] ++ (m :: rest)
              rw [e4, e2, this]
        | node a y b s =>
          obtain ⟨m, rest, e1, e2⟩ := F_greatestR_ok 8 (.node a y b s) (by omega) (fun z => by cases z)
          have sm : Srt (rest ++ [m]) := e2 ▸ s1
          obtain ⟨t', e3, e4, e5⟩ := F_take_out_ok n (.node a y b s) m (by omega) (by omega) s1 n1 (by rw [e2]; simp)
          obtain ⟨t2, f1, f2, f3⟩ := F_set_back_ok t' m r q ⟨e5, n2, n3⟩
          refine ⟨t2, ?_, ?_, f3⟩
          · simp [F_take_out, B_take_out, List.replicate, e1, e3, f1]
          · rw [f2, RT.keys, e4, e2]
            have := delK_eq (L := rest) (R := []) (x := m) (fun y hy => (List.pairwise_append.mp sm).2.2 y hy m (by simp)) (fun y hy => by cases hy)
            rw [this]
            simp
theorem levels_in {t : Tree} {k : Int} (h : t.size ≤ 6) (hs : Srt t.keys) (hk : k ∉ t.keys) : ∃ q q' t', F_ranked 8 [enc t] = some (encR q) ∧ F_put_in 8 [encR q, .int k] = some (encR q') ∧ F_bare 8 [encR q'] = some (enc t') ∧ t'.keys = insK k t.keys := by
  have h1 := ht_le t
  obtain ⟨q, a1, a2, a3⟩ := F_ranked_ok 8 t (by omega)
  have h2 := htR_le q
  have h3 := keysR_len q
  rw [a2, keys_len] at h3
  obtain ⟨q', b1, b2, b3⟩ := F_put_in_ok 8 q k (by omega) (a2 ▸ hs) a3 (a2 ▸ hk)
  have h4 := htR_le q'
  have h5 := keysR_len q'
  rw [b2, a2, len_insK hk, keys_len] at h5
  obtain ⟨t', c1, c2⟩ := F_bare_ok 8 q' (by omega)
  exact ⟨q, q', t', a1, b1, c1, by rw [c2, b2, a2]⟩
theorem levels_out {t : Tree} {k : Int} (h : t.size ≤ 6) (hs : Srt t.keys) (hk : k ∈ t.keys) : ∃ q q' t', F_ranked 8 [enc t] = some (encR q) ∧ F_take_out 8 [encR q, .int k] = some (encR q') ∧ F_bare 8 [encR q'] = some (enc t') ∧ t'.keys = delK k t.keys := by
  have h1 := ht_le t
  obtain ⟨q, a1, a2, a3⟩ := F_ranked_ok 8 t (by omega)
  have h2 := htR_le q
  have h3 := keysR_len q
  rw [a2, keys_len] at h3
  obtain ⟨q', b1, b2, b3⟩ := F_take_out_ok 8 q k (by omega) (by omega) (a2 ▸ hs) a3 (a2 ▸ hk)
  have h4 := htR_le q'
  have h5 := keysR_len q'
  have h6 := len_delK (k := k) t.keys
  rw [b2, a2] at h5
  rw [keys_len] at h6
  obtain ⟨t', c1, c2⟩ := F_bare_ok 8 q' (by omega)
  exact ⟨q, q', t', a1, b1, c1, by rw [c2, b2, a2]⟩
end L3

/-! M6: comprehensions; the shape by an order; what a deed does to the keys, for every rule. -/
namespace L3
open PySem PySem.Spec PyProof.Rows L2

@[simp] theorem str_eq {a b : String} : (Str.ofString a = Str.ofString b) ↔ a = b := by
  constructor
  · intro h
    rw [Str.ofString_eq_toList, Str.ofString_eq_toList] at h
    have h2 : a.toList.map Char.toNat = b.toList.map Char.toNat := by
      injection h with h
      exact Array.toList_inj.mpr h
    have inj : ∀ l l' : List Char, l.map Char.toNat = l'.map Char.toNat → l = l' := by
      intro l
      induction l with
      | nil => intro l' h; cases l' with
        | nil => rfl
        | cons => cases h
      | cons x l ih => intro l' h; cases l' with
        | nil => cases h
        | cons y l' =>
          injection h with h1 h2
          rw [ih l' h2, Char.ext (UInt32.toNat_inj.mp h1)]
    exact String.toList_inj.mp (inj _ _ h2)
  · exact fun h => h ▸ rfl
theorem m_comp {vs : List Nat} {it : FI} {g : FT} {ft fe : FE} {ρ : PEnv} : fComp vs it g ft fe ρ = (it ρ).bind fun ds => if ds.length ≤ 100000 then (compF g ft fe ds (wipeE ρ vs)).bind fun ys => some (.list ys) else none := rfl
@[simp] theorem m_wipe0 {ρ : PEnv} : wipeE ρ [] = ρ := rfl
@[simp] theorem m_wipeC {ρ : PEnv} {i : Nat} {is : List Nat} : wipeE ρ (i :: is) = (wipeE ρ is).set i none := rfl
@[simp] theorem m_iL {f : FE} {ρ : PEnv} {ds : List PyData} (h : f ρ = some (.list ds)) : iL f ρ = some ds := by unfold iL; rw [h]; rfl
@[simp] theorem m_iT {f : FE} {ρ : PEnv} {ds : List PyData} (h : f ρ = some (.tuple ds)) : iT f ρ = some ds := by unfold iT; rw [h]; rfl
theorem comp_ints {i : Nat} {ft fe : FE} {ρ : PEnv} (p : Int → Bool) (e : Int → PyData) : ∀ l : List Int, (∀ k ∈ l, ft (ρ.set i (some (.val (.int k)))) = some (.bool (p k)) ∧ fe (ρ.set i (some (.val (.int k)))) = some (e k)) → compF (gN i) ft fe (l.map .int) ρ = some ((l.filter p).map e)
  | [], _ => rfl
  | k :: l, h => by
    obtain ⟨h1, h2⟩ := h k List.mem_cons_self
    have ih := comp_ints p e l fun k hk => h k (List.mem_cons_of_mem _ hk)
    simp only [List.map_cons, compF, m_gN, Option.bind_some, h1, h2, List.filter_cons]
    cases p k with
    | true => simp [ih]
    | false => simp [ih]
theorem inL_ints (k : Int) (l : List Int) : inL (.int k) (l.map .int) = some (.bool (decide (k ∈ l))) := by
  have h1 : (l.map PyData.int).all flatD = true := by simp [flatD]
  unfold inL
  rw [h1]
  simp only [flatD, Bool.and_self, if_true, Option.some.injEq, PyData.bool.injEq]
  rw [Bool.eq_iff_iff, decide_eq_true_iff, List.any_map, List.any_eq_true]
  constructor
  · rintro ⟨x, hx, e⟩
    have e : x = k := by simpa [eqF] using e
    exact e ▸ hx
  · exact fun h => ⟨k, h, by simp [eqF]⟩
@[simp] theorem in_ints (k : Int) (l : List Int) : dIn (.int k) (iL0 l) = some (.bool (decide (k ∈ l))) := inL_ints k l
@[simp] theorem in_tint (k : Int) (l : List Int) : dIn (.int k) (.tuple (l.map .int)) = some (.bool (decide (k ∈ l))) := inL_ints k l
theorem in_strs (s : Str) (l : List Str) : inL (.str s) (l.map .str) = some (.bool (decide (s ∈ l))) := by
  have h1 : (l.map PyData.str).all flatD = true := by simp [flatD]
  unfold inL
  rw [h1]
  simp only [flatD, Bool.and_self, if_true, Option.some.injEq, PyData.bool.injEq]
  rw [Bool.eq_iff_iff, decide_eq_true_iff, List.any_map, List.any_eq_true]
  constructor
  · rintro ⟨x, hx, e⟩
    have e : x = s := by simpa [eqF] using e
    exact e ▸ hx
  · exact fun h => ⟨s, h, by simp [eqF]⟩
theorem in_tstr (s : Str) (l : List Str) : dIn (.str s) (.tuple (l.map .str)) = some (.bool (decide (s ∈ l))) := in_strs s l
@[simp] theorem in_two (s a b : Str) : dIn (.str s) (.tuple [.str a, .str b]) = some (.bool (decide (s ∈ [a, b]))) := in_strs s [a, b]
@[simp] theorem in_three (s a b c : Str) : dIn (.str s) (.tuple [.str a, .str b, .str c]) = some (.bool (decide (s ∈ [a, b, c]))) := in_strs s [a, b, c]
@[simp] theorem len_iL0 (l : List Int) : gLen [iL0 l] = some (.int l.length) := by simp [iL0]
theorem srt_ext {a b : List Int} (ha : Srt a) (hb : Srt b) (h : ∀ x, x ∈ a ↔ x ∈ b) : a = b := by
  induction a generalizing b with
  | nil =>
    cases b with
    | nil => rfl
    | cons y b => exact absurd ((h y).mpr List.mem_cons_self) (by simp)
  | cons x a ih =>
    cases b with
    | nil => exact absurd ((h x).mp List.mem_cons_self) (by simp)
    | cons y b =>
      obtain ⟨a1, a2⟩ := List.pairwise_cons.mp ha
      obtain ⟨b1, b2⟩ := List.pairwise_cons.mp hb
      have e : x = y := by
        rcases List.mem_cons.mp ((h x).mp List.mem_cons_self) with e | e
        · exact e
        · rcases List.mem_cons.mp ((h y).mpr List.mem_cons_self) with e2 | e2
          · exact e2.symm
          · have := b1 x e
            have := a1 y e2
            omega
      subst e
      refine congrArg _ (ih a2 b2 fun z => ?_)
      constructor
      · intro hz
        have := a1 z hz
        rcases List.mem_cons.mp ((h z).mp (List.mem_cons_of_mem _ hz)) with e | e
        · omega
        · exact e
      · intro hz
        have := b1 z hz
        rcases List.mem_cons.mp ((h z).mpr (List.mem_cons_of_mem _ hz)) with e | e
        · omega
        · exact e
theorem F_by_order_ok (ord : List Int) (ho : ord.length ≤ 100) : ∀ (n : Nat) (l : List Int), l.length < n → l.length ≤ 100 → l.Nodup → (∀ k ∈ l, k ∈ ord) → ∃ t', F_by_order n [iL0 l, .tuple (ord.map .int)] = some (enc t') ∧ Srt t'.keys ∧ ∀ x, x ∈ t'.keys ↔ x ∈ l
  | 0, _, h, _, _, _ => by omega
  | n + 1, [], _, _, _, _ => ⟨.nil, by simp [F_by_order, B_by_order, List.replicate]; rfl, .nil, fun x => by simp [Tree.keys]⟩
  | n + 1, a :: l, h, h100, hd, hm => by
    obtain ⟨top, rest, et⟩ : ∃ top rest, ord.filter (fun k => decide (k ∈ a :: l)) = top :: rest := by
      cases e : ord.filter (fun k => decide (k ∈ a :: l)) with
      | nil =>
        have := List.filter_eq_nil_iff.mp e a (hm a List.mem_cons_self)
        simp at this
      | cons x r => exact ⟨x, r, rfl⟩
    have htop : top ∈ a :: l := by
      have : top ∈ ord.filter (fun k => decide (k ∈ a :: l)) := by rw [et]; exact List.mem_cons_self
      simpa using (List.mem_filter.mp this).2
    generalize eL : a :: l = L at *
    have hL : dEqE (iL0 L) (iL0 []) = some (.bool false) := by
      rw [← lst_nil, eqE_ints, ← eL]
      rfl
    have c1 : (L.filter fun k => decide (k < top)).length < L.length := List.length_filter_lt_length_iff_exists.mpr ⟨top, htop, by simp⟩
    have c2 : (L.filter fun k => decide (top < k)).length < L.length := List.length_filter_lt_length_iff_exists.mpr ⟨top, htop, by simp⟩
    obtain ⟨t1, e1, e2, e3⟩ := F_by_order_ok ord ho n (L.filter fun k => decide (k < top)) (by omega) (by omega) (hd.filter _) fun k hk => hm k (List.mem_filter.mp hk).1
    obtain ⟨t2, f1, f2, f3⟩ := F_by_order_ok ord ho n (L.filter fun k => decide (top < k)) (by omega) (by omega) (hd.filter _) fun k hk => hm k (List.mem_filter.mp hk).1
    have w0 : ∀ u2 u3 : Option EV, fComp [3] (iT (fVar 1)) (gN 3) (o2 dIn (fVar 3) (fVar 0)) (fVar 3) [some (.val (iL0 L)), some (.val (.tuple (ord.map .int))), u2, u3] = some (iL0 (top :: rest)) := by
      intro u2 u3
      have := comp_ints (i := 3) (ft := o2 dIn (fVar 3) (fVar 0)) (fe := fVar 3) (ρ := [some (.val (iL0 L)), some (.val (.tuple (ord.map .int))), u2, none]) (fun k => decide (k ∈ L)) .int ord fun k hk => by simp
      rw [m_comp, m_iT (ds := ord.map .int) (by simp)]
      simp [this, et]
      refine ⟨by omega, rfl⟩
    have w1 : ∀ u3 : Option EV, fComp [3] (iL (fVar 0)) (gN 3) (o2 dLt (fVar 3) (fVar 2)) (fVar 3) [some (.val (iL0 L)), some (.val (.tuple (ord.map .int))), some (.val (.int top)), u3] = some (iL0 (L.filter fun k => decide (k < top))) := by
      intro u3
      have := comp_ints (i := 3) (ft := o2 dLt (fVar 3) (fVar 2)) (fe := fVar 3) (ρ := [some (.val (iL0 L)), some (.val (.tuple (ord.map .int))), some (.val (.int top)), none]) (fun k => decide (k < top)) .int L fun k hk => by simp
      rw [m_comp, m_iL (ds := L.map .int) (by simp [iL0])]
      simp [this]
      refine ⟨by omega, rfl⟩
    have w2 : ∀ u3 : Option EV, fComp [3] (iL (fVar 0)) (gN 3) (o2 dGt (fVar 3) (fVar 2)) (fVar 3) [some (.val (iL0 L)), some (.val (.tuple (ord.map .int))), some (.val (.int top)), u3] = some (iL0 (L.filter fun k => decide (top < k))) := by
      intro u3
      have := comp_ints (i := 3) (ft := o2 dGt (fVar 3) (fVar 2)) (fe := fVar 3) (ρ := [some (.val (iL0 L)), some (.val (.tuple (ord.map .int))), some (.val (.int top)), none]) (fun k => decide (top < k)) .int L fun k hk => by simp
      rw [m_comp, m_iL (ds := L.map .int) (by simp [iL0])]
      simp [this]
      refine ⟨by omega, rfl⟩
    have w3 : dIdx (iL0 (top :: rest)) (.int 0) = some (.int top) := by simp [iL0]
    refine ⟨.node t1 top t2, ?_, ?_, ?_⟩
    · simp [F_by_order, B_by_order, List.replicate, hL, w0, w1, w2, w3, e1, f1]
    · rw [keys_node]
      refine List.pairwise_append.mpr ⟨e2, List.pairwise_cons.mpr ⟨fun y hy => ?_, f2⟩, fun y hy z hz => ?_⟩
      · simpa using (List.mem_filter.mp ((f3 y).mp hy)).2
      · have h1 : y < top := by simpa using (List.mem_filter.mp ((e3 y).mp hy)).2
        rcases List.mem_cons.mp hz with e | hz
        · omega
        · have h2 : top < z := by simpa using (List.mem_filter.mp ((f3 z).mp hz)).2
          omega
    · intro x
      rw [mem_node, e3, f3, List.mem_filter, List.mem_filter]
      simp only [decide_eq_true_eq]
      constructor
      · rintro (⟨z, _⟩ | rfl | ⟨z, _⟩)
        · exact z
        · exact htop
        · exact z
      · intro z
        by_cases c1 : x < top
        · exact .inl ⟨z, c1⟩
        · by_cases c2 : top < x
          · exact .inr (.inr ⟨z, c2⟩)
          · exact .inr (.inl (by omega))
/-! ### rules -/
abbrev FAM : List Str := ["heights", "levels", "once", "plain", "rebuilt", "splayed", "top", "weights"]
/-- r is a rule -/
inductive RuleOk : PyData → Prop
  | one {x : Str} (h : x ∈ FAM) : RuleOk (.tuple [.str x])
  | ranks {ord : List Int} (h : ord.Perm [1, 2, 3, 4, 5, 6]) : RuleOk (.tuple [.str "ranks", .tuple (ord.map .int)])
abbrev Rg (ks : List Int) : Prop := ∀ k ∈ ks, 1 ≤ k ∧ k ≤ 6
theorem srt_len : ∀ {l : List Int} {a b : Int}, Srt l → (∀ k ∈ l, a ≤ k ∧ k ≤ b) → a ≤ b + 1 → (l.length : Int) ≤ b + 1 - a
  | [], a, b, _, _, h => by simp; omega
  | x :: l, a, b, hs, hr, h => by
    obtain ⟨s1, s2⟩ := List.pairwise_cons.mp hs
    obtain ⟨r1, r2⟩ := hr x List.mem_cons_self
    have := srt_len (a := x + 1) (b := b) s2 (fun k hk => ⟨s1 k hk, (hr k (List.mem_cons_of_mem _ hk)).2⟩) (by omega)
    simp only [List.length_cons]
    omega
theorem srt_few {l : List Int} (hs : Srt l) (hr : Rg l) : l.length ≤ 6 := by
  have := srt_len hs hr (by omega)
  omega
/-- the keys behind a deed -/
def nextK (ks : List Int) (w : Str) (k : Int) : List Int := if w = "in" then insK k ks else if w = "out" then delK k ks else ks
theorem rg_ins {ks : List Int} {k : Int} (h : Rg ks) (h1 : 1 ≤ k ∧ k ≤ 6) (hk : k ∉ ks) : Rg (insK k ks) := fun y hy => by
  rcases (mem_insK hk).mp hy with e | e
  · exact e ▸ h1
  · exact h y e
theorem F_moved_ok {r : PyData} (hr : RuleOk r) {t : Tree} {ks : List Int} {k : Int} (g : Good t ks) (h : k ∈ ks) : ∃ t', F_moved [r, enc t, .int k] = some (enc t') ∧ Good t' ks := by
  obtain ⟨a, a1, a2⟩ := F_once_up_ok g h
  obtain ⟨b, b1, b2⟩ := F_to_top_ok g h
  obtain ⟨c, c1, c2, _⟩ := F_splayed_ok g h
  cases hr with
  | one hx =>
    simp only [FAM, List.mem_cons, List.not_mem_nil, or_false] at hx
    rcases hx with rfl | rfl | rfl | rfl | rfl | rfl | rfl | rfl
    case inr.inr.inl => exact ⟨a, by simp [F_moved, B_moved, a1], a2⟩
    case inr.inr.inr.inr.inr.inl => exact ⟨c, by simp [F_moved, B_moved, c1], c2⟩
    case inr.inr.inr.inr.inr.inr.inl => exact ⟨b, by simp [F_moved, B_moved, b1], b2⟩
    all_goals exact ⟨t, by simp [F_moved, B_moved], g⟩
  | ranks => exact ⟨t, by simp [F_moved, B_moved], g⟩
theorem F_with_key_ok {r : PyData} (hr : RuleOk r) {t : Tree} {ks : List Int} {k : Int} (g : Good t ks) (hg : Rg ks) (h1 : 1 ≤ k ∧ k ≤ 6) (h : k ∉ ks) : ∃ t', F_with_key [r, enc t, .int k] = some (enc t') ∧ t'.keys = insK k ks := by
  have hz := g.size
  have hh := g.ht
  have hs := g.srtT
  have hk : k ∉ t.keys := by rw [g.keys]; exact h
  have s2 := srt_insK (k := k) g.srt
  have f2 := srt_few s2 (rg_ins hg h1 h)
  have hP : ∀ w : Str, ∃ t', F_put_right 8 [.str w, enc t, .int k] = some (enc t') ∧ t'.keys = insK k ks := fun w => by
    obtain ⟨t', e1, e2⟩ := F_put_right_ok w 8 t k (by omega) hz hs hk
    exact ⟨t', e1, by rw [e2, g.keys]⟩
  have hM : ∀ r, RuleOk r → ∃ t1 t', F_with_leaf 8 [enc t, .int k] = some (enc t1) ∧ F_moved [r, enc t1, .int k] = some (enc t') ∧ t'.keys = insK k ks := fun r hr => by
    obtain ⟨t1, e1, e2⟩ := F_with_leaf_ok 8 t k (by omega) hs hk
    rw [g.keys] at e2
    obtain ⟨t', e3, e4⟩ := F_moved_ok hr (t := t1) (ks := insK k ks) (k := k) ⟨e2, s2, f2⟩ ((mem_insK h).mpr (.inl rfl))
    exact ⟨t1, t', e1, e3, e4.keys⟩
  cases hr with
  | one hx =>
    obtain ⟨m1, m2, m3, m4, m5⟩ := hM _ (.one hx)
    simp only [FAM, List.mem_cons, List.not_mem_nil, or_false] at hx
    rcases hx with rfl | rfl | rfl | rfl | rfl | rfl | rfl | rfl
    · obtain ⟨t', e1, e2⟩ := hP "heights"
      exact ⟨t', by simp [F_with_key, B_with_key, e1], e2⟩
    · obtain ⟨q, q', t', e1, e2, e3, e4⟩ := levels_in hz hs hk
      exact ⟨t', by simp [F_with_key, B_with_key, e1, e2, e3], by rw [e4, g.keys]⟩
    · exact ⟨m2, by simp [F_with_key, B_with_key, m3, m4], m5⟩
    · exact ⟨m2, by simp [F_with_key, B_with_key, m3, m4], m5⟩
    · obtain ⟨t', e1, e2⟩ := F_put_rebuilt_ok hz hs hk
      exact ⟨t', by simp [F_with_key, B_with_key, e1], by rw [e2, g.keys]⟩
    · exact ⟨m2, by simp [F_with_key, B_with_key, m3, m4], m5⟩
    · exact ⟨m2, by simp [F_with_key, B_with_key, m3, m4], m5⟩
    · obtain ⟨t', e1, e2⟩ := hP "weights"
      exact ⟨t', by simp [F_with_key, B_with_key, e1], e2⟩
  | @ranks ord hp =>
    have hl : ord.length = 6 := hp.length_eq
    have hf := g.few
    have hnd : ks.Nodup := g.srt.imp fun h => by omega
    obtain ⟨t', e1, e2, e3⟩ := F_by_order_ok ord (by omega) 8 (ks ++ [k]) (by simp; omega) (by simp; omega) (List.nodup_append.mpr ⟨hnd, by simp, fun a ha b hb => by
      simp at hb
      rintro rfl
      exact h (hb ▸ ha)⟩) fun x hx => by
        have : 1 ≤ x ∧ x ≤ 6 := by
          rcases List.mem_append.mp hx with e | e
          · exact hg x e
          · simp at e
            exact e ▸ h1
        refine hp.mem_iff.mpr ?_
        have : x = 1 ∨ x = 2 ∨ x = 3 ∨ x = 4 ∨ x = 5 ∨ x = 6 := by omega
        simpa using this
    have hk8 := F_keys_of_eq 8 t (by omega) (by omega)
    rw [g.keys] at hk8
    have ha : dAdd (iL0 ks) (iL0 [k]) = some (iL0 (ks ++ [k])) := add_ints (by simp; omega)
    refine ⟨t', by simp [F_with_key, B_with_key, hk8, ha, e1], srt_ext e2 s2 fun x => ?_⟩
    rw [e3, mem_insK h]
    simp [or_comm]
theorem F_without_key_ok {r : PyData} (hr : RuleOk r) {t : Tree} {ks : List Int} {k : Int} (g : Good t ks) (hg : Rg ks) (h : k ∈ ks) : ∃ t', F_without_key [r, enc t, .int k] = some (enc t') ∧ t'.keys = delK k ks := by
  have hz := g.size
  have hh := g.ht
  have hs := g.srtT
  have hk : k ∈ t.keys := by rw [g.keys]; exact h
  have hP : ∀ w : Str, ∃ t', F_take_right 8 [.str w, enc t, .int k] = some (enc t') ∧ t'.keys = delK k ks := fun w => by
    obtain ⟨t', e1, e2⟩ := F_take_right_ok w 8 t k (by omega) hz hs hk
    exact ⟨t', e1, by rw [e2, g.keys]⟩
  obtain ⟨p, p1, p2, _⟩ := F_without_ok 8 t k (by omega) (by omega) hs hk
  rw [g.keys] at p2
  cases hr with
  | one hx =>
    simp only [FAM, List.mem_cons, List.not_mem_nil, or_false] at hx
    rcases hx with rfl | rfl | rfl | rfl | rfl | rfl | rfl | rfl
    · obtain ⟨t', e1, e2⟩ := hP "heights"
      exact ⟨t', by simp [F_without_key, B_without_key, List.replicate, e1], e2⟩
    · obtain ⟨q, q', t', e1, e2, e3, e4⟩ := levels_out hz hs hk
      exact ⟨t', by simp [F_without_key, B_without_key, List.replicate, e1, e2, e3], by rw [e4, g.keys]⟩
    · exact ⟨p, by simp [F_without_key, B_without_key, List.replicate, p1], p2⟩
    · exact ⟨p, by simp [F_without_key, B_without_key, List.replicate, p1], p2⟩
    · obtain ⟨t', e1, e2⟩ := F_take_rebuilt_ok hz hs hk
      exact ⟨t', by simp [F_without_key, B_without_key, List.replicate, e1], by rw [e2, g.keys]⟩
    · obtain ⟨t', e1, e2⟩ := F_without_splayed_ok g h
      exact ⟨t', by simp [F_without_key, B_without_key, List.replicate, e1], e2⟩
    · exact ⟨p, by simp [F_without_key, B_without_key, List.replicate, p1], p2⟩
    · obtain ⟨t', e1, e2⟩ := hP "weights"
      exact ⟨t', by simp [F_without_key, B_without_key, List.replicate, e1], e2⟩
  | @ranks ord hp =>
    have hl : ord.length = 6 := hp.length_eq
    have hf := g.few
    have hd := len_delK (k := k) ks
    have s2 := srt_delK (k := k) g.srt
    obtain ⟨t', e1, e2, e3⟩ := F_by_order_ok ord (by omega) 8 (delK k ks) (by omega) (by omega) (s2.imp fun h => by omega) fun x hx => by
        have := hg x (mem_delK.mp hx).1
        refine hp.mem_iff.mpr ?_
        have : x = 1 ∨ x = 2 ∨ x = 3 ∨ x = 4 ∨ x = 5 ∨ x = 6 := by omega
        simpa using this
    have hk8 := F_keys_of_eq 8 t (by omega) (by omega)
    rw [g.keys] at hk8
    have hc : fComp [3] (iL (oA (F_keys_of 8) (ac (fVar 1) a0))) (gN 3) (o2 dNe (fVar 3) (fVar 2)) (fVar 3) [some (.val (.tuple [.str "ranks", .tuple (ord.map .int)])), some (.val (enc t)), some (.val (.int k)), none] = some (iL0 (delK k ks)) := by
      have := comp_ints (i := 3) (ft := o2 dNe (fVar 3) (fVar 2)) (fe := fVar 3) (ρ := [some (.val (.tuple [.str "ranks", .tuple (ord.map .int)])), some (.val (enc t)), some (.val (.int k)), none]) (fun y => decide (y ≠ k)) .int ks fun y hy => by simp
      rw [m_comp, m_iL (ds := ks.map .int) (by simp [hk8]; rfl)]
      simp only [m_wipeC, m_wipe0, List.set_cons_succ, List.set_cons_zero, this, Option.bind_some]
      rw [if_pos (by simp; omega)]
      rfl
    exact ⟨t', by simp [F_without_key, B_without_key, List.replicate, hc, e1], srt_ext e2 s2 fun x => e3 x⟩
def ded (w : Str) (k : Int) : PyData := .tuple [.str w, .int k]
abbrev WDS : List Str := ["ask", "in", "out"]
/-- a deed that is possible where ks are there -/
structure DeedOk (ks : List Int) (w : Str) (k : Int) : Prop where
  word : w ∈ WDS
  key : 1 ≤ k ∧ k ≤ 6
  can : k ∈ ks ↔ w ≠ "in"
theorem F_behind_ok {r : PyData} (hr : RuleOk r) {t : Tree} {ks : List Int} {w : Str} {k : Int} (g : Good t ks) (hg : Rg ks) (d : DeedOk ks w k) : ∃ t', F_behind [r, enc t, ded w k] = some (enc t') ∧ Good t' (nextK ks w k) ∧ Rg (nextK ks w k) := by
  have hw := d.word
  simp only [WDS, List.mem_cons, List.not_mem_nil, or_false] at hw
  rcases hw with rfl | rfl | rfl
  · have hk : k ∈ ks := d.can.mpr (by decide)
    obtain ⟨t', e1, e2⟩ := F_moved_ok hr g hk
    exact ⟨t', by simp [F_behind, B_behind, ded, e1], e2, hg⟩
  · have hk : k ∉ ks := fun z => d.can.mp z rfl
    obtain ⟨t', e1, e2⟩ := F_with_key_ok hr g hg d.key hk
    have s2 := srt_insK (k := k) g.srt
    have r2 := rg_ins hg d.key hk
    exact ⟨t', by simp [F_behind, B_behind, ded, e1], ⟨e2, s2, srt_few s2 r2⟩, r2⟩
  · have hk : k ∈ ks := d.can.mpr (by decide)
    obtain ⟨t', e1, e2⟩ := F_without_key_ok hr g hg hk
    have s2 := srt_delK (k := k) g.srt
    exact ⟨t', by simp [F_behind, B_behind, ded, e1], ⟨e2, s2, Nat.le_trans (len_delK _) g.few⟩, fun y hy => hg y (mem_delK.mp hy).1⟩
theorem F_cost_of_eq {t : Tree} (h : t.ht < 8) (w : Str) (k : Int) : F_cost_of [enc t, ded w k] = some (.int (way t k + b2i (!decide (w = "in")))) := by
  simp [F_cost_of, B_cost_of, ded, F_way_to_eq 8 t k h]
end L3

/-! M7: equality of trees; rules, deeds and rows are what they should be; the runs. -/
namespace L3
open PySem PySem.Spec PyProof.Rows L2

theorem enc_inj : ∀ {a b : Tree}, enc a = enc b → a = b
  | .nil, .nil, _ => rfl
  | .nil, .node _ _ _, h => by simp [enc, -tup_enc] at h
  | .node _ _ _, .nil, h => by simp [enc, -tup_enc] at h
  | .node l k r, .node l' k' r', h => by
    simp only [enc, PyData.tuple.injEq, List.cons.injEq, PyData.int.injEq, and_true] at h
    obtain ⟨h1, h2, h3⟩ := h
    rw [enc_inj h1, h2, enc_inj h3]
theorem eqv_enc : ∀ a b : Tree, PyData.eqv (enc a) (enc b) = decide (a = b)
  | .nil, .nil => by simp [enc, PyData.eqv, PyData.eqvAll]
  | .nil, .node _ _ _ => by simp [enc, PyData.eqv, PyData.eqvAll, -tup_enc]
  | .node _ _ _, .nil => by simp [enc, PyData.eqv, PyData.eqvAll, -tup_enc]
  | .node l k r, .node l' k' r' => by
    simp only [enc, PyData.eqv, PyData.eqvAll, eqv_enc l l', eqv_enc r r', Tree.node.injEq]
    rw [Bool.eq_iff_iff]
    simp
theorem dep_enc : ∀ t : Tree, (enc t).depth ≤ t.ht + 1
  | .nil => by simp [enc, PyData.depth, PyData.depthAll]
  | .node l k r => by
    have h1 := dep_enc l
    have h2 := dep_enc r
    simp only [enc, PyData.depth, PyData.depthAll, Tree.ht]
    omega
theorem shaped_enc {t : Tree} (h : t.ht ≤ 20) : SeqAt.shaped (enc t) = true := by
  unfold SeqAt.shaped
  have := dep_enc t
  rw [canLay_enc, Bool.true_and, decide_eq_true_iff]
  omega
theorem dNeD_enc {a b : Tree} (h : a.ht ≤ 20) (h' : b.ht ≤ 20) : dNeD (enc a) (enc b) = some (.bool (!decide (a = b))) := by
  unfold dNeD
  rw [shaped_enc h, shaped_enc h', eqv_enc]
  rfl
@[simp] theorem isi_int (i : Int) : gIsi "int" (.int i) = some (.bool true) := rfl
@[simp] theorem isi_bool (i : Int) : gIsi "bool" (.int i) = some (.bool false) := rfl
@[simp] theorem isi_tup (xs : List PyData) : gIsi "tuple" (.tuple xs) = some (.bool true) := rfl
@[simp] theorem isi_lst (xs : List PyData) : gIsi "list" (.list xs) = some (.bool true) := rfl
@[simp] theorem isi_str (x : Str) : gIsi "str" (.str x) = some (.bool true) := rfl
theorem F_is_number_eq {i a b : Int} (h : a ≤ i) (h' : i ≤ b) : F_is_number [.int i, .int a, .int b] = some (.bool true) := by
  simp [F_is_number, B_is_number, fChain, h, h']
theorem all_true (n : Nat) : gAll [.list (List.replicate n (.bool true))] = some (.bool true) := by
  have h1 : (List.replicate n (PyData.bool true)).all isBl = true := List.all_eq_true.mpr fun x hx => by rw [List.eq_of_mem_replicate hx]; rfl
  have h2 : (List.replicate n (PyData.bool true)).all tru = true := List.all_eq_true.mpr fun x hx => by rw [List.eq_of_mem_replicate hx]; rfl
  simp only [gAll, h1, h2, if_true]
theorem toInts_map : ∀ l : List Int, toInts (l.map .int) = some l
  | [] => rfl
  | i :: l => by simp [toInts, toInts_map l]
theorem tup1_ne (x : PyData) (xs : List PyData) (h : PyData.canLayAll0 (x :: xs) = true) : dEqE (.tuple (x :: xs)) (.tuple []) = some (.bool false) := by
  simp [dEqE, isE, h]
@[simp] theorem one_eqI (a : Nat) (b : Int) : dEq (.int (a : Int)) (.int b) = some (.bool (decide ((a : Int) = b))) := rfl
theorem sort_perm {ord : List Int} (h : ord.Perm [1, 2, 3, 4, 5, 6]) : (ord.mergeSort fun a b => decide (a ≤ b)) = [1, 2, 3, 4, 5, 6] := (sort_one h.symm (by decide)).symm
theorem F_is_rule_ok {r : PyData} (h : RuleOk r) : F_is_rule [r] = some (.bool true) := by
  cases h with
  | @one x hx =>
    have hsx : PyData.strOk x = true := by
      simp only [FAM, List.mem_cons, List.not_mem_nil, or_false] at hx
      rcases hx with rfl | rfl | rfl | rfl | rfl | rfl | rfl | rfl <;> decide +kernel
    have hc : dEqE (.tuple [.str x]) (.tuple []) = some (.bool false) := tup1_ne _ _ (by simp [PyData.canLayAll0, PyData.canLay0, hsx])
    have hi : dIn (.str x) famD = some (.bool (decide (x ∈ FAM))) := in_strs x FAM
    simp [F_is_rule, B_is_rule, List.replicate, hc, hi, hx]
  | @ranks ord hp =>
    have hc : dEqE (.tuple [.str "ranks", .tuple (ord.map .int)]) (.tuple []) = some (.bool false) := tup1_ne _ _ (by simp [PyData.canLayAll0, PyData.canLay0, canLay_ints]; decide +kernel)
    have hi : dIn (.str "ranks") famD = some (.bool false) := by
      have : dIn (.str "ranks") famD = some (.bool (decide (("ranks" : Str) ∈ FAM))) := in_strs _ FAM
      rw [this]
      simp
    have hl : ord.length = 6 := hp.length_eq
    have hall : fComp [1] (iT (o2 dIdx (fVar 0) (fC (.int 1)))) (gN 1) (fC (.bool true)) (oA F_is_number (ac (fVar 1) (ac (fC (.int 1)) (ac (fC (.int 6)) a0)))) [some (.val (.tuple [.str "ranks", .tuple (ord.map .int)])), none] = some (.list [.bool true, .bool true, .bool true, .bool true, .bool true, .bool true]) := by
      have := comp_ints (i := 1) (ft := fC (.bool true)) (fe := oA F_is_number (ac (fVar 1) (ac (fC (.int 1)) (ac (fC (.int 6)) a0)))) (ρ := [some (.val (.tuple [.str "ranks", .tuple (ord.map .int)])), none]) (fun _ => true) (fun _ => .bool true) ord fun k hk => by
        have hk := hp.mem_iff.mp hk
        simp at hk
        exact ⟨rfl, by simp [F_is_number_eq (i := k) (a := 1) (b := 6) (by omega) (by omega)]⟩
      rw [m_comp, m_iT (ds := ord.map .int) (by simp)]
      simp only [m_wipeC, m_wipe0, List.set_cons_succ, List.set_cons_zero, this, Option.bind_some]
      rw [if_pos (by simp; omega)]
      have hf : (ord.filter fun _ => true) = ord := List.filter_eq_self.mpr fun _ _ => rfl
      simp only [hf, List.map_const', hl]
      rfl
    have hat : gAll [.list [.bool true, .bool true, .bool true, .bool true, .bool true, .bool true]] = some (.bool true) := rfl
    have hs : gSortT [.tuple (ord.map .int)] = some (iL0 [1, 2, 3, 4, 5, 6]) := by
      show (toInts (ord.map .int)).bind _ = _
      rw [toInts_map, Option.bind_some, if_pos (by omega), sort_perm hp]
      rfl
    have hr : dRange (.int 1) (.int 7) = some (iL0 [1, 2, 3, 4, 5, 6]) := rfl
    have he : dEqD (iL0 [1, 2, 3, 4, 5, 6]) (iL0 [1, 2, 3, 4, 5, 6]) = some (.bool true) := by
      unfold dEqD
      rw [if_pos (by decide +kernel)]
      exact congrArg (fun b => some (PyData.bool b)) (by decide +kernel)
    simp [F_is_rule, B_is_rule, List.replicate, hc, hi, hall, hat, hs, hr, he]
theorem F_need_rule_ok {r : PyData} (h : RuleOk r) : F_need_rule [r] = some .none := by
  simp [F_need_rule, B_need_rule, F_is_rule_ok h]
/-! ### rows -/
abbrev Row := List (Str × Int)
def dds (row : Row) : List PyData := row.map fun p => ded p.1 p.2
def rowE (row : Row) : PyData := .list (dds row)
def RowOk : List Int → Row → Prop
  | _, [] => True
  | ks, (w, k) :: r => DeedOk ks w k ∧ RowOk (nextK ks w k) r
def alongK : List Int → Row → List (List Int)
  | _, [] => []
  | ks, (w, k) :: r => nextK ks w k :: alongK (nextK ks w k) r
theorem F_is_deed_ok {ks : List Int} {w : Str} {k : Int} (h : DeedOk ks w k) : F_is_deed [ded w k] = some (.bool true) := by
  have hn := F_is_number_eq h.key.1 h.key.2
  have hw := h.word
  simp only [WDS, List.mem_cons, List.not_mem_nil, or_false] at hw
  rcases hw with rfl | rfl | rfl <;> simp [F_is_deed, B_is_deed, ded, hn]
theorem rowOk_deed : ∀ {row : Row} {ks : List Int}, RowOk ks row → ∀ p ∈ row, ∃ ks', DeedOk ks' p.1 p.2
  | [], _, _, _, h => by cases h
  | (w, k) :: r, ks, ⟨h1, h2⟩, p, hp => by
    rcases List.mem_cons.mp hp with rfl | hp
    · exact ⟨ks, h1⟩
    · exact rowOk_deed h2 p hp
@[simp] theorem for_nil {g : FT} {f : FS} {ρ : PEnv} : forF g f [] ρ = some (.nx ρ) := rfl
theorem for_cons {g : FT} {f : FS} {ρ : PEnv} {d : PyData} {ds : List PyData} : forF g f (d :: ds) ρ = (g d ρ).bind fun ρ' => seqK (f ρ') (forF g f ds) := by
  show (g d ρ).bind _ = _
  congr
  funext ρ'
  exact m_seq
@[simp] theorem m_for {it : FI} {g : FT} {f : FS} {ρ : PEnv} : sFor it g f ρ = (it ρ).bind fun ds => forF g f ds ρ := rfl
@[simp] theorem gT_ded {r' : FTs} {w : Str} {k : Int} {ρ : PEnv} : gT r' (ded w k) ρ = r' [.str w, .int k] ρ := rfl
@[simp] theorem idx_ded0 (w : Str) (k : Int) : dIdx (ded w k) (.int 0) = some (.str w) := by simp [ded]
@[simp] theorem idx_ded1 (w : Str) (k : Int) : dIdx (ded w k) (.int 1) = some (.int k) := by simp [ded]
abbrev EKA (row : Row) (hs : List (List Int)) (here : List Int) (u3 u4 u5 : Option EV) : PEnv := [some (.val (rowE row)), some (.val (iL0 here)), some (.lst (hs.map iL0)), u3, u4, u5]
theorem perm_next {here ks : List Int} {w : Str} {k : Int} (hp : here.Perm ks) (d : DeedOk ks w k) :
    (w = "in" → (here ++ [k]).Perm (nextK ks w k)) ∧ (w = "out" → (here.filter fun y => decide (y ≠ k)).Perm (nextK ks w k)) ∧ (w ≠ "in" → w ≠ "out" → here.Perm (nextK ks w k)) := by
  refine ⟨fun e => ?_, fun e => ?_, fun e e' => ?_⟩
  · subst e
    have hk : k ∉ ks := fun z => d.can.mp z rfl
    simp only [nextK, if_pos]
    refine (List.perm_append_comm.trans ?_)
    show (k :: here).Perm _
    refine ((List.Perm.cons k hp).trans ?_)
    unfold insK
    refine (List.Perm.trans ?_ List.perm_middle.symm)
    refine List.Perm.cons k ?_
    have e1 : (ks.filter fun y => decide (k < y)) = ks.filter fun y => !decide (y < k) := List.filter_congr fun y hy => by
      have : y ≠ k := fun e => hk (e ▸ hy)
      rw [Bool.eq_iff_iff]
      simp
      omega
    rw [e1]
    exact (List.filter_append_perm _ _).symm
  · subst e
    have : ("out" : Str) ≠ "in" := by simp
    simp only [nextK, if_neg this, if_pos]
    exact hp.filter _
  · simp only [nextK, if_neg e, if_neg e']
    exact hp
theorem F_keys_along_for (row : Row) : ∀ (rest : Row) (ks here : List Int) (hs : List (List Int)) (u3 u4 u5 : Option EV), RowOk ks rest → here.Perm ks → Srt ks → Rg ks → hs.length + rest.length ≤ 40 →
    ∃ hs' here' u3' u4' u5', forF (gT (gsC (gN 3) (gsC (gN 4) gs0))) (sSeq (sIf (o2 dNe (o2 dIn (fVar 4) (fVar 1)) (o2 dNe (fVar 3) (fC (.str "in")))) (sRet (fC .none)) sNext)
      (sSeq (sIf (o2 dEq (fVar 3) (fC (.str "in"))) (sSet 1 (o2 dAdd (fVar 1) (fLst (ac (fVar 4) a0)))) sNext)
      (sSeq (sIf (o2 dEq (fVar 3) (fC (.str "out"))) (sSet 1 (fComp [5] (iL (fVar 1)) (gN 5) (o2 dNe (fVar 5) (fVar 4)) (fVar 5))) sNext)
      (sApp 2 (fVar 1))))) (dds rest) (EKA row hs here u3 u4 u5) = some (.nx (EKA row (hs ++ hs') here' u3' u4' u5')) ∧ hs'.map List.length = (alongK ks rest).map List.length
  | [], ks, here, hs, u3, u4, u5, _, _, _, _, _ => ⟨[], here, u3, u4, u5, by simp [dds], rfl⟩
  | (w, k) :: rest, ks, here, hs, u3, u4, u5, ⟨d, ho⟩, hp, hs1, hr, hl => by
    simp only [List.length_cons] at hl
    obtain ⟨p1, p2, p3⟩ := perm_next hp d
    have hlen := hp.length_eq
    have hfew := srt_few hs1 hr
    have hw := d.word
    simp only [WDS, List.mem_cons, List.not_mem_nil, or_false] at hw
    have hin : decide (k ∈ here) = !decide (w = "in") := by
      rw [Bool.eq_iff_iff]
      simp only [decide_eq_true_iff, Bool.not_eq_true', decide_eq_false_iff_not]
      exact hp.mem_iff.trans d.can
    have hs2 : Srt (nextK ks w k) ∧ Rg (nextK ks w k) := by
      rcases hw with rfl | rfl | rfl
      · exact ⟨hs1, hr⟩
      · exact ⟨srt_insK hs1, rg_ins hr d.key fun z => d.can.mp z rfl⟩
      · exact ⟨srt_delK hs1, fun y hy => hr y (mem_delK.mp hy).1⟩
    obtain ⟨here2, e1, e2⟩ : ∃ here2 : List Int, here2.Perm (nextK ks w k) ∧ ∀ u5 : Option EV, (seqK (sifK (some (.bool (decide (w = "in")))) (sSet 1 (o2 dAdd (fVar 1) (fLst (ac (fVar 4) a0)))) sNext (EKA row hs here (some (.val (.str w))) (some (.val (.int k))) u5))
        (sIf (o2 dEq (fVar 3) (fC (.str "out"))) (sSet 1 (fComp [5] (iL (fVar 1)) (gN 5) (o2 dNe (fVar 5) (fVar 4)) (fVar 5))) sNext)) = some (.nx (EKA row hs here2 (some (.val (.str w))) (some (.val (.int k))) u5)) := by
      rcases hw with rfl | rfl | rfl
      · exact ⟨here, p3 (by simp) (by simp), fun u5 => by simp⟩
      · refine ⟨here ++ [k], p1 rfl, fun u5 => ?_⟩
        have ha : dAdd (iL0 here) (iL0 [k]) = some (iL0 (here ++ [k])) := add_ints (by simp; omega)
        simp [ha]
      · refine ⟨_, p2 rfl, fun u5 => ?_⟩
        have := comp_ints (i := 5) (ft := o2 dNe (fVar 5) (fVar 4)) (fe := fVar 5) (ρ := EKA row hs here (some (.val (.str "out"))) (some (.val (.int k))) none) (fun y => decide (y ≠ k)) .int here fun y hy => by simp
        have hc : fComp [5] (iL (fVar 1)) (gN 5) (o2 dNe (fVar 5) (fVar 4)) (fVar 5) (EKA row hs here (some (.val (.str "out"))) (some (.val (.int k))) u5) = some (iL0 (here.filter fun y => decide (y ≠ k))) := by
          rw [m_comp, m_iL (ds := here.map .int) (by simp; rfl)]
          simp only [EKA, m_wipeC, m_wipe0, List.set_cons_succ, List.set_cons_zero] at this ⊢
          rw [Option.bind_some, if_pos (by simp; omega), this]
          rfl
        simp only [EKA] at hc
        simp [hc]
    obtain ⟨hs', here', u3', u4', u5', f1, f2⟩ := F_keys_along_for row rest (nextK ks w k) here2 (hs ++ [here2]) (some (.val (.str w))) (some (.val (.int k))) u5 ho e1 hs2.1 hs2.2 (by simp; omega)
    refine ⟨here2 :: hs', here', u3', u4', u5', ?_, by simp [alongK, f2, e1.length_eq]⟩
    have hcut : ∀ (s1 s2 s3 : FS) (o : Option Out), seqK o (sSeq s1 (sSeq s2 s3)) = seqK (seqK o (s1)) (sSeq s2 s3) := by
      intro s1 s2 s3 o
      cases o with
      | none => rfl
      | some x => cases x <;> simp
    have e3 := e2 u5
    simp only [dds, List.map_cons, for_cons, gT_ded, m_gsC, m_gN, m_gs0, Option.bind_some, EKA, List.set_cons_succ, List.set_cons_zero]
    simp only [dds, EKA, List.append_assoc, List.cons_append, List.nil_append] at f1
    simp only [EKA] at e3
    have happ : sApp 2 (fVar 1) [some (.val (rowE row)), some (.val (iL0 here2)), some (.lst (hs.map iL0)), some (.val (.str w)), some (.val (.int k)), u5] = some (.nx [some (.val (rowE row)), some (.val (iL0 here2)), some (.lst ((hs ++ [here2]).map iL0)), some (.val (.str w)), some (.val (.int k)), u5]) := by
      have : (hs.map iL0).length < 100000 := by simp; omega
      simp [sApp]
      omega
    have hstep : ∀ o : Option Out, seqK (seqK o (sIf (o2 dEq (fVar 3) (fC (.str "out"))) (sSet 1 (fComp [5] (iL (fVar 1)) (gN 5) (o2 dNe (fVar 5) (fVar 4)) (fVar 5))) sNext)) (sApp 2 (fVar 1)) = seqK o (sSeq (sIf (o2 dEq (fVar 3) (fC (.str "out"))) (sSet 1 (fComp [5] (iL (fVar 1)) (gN 5) (o2 dNe (fVar 5) (fVar 4)) (fVar 5))) sNext) (sApp 2 (fVar 1))) := by
      intro o
      cases o with
      | none => rfl
      | some x => cases x <;> simp
    have hfirst : sIf (o2 dNe (o2 dIn (fVar 4) (fVar 1)) (o2 dNe (fVar 3) (fC (.str "in")))) (sRet (fC .none)) sNext [some (.val (rowE row)), some (.val (iL0 here)), some (.lst (hs.map iL0)), some (.val (.str w)), some (.val (.int k)), u5] = some (.nx [some (.val (rowE row)), some (.val (iL0 here)), some (.lst (hs.map iL0)), some (.val (.str w)), some (.val (.int k)), u5]) := by
      simp [hin]
    rw [m_seq, hfirst, m_seqN, m_seq]
    have hmid : sIf (o2 dEq (fVar 3) (fC (.str "in"))) (sSet 1 (o2 dAdd (fVar 1) (fLst (ac (fVar 4) a0)))) sNext [some (.val (rowE row)), some (.val (iL0 here)), some (.lst (hs.map iL0)), some (.val (.str w)), some (.val (.int k)), u5] = sifK (some (.bool (decide (w = "in")))) (sSet 1 (o2 dAdd (fVar 1) (fLst (ac (fVar 4) a0)))) sNext [some (.val (rowE row)), some (.val (iL0 here)), some (.lst (hs.map iL0)), some (.val (.str w)), some (.val (.int k)), u5] := by
      rw [m_sIf]
      simp only [m_o2, m_fVarS, m_fVar0, m_fC, Option.bind_some, m_eqS]
    rw [hmid, ← hstep, e3, m_seqN, happ, m_seqN, f1]
theorem F_keys_along_ok {row : Row} (h : RowOk [] row) (hl : row.length ≤ 40) : ∃ hs : List (List Int), F_keys_along [rowE row] = some (.list (hs.map iL0)) ∧ hs.map List.length = (alongK [] row).map List.length := by
  obtain ⟨hs', here', u3', u4', u5', f1, f2⟩ := F_keys_along_for row row [] [] [] none none none h (.refl _) .nil (fun k hk => by cases hk) (by simpa using hl)
  simp only [EKA, List.nil_append, List.map_nil] at f1
  refine ⟨hs', ?_, f2⟩
  have hi : ∀ ρ : PEnv, iL (fVar 0) (some (.val (rowE row)) :: ρ) = some (dds row) := fun ρ => m_iL (by simp; rfl)
  simp [F_keys_along, B_keys_along, List.replicate, sPar2, fsC, vF, lF, fs0, hi, f1, sFrz, frzE]
theorem F_is_row_ok {row : Row} (h : RowOk [] row) (hl : row.length ≤ 40) : F_is_row [rowE row] = some (.bool true) := by
  obtain ⟨hs, e1, _⟩ := F_keys_along_ok h hl
  have hc : ∀ (rs : Row) (ρ : PEnv), (∀ p ∈ rs, ∃ ks', DeedOk ks' p.1 p.2) → compF (gN 1) (fC (.bool true)) (oA F_is_deed (ac (fVar 1) a0)) (dds rs) [some (.val (rowE row)), none] = some (List.replicate rs.length (.bool true)) := by
    intro rs
    induction rs with
    | nil => intros; rfl
    | cons p rs ih =>
      intro ρ hh
      obtain ⟨ks', hd⟩ := hh p List.mem_cons_self
      have := ih ρ fun q hq => hh q (List.mem_cons_of_mem _ hq)
      simp only [dds] at this
      simp [dds, compF, F_is_deed_ok hd, this, List.replicate_succ]
  have hcomp : ∀ u, fComp [1] (iL (fVar 0)) (gN 1) (fC (.bool true)) (oA F_is_deed (ac (fVar 1) a0)) [some (.val (rowE row)), u] = some (.list (List.replicate row.length (.bool true))) := by
    intro u
    have hlen : (dds row).length ≤ 100000 := by simp [dds]; omega
    rw [m_comp, m_iL (ds := dds row) (by simp; rfl)]
    simp [hc row [] (rowOk_deed h), hlen]
  have hlen : gLen [rowE row] = some (.int row.length) := by simp [rowE, dds]
  have hgt : ¬ (40 : Int) < (row.length : Int) := by omega
  have hisi : gIsi "list" (rowE row) = some (.bool true) := rfl
  simp [F_is_row, B_is_row, List.replicate, hcomp, all_true, hlen, hgt, hisi, e1, dNotN]
theorem F_need_row_ok {row : Row} (h : RowOk [] row) (hl : row.length ≤ 40) : F_need_row [rowE row] = some .none := by
  simp [F_need_row, B_need_row, F_is_row_ok h hl]
theorem F_need_run_ok {r : PyData} (hr : RuleOk r) {row : Row} (h : RowOk [] row) (hl : row.length ≤ 40) : F_need_run [r, rowE row] = some .none := by
  simp [F_need_run, B_need_run, sDrop, F_need_row_ok h hl, F_need_rule_ok hr]
end L3

/-! M8: runs of rows; loads; deeds at a shape. -/
namespace L3
open PySem PySem.Spec PyProof.Rows L2

open Classical in
/-- the shape behind a deed -/
noncomputable def nxt (r : PyData) (t : Tree) (w : Str) (k : Int) : Tree := if h : ∃ t', F_behind [r, enc t, ded w k] = some (enc t') then Classical.choose h else .nil
theorem nxt_ok {r : PyData} (hr : RuleOk r) {t : Tree} {ks : List Int} {w : Str} {k : Int} (g : Good t ks) (hg : Rg ks) (d : DeedOk ks w k) : F_behind [r, enc t, ded w k] = some (enc (nxt r t w k)) ∧ Good (nxt r t w k) (nextK ks w k) ∧ Rg (nextK ks w k) := by
  obtain ⟨t', e1, e2, e3⟩ := F_behind_ok hr g hg d
  have h : ∃ t', F_behind [r, enc t, ded w k] = some (enc t') := ⟨t', e1⟩
  have hn : nxt r t w k = Classical.choose h := dif_pos h
  have hs := Classical.choose_spec h
  rw [← hn] at hs
  have : nxt r t w k = t' := enc_inj (Option.some.inj (hs.symm.trans e1))
  exact ⟨hs, this ▸ e2, e3⟩
def cst (t : Tree) (w : Str) (k : Int) : Int := way t k + b2i (!decide (w = "in"))
noncomputable def trees (r : PyData) : Tree → Row → List Tree
  | _, [] => []
  | t, (w, k) :: row => nxt r t w k :: trees r (nxt r t w k) row
noncomputable def costs (r : PyData) : Tree → Row → List Int
  | _, [] => []
  | t, (w, k) :: row => cst t w k :: costs r (nxt r t w k) row
theorem trees_keys {r : PyData} (hr : RuleOk r) : ∀ {row : Row} {t : Tree} {ks : List Int}, Good t ks → Rg ks → RowOk ks row → (trees r t row).map Tree.keys = alongK ks row ∧ ∀ x ∈ trees r t row, x.ht ≤ 6
  | [], _, _, _, _, _ => ⟨rfl, fun x hx => by cases hx⟩
  | (w, k) :: row, t, ks, g, hg, ⟨d, ho⟩ => by
    obtain ⟨_, g2, hg2⟩ := nxt_ok hr g hg d
    obtain ⟨i1, i2⟩ := trees_keys hr g2 hg2 ho
    refine ⟨?_, fun x hx => ?_⟩
    · simp only [trees, alongK, List.map_cons, i1, g2.keys]
    · rcases List.mem_cons.mp hx with rfl | hx
      · exact g2.ht
      · exact i2 x hx
theorem costs_len {r : PyData} : ∀ {row : Row} {t : Tree}, (costs r t row).length = row.length ∧ (trees r t row).length = row.length
  | [], _ => ⟨rfl, rfl⟩
  | (w, k) :: row, t => by
    obtain ⟨h1, h2⟩ := costs_len (r := r) (row := row) (t := nxt r t w k)
    simp [costs, trees, h1, h2]
theorem m_app {i : Nat} {f : FE} {ρ : PEnv} {ds : List PyData} (h : ρ[i]? = some (some (.lst ds))) (hl : ds.length < 100000) : sApp i f ρ = (f ρ).bind fun d => some (.nx (ρ.set i (some (.lst (ds ++ [d]))))) := by
  unfold sApp
  rw [h]
  simp only [if_pos hl]
theorem good_nil : Good .nil [] := ⟨rfl, .nil, by simp⟩
theorem F_run_for {r : PyData} (hr : RuleOk r) (row : Row) : ∀ (rest : Row) (t : Tree) (ks : List Int) (ss cs : List PyData) (u5 : Option EV), Good t ks → Rg ks → RowOk ks rest → ss.length + rest.length ≤ 1000 → cs.length + rest.length ≤ 1000 →
    ∃ t' u5', forF (gN 5) (sSeq (sApp 4 (oA F_cost_of (ac (fVar 2) (ac (fVar 5) a0)))) (sSeq (sSet 2 (oA F_behind (ac (fVar 0) (ac (fVar 2) (ac (fVar 5) a0))))) (sApp 3 (fVar 2)))) (dds rest)
      [some (.val r), some (.val (rowE row)), some (.val (enc t)), some (.lst ss), some (.lst cs), u5] = some (.nx [some (.val r), some (.val (rowE row)), some (.val t'), some (.lst (ss ++ (trees r t rest).map enc)), some (.lst (cs ++ (costs r t rest).map .int)), u5'])
  | [], t, ks, ss, cs, u5, _, _, _, _, _ => ⟨enc t, u5, by simp [dds, trees, costs]⟩
  | (w, k) :: rest, t, ks, ss, cs, u5, g, hg, ⟨d, ho⟩, l1, l2 => by
    simp only [List.length_cons] at l1 l2
    obtain ⟨e1, g2, hg2⟩ := nxt_ok hr g hg d
    have hh := g.ht
    have e2 := F_cost_of_eq (t := t) (by omega) w k
    obtain ⟨t', u5', f1⟩ := F_run_for hr row rest (nxt r t w k) (nextK ks w k) (ss ++ [enc (nxt r t w k)]) (cs ++ [.int (cst t w k)]) (some (.val (ded w k))) g2 hg2 ho (by simp; omega) (by simp; omega)
    refine ⟨t', u5', ?_⟩
    have a1 := m_app (i := 4) (f := oA F_cost_of (ac (fVar 2) (ac (fVar 5) a0))) (ρ := [some (.val r), some (.val (rowE row)), some (.val (enc t)), some (.lst ss), some (.lst cs), some (.val (ded w k))]) (ds := cs) (by simp) (by omega)
    have a2 := m_app (i := 3) (f := fVar 2) (ρ := [some (.val r), some (.val (rowE row)), some (.val (enc (nxt r t w k))), some (.lst ss), some (.lst (cs ++ [.int (cst t w k)])), some (.val (ded w k))]) (ds := ss) (by simp) (by omega)
    simp only [m_oA, m_ac, m_fVarS, m_fVar0, m_a0, Option.bind_some, e2, List.set_cons_succ, List.set_cons_zero] at a1 a2
    simp only [cst] at a2 f1
    simp only [dds, List.map_cons, for_cons, m_gN, Option.bind_some, List.set_cons_succ, List.set_cons_zero, m_seq, a1, m_seqN, m_sSet, m_oA, m_ac, m_fVarS, m_fVar0, m_a0, e1, a2]
    simp only [dds] at f1
    rw [f1]
    simp [trees, costs, cst]
theorem F_run_eq {r : PyData} (hr : RuleOk r) {row : Row} (h : RowOk [] row) (hl : row.length ≤ 40) : F_run [r, rowE row] = some (.tuple [.list ((trees r .nil row).map enc), iL0 (costs r .nil row)]) := by
  obtain ⟨t', u5', f1⟩ := F_run_for hr row row .nil [] [] [] none good_nil (fun k hk => by cases hk) h (by simp; omega) (by simp; omega)
  have hi : ∀ (v : Option EV) (ρ : PEnv), iL (fVar 1) (v :: some (.val (rowE row)) :: ρ) = some (dds row) := fun v ρ => m_iL (by simp; rfl)
  have he : PyData.tuple [] = enc .nil := rfl
  simp only [List.nil_append, ← he] at f1
  simp [F_run, B_run, List.replicate, sPar3, fsC, vF, lF, fs0, hi, f1, sFrz, frzE, iL0]
theorem F_shapes_along_eq {r : PyData} (hr : RuleOk r) {row : Row} (h : RowOk [] row) (hl : row.length ≤ 40) : F_shapes_along [r, rowE row] = some (.list ((trees r .nil row).map enc)) := by
  simp [F_shapes_along, B_shapes_along, sDrop, F_need_run_ok hr h hl, F_run_eq hr h hl]
theorem F_costs_along_eq {r : PyData} (hr : RuleOk r) {row : Row} (h : RowOk [] row) (hl : row.length ≤ 40) : F_costs_along [r, rowE row] = some (iL0 (costs r .nil row)) := by
  simp [F_costs_along, B_costs_along, sDrop, F_need_run_ok hr h hl, F_run_eq hr h hl]
/-! ### loads -/
def wsE (ws : List Str) : PyData := .tuple (ws.map .str)
def ldE (m most : Int) (ws : List Str) : PyData := .tuple [.int m, .int most, wsE ws]
inductive WsOk : List Str → Prop
  | all : WsOk ["ask", "in", "out"]
  | ask : WsOk ["ask", "in"]
  | out : WsOk ["in", "out"]
structure LoadOk (m most : Int) (ws : List Str) : Prop where
  one : 1 ≤ most
  le : most ≤ m
  three : m ≤ 3
  words : WsOk ws
theorem WsOk.sub {ws : List Str} (h : WsOk ws) : ∀ w ∈ ws, w ∈ WDS := by
  cases h <;> intro w hw <;> simp at hw ⊢
  · exact hw
  · rcases hw with h | h <;> simp [h]
  · rcases hw with h | h <;> simp [h]
theorem eqD_words : ∀ {ws : List Str}, WsOk ws → dEqD (wsE ws) (wsE ws) = some (.bool true) ∧ dEqD (wsE ws) (.tuple [.str "in"]) = some (.bool false)
  | _, .all => by
    unfold dEqD
    rw [if_pos (by decide +kernel), if_pos (by decide +kernel)]
    exact ⟨congrArg (fun b => some (PyData.bool b)) (by decide +kernel), congrArg (fun b => some (PyData.bool b)) (by decide +kernel)⟩
  | _, .ask => by
    unfold dEqD
    rw [if_pos (by decide +kernel), if_pos (by decide +kernel)]
    exact ⟨congrArg (fun b => some (PyData.bool b)) (by decide +kernel), congrArg (fun b => some (PyData.bool b)) (by decide +kernel)⟩
  | _, .out => by
    unfold dEqD
    rw [if_pos (by decide +kernel), if_pos (by decide +kernel)]
    exact ⟨congrArg (fun b => some (PyData.bool b)) (by decide +kernel), congrArg (fun b => some (PyData.bool b)) (by decide +kernel)⟩
theorem comp_map {α : Type} {g : FT} {ft fe : FE} {ρ : PEnv} (en : α → PyData) (p : α → Bool) (e : α → PyData) : ∀ l : List α, (∀ a ∈ l, ∃ ρ', g (en a) ρ = some ρ' ∧ ft ρ' = some (.bool (p a)) ∧ (p a = true → fe ρ' = some (e a))) → compF g ft fe (l.map en) ρ = some ((l.filter p).map e)
  | [], _ => rfl
  | a :: l, h => by
    obtain ⟨ρ', h0, h1, h2⟩ := h a List.mem_cons_self
    have ih := comp_map en p e l fun k hk => h k (List.mem_cons_of_mem _ hk)
    simp only [List.map_cons, compF, h0, Option.bind_some, h1, List.filter_cons]
    cases hp : p a with
    | true => simp [ih, h2 hp]
    | false => simp [ih]
theorem filter_t {α : Type} (l : List α) : (l.filter fun _ => true) = l := List.filter_eq_self.mpr fun _ _ => rfl
theorem in_ws (w : Str) (ws : List Str) : dIn (.str w) (wsE ws) = some (.bool (decide (w ∈ ws))) := in_tstr w ws
theorem F_is_load_ok {m most : Int} {ws : List Str} (h : LoadOk m most ws) : F_is_load [ldE m most ws] = some (.bool true) := by
  have h1 := h.one
  have h2 := h.le
  have h3 := h.three
  have n1 := F_is_number_eq (i := m) (a := 1) (b := 6) (by omega) (by omega)
  have n2 := F_is_number_eq (i := most) (a := 1) (b := m) (by omega) (by omega)
  have hc : ∀ u4 : Option EV, fComp [4] (iT (fC wordsD)) (gN 4) (o2 dIn (fVar 4) (fVar 3)) (fVar 4) [some (.val (ldE m most ws)), some (.val (.int m)), some (.val (.int most)), some (.val (wsE ws)), u4] = some (.list (ws.map .str)) := by
    intro u4
    have := comp_map (g := gN 4) (ft := o2 dIn (fVar 4) (fVar 3)) (fe := fVar 4) (ρ := [some (.val (ldE m most ws)), some (.val (.int m)), some (.val (.int most)), some (.val (wsE ws)), none]) PyData.str (fun w => decide (w ∈ ws)) .str WDS fun w hw => ⟨_, rfl, by simp [in_ws], fun _ => by simp⟩
    rw [m_comp, m_iT (ds := WDS.map .str) (by rfl)]
    simp only [m_wipeC, m_wipe0, List.set_cons_succ, List.set_cons_zero, this, Option.bind_some]
    rw [if_pos (by decide)]
    have : WDS.filter (fun w => decide (w ∈ ws)) = ws := by cases h.words <;> decide +kernel
    simp only [this]
  have hin : decide (("in" : Str) ∈ ws) = true := by cases h.words <;> decide +kernel
  have ht : gTup [.list (ws.map .str)] = some (wsE ws) := rfl
  have he := (eqD_words h.words).1
  have i0 : dIdx (ldE m most ws) (.int 0) = some (.int m) := by simp [ldE]
  have il : gLen [ldE m most ws] = some (.int 3) := rfl
  have iz : gIsi "tuple" (ldE m most ws) = some (.bool true) := rfl
  have iw : gIsi "tuple" (wsE ws) = some (.bool true) := rfl
  have ig : ∀ (r' : FTs) (ρ : PEnv), gT r' (ldE m most ws) ρ = r' [.int m, .int most, wsE ws] ρ := fun _ _ => rfl
  simp [F_is_load, B_is_load, List.replicate, i0, il, iz, iw, ig, n1, n2, hc, in_ws, hin, ht, he]
theorem F_need_load_ok {m most : Int} {ws : List Str} (h : LoadOk m most ws) {j : Int} (hj : 3 ≤ j) : F_need_load [ldE m most ws, .int j] = some .none := by
  have h3 := h.three
  have i0 : dIdx (ldE m most ws) (.int 0) = some (.int m) := by simp [ldE]
  have : ¬ j < m := by omega
  simp [F_need_load, B_need_load, F_is_load_ok h, i0, this]
theorem all_bools {α : Type} (q : α → Bool) (l : List α) : gAll [.list (l.map fun a => .bool (q a))] = some (.bool (l.all q)) := by
  have h1 : (l.map fun a => PyData.bool (q a)).all isBl = true := by simp [isBl]
  have h2 : (l.map fun a => PyData.bool (q a)).all tru = l.all q := by
    rw [List.all_map]
    rfl
  simp only [gAll, h1, h2, if_true]
theorem F_is_of_ok {m most : Int} {ws : List Str} (h : LoadOk m most ws) {row : Row} (ho : RowOk [] row) (hl : row.length ≤ 40) : ∃ b : Bool, F_is_of [ldE m most ws, rowE row] = some (.bool b) ∧ (b = true → (∀ p ∈ row, p.1 ∈ ws ∧ p.2 ≤ m) ∧ ∀ l ∈ alongK [] row, (l.length : Int) ≤ most) := by
  obtain ⟨hs, e1, e2⟩ := F_keys_along_ok ho hl
  have hn := F_need_load_ok h (j := 6) (by decide)
  have hr := F_need_row_ok ho hl
  have i0 : dIdx (ldE m most ws) (.int 0) = some (.int m) := by simp [ldE]
  have i1 : dIdx (ldE m most ws) (.int 1) = some (.int most) := by simp [ldE]
  have i2 : dIdx (ldE m most ws) (.int 2) = some (wsE ws) := by simp [ldE]
  have hlen2 : hs.length ≤ 40 := by
    have := congrArg List.length e2
    simp only [List.length_map] at this
    have h4 : ∀ (ks : List Int) (row : Row), (alongK ks row).length = row.length := by
      intro ks row
      induction row generalizing ks with
      | nil => rfl
      | cons p row ih => simp [alongK, ih]
    rw [this, h4]
    exact hl
  have c1 : ∀ u2 u3 u4 : Option EV, fComp [2, 3] (iL (fVar 1)) (gT (gsC (gN 2) (gsC (gN 3) gs0))) (fC (.bool true)) (fAnd (o2 dIn (fVar 2) (o2 dIdx (fVar 0) (fC (.int 2)))) (o2 dLe (fVar 3) (o2 dIdx (fVar 0) (fC (.int 0)))))
      [some (.val (ldE m most ws)), some (.val (rowE row)), u2, u3, u4] = some (.list (row.map fun p => .bool (decide (p.1 ∈ ws) && decide (p.2 ≤ m)))) := by
    intro u2 u3 u4
    have := comp_map (g := gT (gsC (gN 2) (gsC (gN 3) gs0))) (ft := fC (.bool true)) (fe := fAnd (o2 dIn (fVar 2) (o2 dIdx (fVar 0) (fC (.int 2)))) (o2 dLe (fVar 3) (o2 dIdx (fVar 0) (fC (.int 0))))) (ρ := [some (.val (ldE m most ws)), some (.val (rowE row)), none, none, u4])
      (fun p : Str × Int => ded p.1 p.2) (fun _ => true) (fun p => .bool (decide (p.1 ∈ ws) && decide (p.2 ≤ m))) row fun p hp => ⟨[some (.val (ldE m most ws)), some (.val (rowE row)), some (.val (.str p.1)), some (.val (.int p.2)), u4], by simp, by simp, fun _ => by
        by_cases c : p.1 ∈ ws
        · simp [i2, in_ws, c, i0]
        · simp [i2, in_ws, c]⟩
    rw [m_comp, m_iL (ds := dds row) (by simp; rfl)]
    have hd : (dds row).length ≤ 100000 := by simp [dds]; omega
    simp only [m_wipeC, m_wipe0, List.set_cons_succ, List.set_cons_zero, Option.bind_some, if_pos hd]
    simp only [dds]
    rw [this, filter_t]
    rfl
  have c2 : ∀ u2 u3 u4 : Option EV, fComp [4] (iL (oA F_keys_along (ac (fVar 1) a0))) (gN 4) (fC (.bool true)) (o2 dLe (oA gLen (ac (fVar 4) a0)) (o2 dIdx (fVar 0) (fC (.int 1))))
      [some (.val (ldE m most ws)), some (.val (rowE row)), u2, u3, u4] = some (.list (hs.map fun l => .bool (decide ((l.length : Int) ≤ most)))) := by
    intro u2 u3 u4
    have := comp_map (g := gN 4) (ft := fC (.bool true)) (fe := o2 dLe (oA gLen (ac (fVar 4) a0)) (o2 dIdx (fVar 0) (fC (.int 1)))) (ρ := [some (.val (ldE m most ws)), some (.val (rowE row)), u2, u3, none])
      iL0 (fun _ => true) (fun l => .bool (decide ((l.length : Int) ≤ most))) hs fun l hp => ⟨_, rfl, rfl, fun _ => by simp [i1]⟩
    rw [m_comp, m_iL (ds := hs.map iL0) (by simp [e1])]
    have hd : (hs.map iL0).length ≤ 100000 := by simp; omega
    simp only [m_wipeC, m_wipe0, List.set_cons_succ, List.set_cons_zero, Option.bind_some, if_pos hd]
    rw [this, filter_t]
    rfl
  have a1 := all_bools (fun p : Str × Int => decide (p.1 ∈ ws) && decide (p.2 ≤ m)) row
  have a2 := all_bools (fun l : List Int => decide ((l.length : Int) ≤ most)) hs
  cases hb : row.all fun p : Str × Int => decide (p.1 ∈ ws) && decide (p.2 ≤ m) with
  | false =>
    rw [hb] at a1
    refine ⟨false, ?_, fun z => by cases z⟩
    simp only [F_is_of, B_is_of, sDrop, F_is_row_of, B_is_row_of, m_runF, m_start2, List.replicate, m_seq, m_oA, m_ac, m_fVar0, m_fVarS, m_fC, m_a0, Option.bind_some, hn, hr, m_seqN, m_sRet, m_sIf, m_o1, c1, a1, m_not, m_sIfT, m_sIfF, Bool.not_false, Bool.not_true, m_seqR, m_endR, m_sNext]
  | true =>
    rw [hb] at a1
    refine ⟨hs.all fun l => decide ((l.length : Int) ≤ most), ?_, fun z => ⟨fun p hp => ?_, fun l hl => ?_⟩⟩
    · simp only [F_is_of, B_is_of, sDrop, F_is_row_of, B_is_row_of, m_runF, m_start2, List.replicate, m_seq, m_oA, m_ac, m_fVar0, m_fVarS, m_fC, m_a0, Option.bind_some, hn, hr, m_seqN, m_sRet, m_sIf, m_o1, c1, a1, c2, a2, m_not, m_sIfT, m_sIfF, Bool.not_false, Bool.not_true, m_seqR, m_endR, m_sNext]
    · have := List.all_eq_true.mp hb p hp
      simpa using this
    · have hm : l.length ∈ hs.map List.length := by
        rw [e2]
        exact List.mem_map_of_mem hl
      obtain ⟨l', h1, h2⟩ := List.mem_map.mp hm
      have := List.all_eq_true.mp z l' h1
      rw [← h2]
      simpa using this
end L3

/-! M9: the deeds of a load at a shape; pairs of shapes; all of them. -/
namespace L3
open PySem PySem.Spec PyProof.Rows L2

def rngI (m : Int) : List Int := (List.range m.toNat).map fun (i : Nat) => 1 + (i : Int)
def canD (most : Int) (ks : List Int) (w : Str) (k : Int) : Bool := decide (decide (k ∈ ks) = !decide (w = "in")) && (!decide (w = "in") || decide ((ks.length : Int) < most))
def deedsW (most : Int) (ks : List Int) (w : Str) (l : List Int) : Row := (l.filter (canD most ks w)).map fun k => (w, k)
def deedsOf (m most : Int) (ws : List Str) (ks : List Int) : Row := ws.flatMap fun w => deedsW most ks w (rngI m)
theorem deedsW_len (most : Int) (ks : List Int) (w : Str) (l : List Int) : (deedsW most ks w l).length ≤ l.length := by
  unfold deedsW
  rw [List.length_map]
  exact List.length_filter_le _ _
theorem rngI_len {m : Int} : (rngI m).length = m.toNat := by simp [rngI]
theorem mem_rngI {m k : Int} : k ∈ rngI m ↔ 1 ≤ k ∧ k ≤ m := by
  simp only [rngI, List.mem_map, List.mem_range]
  constructor
  · rintro ⟨i, h, rfl⟩
    omega
  · rintro ⟨h1, h2⟩
    exact ⟨(k - 1).toNat, by omega, by omega⟩
abbrev ED (m most : Int) (ws : List Str) (t : Tree) (ks : List Int) (xs : Row) (u4 u5 : Option EV) : PEnv := [some (.val (ldE m most ws)), some (.val (enc t)), some (.val (iL0 ks)), some (.lst (dds xs)), u4, u5]
abbrev BD : FS := sIf (fAnd (o2 dEq (o2 dIn (fVar 5) (fVar 2)) (o2 dNe (fVar 4) (fC (.str "in")))) (fOr (o2 dNe (fVar 4) (fC (.str "in"))) (o2 dLt (oA gLen (ac (fVar 2) a0)) (o2 dIdx (fVar 0) (fC (.int 1)))))) (sApp 3 (fTup (ac (fVar 4) (ac (fVar 5) a0)))) sNext
theorem BD_eq {m most : Int} {ws : List Str} {t : Tree} {ks : List Int} {xs : Row} {w : Str} {k : Int} (h : xs.length < 1000) :
    BD (ED m most ws t ks xs (some (.val (.str w))) (some (.val (.int k)))) = some (.nx (ED m most ws t ks (xs ++ if canD most ks w k then [(w, k)] else []) (some (.val (.str w))) (some (.val (.int k))))) := by
  have i1 : dIdx (ldE m most ws) (.int 1) = some (.int most) := by simp [ldE]
  have ha := m_app (i := 3) (f := fTup (ac (fVar 4) (ac (fVar 5) a0))) (ρ := ED m most ws t ks xs (some (.val (.str w))) (some (.val (.int k)))) (ds := dds xs) (by simp) (by simp [dds]; omega)
  by_cases c2 : w = "in"
  · subst c2
    simp only [ED] at ha
    by_cases c1 : k ∈ ks
    · simp [canD, c1]
    · by_cases c3 : (ks.length : Int) < most
      · simp [canD, c1, c3, i1, ha, dds, ded]
      · simp [canD, c1, c3, i1]
  · simp only [ED] at ha
    by_cases c1 : k ∈ ks
    · simp [canD, c1, c2, i1, ha, dds, ded]
    · simp [canD, c1, c2]
theorem deeds_in {m most : Int} {ws : List Str} {t : Tree} {ks : List Int} {w : Str} : ∀ (l : List Int) (xs : Row) (u5 : Option EV), xs.length + l.length ≤ 1000 →
    ∃ u5', forF (gN 5) BD (l.map .int) (ED m most ws t ks xs (some (.val (.str w))) u5) = some (.nx (ED m most ws t ks (xs ++ deedsW most ks w l) (some (.val (.str w))) u5'))
  | [], xs, u5, _ => ⟨u5, by simp [deedsW]⟩
  | k :: l, xs, u5, hl => by
    simp only [List.length_cons] at hl
    obtain ⟨u5', e1⟩ := deeds_in (m := m) (most := most) (ws := ws) (t := t) (ks := ks) (w := w) l (xs ++ if canD most ks w k then [(w, k)] else []) (some (.val (.int k))) (by split <;> simp <;> omega)
    refine ⟨u5', ?_⟩
    have e0 := BD_eq (m := m) (most := most) (ws := ws) (t := t) (ks := ks) (xs := xs) (w := w) (k := k) (by omega)
    simp only [List.map_cons, for_cons, m_gN, Option.bind_some, ED, List.set_cons_succ, List.set_cons_zero]
    rw [e0, m_seqN, e1]
    have : xs ++ (if canD most ks w k then [(w, k)] else []) ++ deedsW most ks w l = xs ++ deedsW most ks w (k :: l) := by
      unfold deedsW
      rw [List.filter_cons]
      split <;> simp
    rw [this]
theorem deeds_out {m most : Int} {t : Tree} {ks : List Int} (hm : 0 ≤ m ∧ m ≤ 3) (ws0 : List Str) : ∀ (ws : List Str) (xs : Row) (u4 u5 : Option EV), xs.length + 3 * ws.length ≤ 1000 →
    ∃ u4' u5', forF (gN 4) (sFor (iR2 (fC (.int 1)) (o2 dAdd (o2 dIdx (fVar 0) (fC (.int 0))) (fC (.int 1)))) (gN 5) BD) (ws.map .str) (ED m most ws0 t ks xs u4 u5) = some (.nx (ED m most ws0 t ks (xs ++ ws.flatMap fun w => deedsW most ks w (rngI m)) u4' u5'))
  | [], xs, u4, u5, _ => ⟨u4, u5, by simp⟩
  | w :: ws, xs, u4, u5, hl => by
    simp only [List.length_cons] at hl
    have hr := rngI_len (m := m)
    have hd := deedsW_len most ks w (rngI m)
    obtain ⟨u5', e1⟩ := deeds_in (m := m) (most := most) (ws := ws0) (t := t) (ks := ks) (w := w) (rngI m) xs u5 (by omega)
    obtain ⟨u4', u5'', e2⟩ := deeds_out hm ws0 ws (xs ++ deedsW most ks w (rngI m)) (some (.val (.str w))) u5' (by simp; omega)
    refine ⟨u4', u5'', ?_⟩
    have i0 : dIdx (ldE m most ws0) (.int 0) = some (.int m) := by simp [ldE]
    have hi : ∀ ρ : PEnv, iR2 (fC (.int 1)) (o2 dAdd (o2 dIdx (fVar 0) (fC (.int 0))) (fC (.int 1))) (some (.val (ldE m most ws0)) :: ρ) = some ((rngI m).map .int) := by
      intro ρ
      have h1 : (o2 dAdd (o2 dIdx (fVar 0) (fC (.int 0))) (fC (.int 1))) (some (.val (ldE m most ws0)) :: ρ) = some (.int (m + 1)) := by simp [i0]
      unfold iR2
      rw [h1]
      simp only [m_fC, Option.bind_some]
      rw [if_pos (by omega)]
      have : (m + 1 - 1).toNat = m.toNat := by congr 1; omega
      simp [rngD, rngI, this]
    simp only [List.map_cons, for_cons, m_gN, Option.bind_some, ED, List.set_cons_succ, List.set_cons_zero, m_for, hi]
    simp only [ED] at e1 e2
    rw [e1, m_seqN, e2]
    simp
theorem F_deeds_at_eq {m most : Int} {ws : List Str} (h : LoadOk m most ws) {t : Tree} {ks : List Int} (g : Good t ks) : F_deeds_at [ldE m most ws, enc t] = some (rowE (deedsOf m most ws ks)) := by
  have hh := g.ht
  have hz := g.size
  have h1 := h.one
  have h2 := h.le
  have h3 := h.three
  have hk := F_keys_of_eq 8 t (by omega) (by omega)
  rw [g.keys] at hk
  have hwl : ws.length ≤ 3 := by cases h.words <;> decide
  obtain ⟨u4', u5', e1⟩ := deeds_out (m := m) (most := most) (t := t) (ks := ks) (by omega) ws ws [] none none (by simp; omega)
  have hi : ∀ ρ : PEnv, iT (o2 dIdx (fVar 0) (fC (.int 2))) (some (.val (ldE m most ws)) :: ρ) = some (ws.map .str) := fun ρ => m_iT (by simp [ldE, wsE])
  have hd : dds [] = [] := rfl
  simp only [ED, List.nil_append, hd, BD] at e1
  simp [F_deeds_at, B_deeds_at, List.replicate, sPar2, fsC, vF, lF, fs0, hk, hi, e1, sFrz, frzE, -m_for, -m_sIf]
  simp only [m_for, hi, Option.bind_some, e1]
  simp [deedsOf, rowE, sFrz, frzE]
theorem mem_deedsOf {m most : Int} {ws : List Str} {ks : List Int} {w : Str} {k : Int} : (w, k) ∈ deedsOf m most ws ks ↔ w ∈ ws ∧ (1 ≤ k ∧ k ≤ m) ∧ (k ∈ ks ↔ w ≠ "in") ∧ (w = "in" → (ks.length : Int) < most) := by
  unfold deedsOf deedsW
  simp only [List.mem_flatMap, List.mem_map, List.mem_filter, Prod.mk.injEq, mem_rngI]
  have hc : canD most ks w k = true ↔ (k ∈ ks ↔ w ≠ "in") ∧ (w = "in" → (ks.length : Int) < most) := by
    unfold canD
    by_cases c1 : k ∈ ks <;> by_cases c2 : w = "in" <;> simp [c1, c2]
  constructor
  · rintro ⟨w', h1, k', ⟨h2, h3⟩, rfl, rfl⟩
    exact ⟨h1, h2, hc.mp h3⟩
  · rintro ⟨h1, h2, h3⟩
    exact ⟨w, h1, k, ⟨h2, hc.mpr h3⟩, rfl, rfl⟩
/-! ### pairs -/
abbrev PT := Tree × Tree
def encP (p : PT) : PyData := .tuple [enc p.1, enc p.2]
/-- two shapes of the same keys, that lie between 1 and m -/
structure PGood (m : Int) (p : PT) : Prop where
  one : Good p.1 p.1.keys
  other : Good p.2 p.1.keys
  rg : ∀ k ∈ p.1.keys, 1 ≤ k ∧ k ≤ m
theorem pgood_nil (m : Int) : PGood m (.nil, .nil) := ⟨good_nil, good_nil, fun k hk => by cases hk⟩
section
variable {m most : Int} {ws : List Str} {r1 r2 : PyData}
theorem deed_ok (h : LoadOk m most ws) {p : PT} (g : PGood m p) {w : Str} {k : Int} (hd : (w, k) ∈ deedsOf m most ws p.1.keys) : DeedOk p.1.keys w k := by
  obtain ⟨h1, h2, h3, _⟩ := mem_deedsOf.mp hd
  have := h.three
  exact ⟨h.words.sub w h1, by omega, h3⟩
theorem PGood.rg6 {p : PT} (g : PGood m p) (h : LoadOk m most ws) : Rg p.1.keys := fun k hk => by
  have := g.rg k hk
  have := h.three
  omega
noncomputable def stp (r1 r2 : PyData) (p : PT) (d : Str × Int) : PT := (nxt r1 p.1 d.1 d.2, nxt r2 p.2 d.1 d.2)
theorem stp_ok (hr1 : RuleOk r1) (hr2 : RuleOk r2) (h : LoadOk m most ws) {p : PT} (g : PGood m p) {d : Str × Int} (hd : d ∈ deedsOf m most ws p.1.keys) :
    F_behind [r1, enc p.1, ded d.1 d.2] = some (enc (stp r1 r2 p d).1) ∧ F_behind [r2, enc p.2, ded d.1 d.2] = some (enc (stp r1 r2 p d).2) ∧ PGood m (stp r1 r2 p d) ∧ (stp r1 r2 p d).1.keys = nextK p.1.keys d.1 d.2 := by
  have hd' := deed_ok h g (w := d.1) (k := d.2) hd
  obtain ⟨a1, a2, a3⟩ := nxt_ok hr1 g.one (g.rg6 h) hd'
  obtain ⟨b1, b2, b3⟩ := nxt_ok hr2 g.other (g.rg6 h) hd'
  have ek : (stp r1 r2 p d).1.keys = nextK p.1.keys d.1 d.2 := a2.keys
  refine ⟨a1, b1, ⟨by rw [ek]; exact a2, by rw [ek]; exact b2, fun k hk => ?_⟩, ek⟩
  rw [ek] at hk
  obtain ⟨h1, h2, h3, _⟩ := mem_deedsOf.mp (show (d.1, d.2) ∈ _ from hd)
  unfold nextK at hk
  split at hk
  · rename_i e
    have : d.2 ∉ p.1.keys := fun z => h3.mp z e
    rcases (mem_insK this).mp hk with rfl | hk
    · exact h2
    · exact g.rg k hk
  · split at hk
    · exact g.rg k (mem_delK.mp hk).1
    · exact g.rg k hk
end
/-! ### all shapes -/
def trs : Nat → List Int → List Tree
  | 0, _ => [.nil]
  | n + 1, l => .nil :: l.flatMap fun k => (trs n (l.filter fun x => decide (x < k))).flatMap fun a => (trs n (l.filter fun x => decide (k < x))).map fun b => .node a k b
theorem mem_trs : ∀ (n : Nat) (t : Tree) (l : List Int), t.ht ≤ n → Srt t.keys → (∀ k ∈ t.keys, k ∈ l) → t ∈ trs n l
  | 0, .nil, _, _, _, _ => List.mem_cons_self
  | 0, .node _ _ _, _, h, _, _ => by simp [Tree.ht] at h
  | n + 1, .nil, _, _, _, _ => List.mem_cons_self
  | n + 1, .node a k b, l, h, hs, hm => by
    simp only [Tree.ht] at h
    obtain ⟨s1, s2, s3, s4⟩ := srt_node hs
    refine List.mem_cons_of_mem _ (List.mem_flatMap.mpr ⟨k, hm k (mem_node.mpr (.inr (.inl rfl))), List.mem_flatMap.mpr ⟨a, mem_trs n a _ (by omega) s1 fun x hx => ?_, List.mem_map.mpr ⟨b, mem_trs n b _ (by omega) s2 fun x hx => ?_, rfl⟩⟩⟩)
    · exact List.mem_filter.mpr ⟨hm x (mem_node.mpr (.inl hx)), decide_eq_true (s3 x hx)⟩
    · exact List.mem_filter.mpr ⟨hm x (mem_node.mpr (.inr (.inr hx))), decide_eq_true (s4 x hx)⟩
def allT : List Tree := trs 3 [1, 2, 3]
def allP : List PT := allT.flatMap fun a => allT.map fun b => (a, b)
theorem allP_len : allP.length = 225 := by decide +kernel
theorem good_mem {t : Tree} {ks : List Int} (g : Good t ks) (hr : ∀ k ∈ ks, 1 ≤ k ∧ k ≤ 3) : t ∈ allT := by
  have h1 := srt_len g.srt hr (by omega)
  have h2 := ht_le t
  have h3 := keys_len t
  rw [g.keys] at h3
  refine mem_trs 3 t _ (by omega) g.srtT fun k hk => ?_
  rw [g.keys] at hk
  have := hr k hk
  have : k = 1 ∨ k = 2 ∨ k = 3 := by omega
  simpa using this
theorem PGood.mem {m : Int} {p : PT} (g : PGood m p) (hm : m ≤ 3) : p ∈ allP := by
  have hr : ∀ k ∈ p.1.keys, 1 ≤ k ∧ k ≤ 3 := fun k hk => by
    have := g.rg k hk
    omega
  exact List.mem_flatMap.mpr ⟨p.1, good_mem g.one hr, List.mem_map.mpr ⟨p.2, good_mem g.other hr, rfl⟩⟩
theorem nodup_len {α : Type} [DecidableEq α] : ∀ {l u : List α}, l.Nodup → (∀ x ∈ l, x ∈ u) → l.length ≤ u.length
  | [], _, _, _ => Nat.zero_le _
  | a :: l, u, hn, hs => by
    obtain ⟨h1, h2⟩ := List.nodup_cons.mp hn
    have ha := hs a List.mem_cons_self
    have := nodup_len (l := l) (u := u.erase a) h2 fun x hx => (List.mem_erase_of_ne (fun (e : x = a) => h1 (e ▸ hx))).mpr (hs x (List.mem_cons_of_mem _ hx))
    rw [List.length_erase_of_mem ha] at this
    have h3 : 0 < u.length := List.length_pos_of_mem ha
    simp only [List.length_cons]
    omega
end L3

/-! M10: the search for a row that parts two rules, as a plain function. -/
namespace L3
open PySem PySem.Spec PyProof.Rows L2

/-! ### keys of dicts -/
theorem nk_enc : ∀ {a b : Tree}, nk (enc a) = nk (enc b) → a = b
  | .nil, .nil, _ => rfl
  | .nil, .node _ _ _, h => by simp [enc, nk, nkAll, -tup_enc] at h
  | .node _ _ _, .nil, h => by simp [enc, nk, nkAll, -tup_enc] at h
  | .node l k r, .node l' k' r', h => by
    simp only [enc, nk, nkAll, NestedKey.tup.injEq, List.cons.injEq, NestedKey.num.injEq, and_true] at h
    obtain ⟨h1, h2, h3⟩ := h
    rw [nk_enc h1, h2, nk_enc h3]
theorem nk_encP {p q : PT} : nk (encP p) = nk (encP q) ↔ p = q := by
  constructor
  · intro h
    simp only [encP, nk, nkAll, NestedKey.tup.injEq, List.cons.injEq, and_true] at h
    exact Prod.ext (nk_enc h.1) (nk_enc h.2)
  · exact fun h => h ▸ rfl
theorem keyOk_enc : ∀ t : Tree, keyOk (enc t) = true
  | .nil => rfl
  | .node l k r => by simp [enc, keyOk, keyOkAll, keyOk_enc l, keyOk_enc r, -tup_enc]
theorem nkd_enc : ∀ t : Tree, (nk (enc t)).depth ≤ t.ht + 1
  | .nil => by simp [enc, nk, nkAll, NestedKey.depth, NestedKey.depthAll]
  | .node l k r => by
    have h1 := nkd_enc l
    have h2 := nkd_enc r
    simp only [enc, nk, nkAll, NestedKey.depth, NestedKey.depthAll, Tree.ht]
    omega
theorem keyTop_encP {p : PT} (h1 : p.1.ht ≤ 6) (h2 : p.2.ht ≤ 6) : keyTop (encP p) = true := by
  have e1 := nkd_enc p.1
  have e2 := nkd_enc p.2
  have : (nk (encP p)).depth ≤ 8 := by
    simp only [encP, nk, nkAll, NestedKey.depth, NestedKey.depthAll]
    omega
  unfold keyTop
  rw [decide_eq_true this]
  simp [encP, isTupD, keyOk, keyOkAll, keyOk_enc]
theorem PGood.key {m : Int} {p : PT} (g : PGood m p) : keyTop (encP p) = true := keyTop_encP g.one.ht g.other.ht
def mapE {α : Type} (f : α → PyData) (xs : List (PT × α)) : List (PyData × PyData) := xs.map fun x => (encP x.1, f x.2)
theorem find_mapE {α : Type} (f : α → PyData) (q : PT) : ∀ xs : List (PT × α), dGet (mapE f xs) (encP q) = (xs.find? fun x => decide (x.1 = q)).map fun x => f x.2
  | [] => rfl
  | x :: xs => by
    have ih := find_mapE f q xs
    unfold dGet mapE at ih ⊢
    simp only [List.map_cons, List.find?_cons, nk_encP]
    by_cases c : x.1 = q
    · simp [c]
    · simp only [c, decide_false]
      simpa [nk_encP] using ih
theorem put_new {α : Type} (f : α → PyData) {q : PT} {a : α} {xs : List (PT × α)} (h : q ∉ xs.map (·.1)) : dPut (mapE f xs) (encP q) (f a) = mapE f (xs ++ [(q, a)]) := by
  have : dGet (mapE f xs) (encP q) = none := by
    rw [find_mapE, List.find?_eq_none.mpr]
    · rfl
    · intro x hx
      simp
      exact fun e => h (List.mem_map.mpr ⟨x, hx, e⟩)
  unfold dPut
  rw [this]
  simp [mapE]
theorem get_some {α : Type} (f : α → PyData) {q : PT} {xs : List (PT × α)} : (dGet (mapE f xs) (encP q)).isSome = decide (q ∈ xs.map (·.1)) := by
  rw [find_mapE, Option.isSome_map, Bool.eq_iff_iff, List.find?_isSome, decide_eq_true_iff]
  simp
def seenE (seen : List PT) : List (PyData × PyData) := seen.map fun p => (encP p, .bool true)
theorem seenE_eq (seen : List PT) : seenE seen = mapE (fun _ => .bool true) (seen.map fun p => (p, ())) := by simp [seenE, mapE]
theorem seen_get {q : PT} {seen : List PT} : (dGet (seenE seen) (encP q)).isSome = decide (q ∈ seen) := by
  rw [seenE_eq, get_some]
  simp
theorem seen_put {q : PT} {seen : List PT} (h : q ∉ seen) : dPut (seenE seen) (encP q) (.bool true) = seenE (seen ++ [q]) := by
  have := put_new (fun _ : Unit => PyData.bool true) (q := q) (a := ()) (xs := seen.map fun p => (p, ())) (by simpa using h)
  rw [seenE_eq, this, seenE_eq, List.map_append]
  rfl
/-! ### the search -/
structure Cfg where
  m : Int
  most : Int
  ws : List Str
  r1 : PyData
  r2 : PyData
structure Cfg.Ok (c : Cfg) : Prop where
  ld : LoadOk c.m c.most c.ws
  one : RuleOk c.r1
  other : RuleOk c.r2
namespace Cfg
def dsp (c : Cfg) (p : PT) : Row := deedsOf c.m c.most c.ws p.1.keys
noncomputable def st (c : Cfg) (p : PT) (d : Str × Int) : PT := stp c.r1 c.r2 p d
noncomputable def chk (c : Cfg) (b : Bool) (p : PT) (d : Str × Int) : Bool := if b then !decide (cst p.1 d.1 d.2 = cst p.2 d.1 d.2) else !decide ((c.st p d).1 = (c.st p d).2)
noncomputable def goD (c : Cfg) (b : Bool) (row : Row) (p : PT) : Row → List PT × List (Row × PT) → Row ⊕ (List PT × List (Row × PT))
  | [], s => .inr s
  | d :: ds, s => if c.chk b p d then .inl (row ++ [d]) else if c.st p d ∈ s.1 then goD c b row p ds s else goD c b row p ds (s.1 ++ [c.st p d], s.2 ++ [(row ++ [d], c.st p d)])
noncomputable def goL (c : Cfg) (b : Bool) : List (Row × PT) → List PT × List (Row × PT) → Row ⊕ (List PT × List (Row × PT))
  | [], s => .inr s
  | x :: xs, s => match c.goD b x.1 x.2 (c.dsp x.2) s with
    | .inl r => .inl r
    | .inr s' => goL c b xs s'
noncomputable def goW (c : Cfg) (b : Bool) : Nat → List (Row × PT) → List PT → Option (Option Row)
  | 0, _, _ => none
  | n + 1, lev, seen => if lev.isEmpty then some none else match c.goL b lev (seen, []) with
    | .inl r => some (some r)
    | .inr s => goW c b n s.2 s.1
end Cfg
def levE (x : Row × PT) : PyData := .tuple [rowE x.1, enc x.2.1, enc x.2.2]
/-- what stands while a level is gone through -/
structure Inv (c : Cfg) (n z : Nat) (s : List PT × List (Row × PT)) : Prop where
  nd : s.1.Nodup
  good : ∀ p ∈ s.1, PGood c.m p
  later : ∀ x ∈ s.2, PGood c.m x.2 ∧ x.1.length = n ∧ ∀ d ∈ x.1, d.1 ∈ WDS
  less : s.1.length = z + s.2.length
theorem Inv.len {c : Cfg} {n z : Nat} {s : List PT × List (Row × PT)} (h : Inv c n z s) (hc : c.Ok) : s.1.length ≤ 225 := by
  rw [← allP_len]
  exact nodup_len h.nd fun p hp => (h.good p hp).mem hc.ld.three
abbrev EP (c : Cfg) (b : Bool) (lev : PyData) (s : List PT × List (Row × PT)) (u8 u9 u10 u11 u12 u13 : Option EV) : PEnv :=
  [some (.val c.r1), some (.val c.r2), some (.val (ldE c.m c.most c.ws)), some (.val (.bool b)), some (.val (encP (.nil, .nil))), some (.val lev), some (.dct (seenE s.1)), some (.lst (s.2.map levE)), u8, u9, u10, u11, u12, u13]
abbrev BP : FS := (sSeq (sSet 12 (o2 dAdd (fVar 8) (fLst (ac (fVar 11) a0))))
  (sSeq (sIf (fAnd (fVar 3) (o2 dNe (oA F_cost_of (ac (fVar 9) (ac (fVar 11) a0))) (oA F_cost_of (ac (fVar 10) (ac (fVar 11) a0))))) (sRet (fVar 12)) sNext)
  (sSeq (sSet 13 (fTup (ac (oA F_behind (ac (fVar 0) (ac (fVar 9) (ac (fVar 11) a0)))) (ac (oA F_behind (ac (fVar 1) (ac (fVar 10) (ac (fVar 11) a0)))) a0))))
  (sSeq (sIf (fAnd (o1 dNot (fVar 3)) (o2 dNeD (o2 dIdx (fVar 13) (fC (.int 0))) (o2 dIdx (fVar 13) (fC (.int 1))))) (sRet (fVar 12)) sNext)
  (sIf (fOIn true 6 (fVar 13)) (sSeq (sPut 6 (fVar 13) (fC (.bool true)))
  (sApp 7 (fTup (ac (fVar 12) (ac (o2 dIdx (fVar 13) (fC (.int 0))) (ac (o2 dIdx (fVar 13) (fC (.int 1))) a0)))))) sNext)))))
@[simp] theorem idx_p0 (p : PT) : dIdx (encP p) (.int 0) = some (enc p.1) := by simp [encP]
@[simp] theorem idx_p1 (p : PT) : dIdx (encP p) (.int 1) = some (enc p.2) := by simp [encP]
@[simp] theorem tup_encP (a b : Tree) : PyData.tuple [enc a, enc b] = encP (a, b) := rfl
theorem add_row {row : Row} {d : Str × Int} (h : row.length < 1000) : dAdd (rowE row) (.list [ded d.1 d.2]) = some (rowE (row ++ [d])) := by
  unfold dAdd rowE dds
  simp only [List.length_map, List.length_cons, List.length_nil, List.map_append]
  rw [if_pos (by omega)]
  rfl
theorem bp_ok {c : Cfg} (hc : c.Ok) {b : Bool} {lev : PyData} {row : Row} {p : PT} {n z : Nat} (g : PGood c.m p) (hn : row.length = n) (hw : ∀ d ∈ row, d.1 ∈ WDS) (h999 : n < 900) {d : Str × Int} (hd : d ∈ c.dsp p) {s : List PT × List (Row × PT)} (hs : Inv c (n + 1) z s) (u12 u13 : Option EV) :
    ∃ u12' u13', BP (EP c b lev s (some (.val (rowE row))) (some (.val (enc p.1))) (some (.val (enc p.2))) (some (.val (ded d.1 d.2))) u12 u13) =
      (if c.chk b p d then some (.rt (rowE (row ++ [d]))) else some (.nx (EP c b lev (if c.st p d ∈ s.1 then s else (s.1 ++ [c.st p d], s.2 ++ [(row ++ [d], c.st p d)])) (some (.val (rowE row))) (some (.val (enc p.1))) (some (.val (enc p.2))) (some (.val (ded d.1 d.2))) u12' u13'))) ∧
      Inv c (n + 1) z (if c.st p d ∈ s.1 then s else (s.1 ++ [c.st p d], s.2 ++ [(row ++ [d], c.st p d)])) := by
  obtain ⟨e1, e2, g2, _⟩ := stp_ok hc.one hc.other hc.ld g hd
  have q1 := F_cost_of_eq (t := p.1) (by have := g.one.ht; omega) d.1 d.2
  have q2 := F_cost_of_eq (t := p.2) (by have := g.other.ht; omega) d.1 d.2
  have ha := add_row (row := row) (d := d) (by omega)
  have hl := hs.len hc
  have hle := hs.less
  have hk := g2.key
  have hne := dNeD_enc (a := (c.st p d).1) (b := (c.st p d).2) (by have := g2.one.ht; exact Nat.le_trans this (by decide)) (by have := g2.other.ht; exact Nat.le_trans this (by decide))
  have hE : encP ((c.st p d).1, (c.st p d).2) = encP (c.st p d) := rfl
  refine ⟨some (.val (rowE (row ++ [d]))), some (.val (encP (c.st p d))), ?_, ?_⟩
  · have tail : sIf (fOIn true 6 (fVar 13)) (sSeq (sPut 6 (fVar 13) (fC (.bool true))) (sApp 7 (fTup (ac (fVar 12) (ac (o2 dIdx (fVar 13) (fC (.int 0))) (ac (o2 dIdx (fVar 13) (fC (.int 1))) a0)))))) sNext
        (EP c b lev s (some (.val (rowE row))) (some (.val (enc p.1))) (some (.val (enc p.2))) (some (.val (ded d.1 d.2))) (some (.val (rowE (row ++ [d])))) (some (.val (encP (c.st p d))))) =
        some (.nx (EP c b lev (if c.st p d ∈ s.1 then s else (s.1 ++ [c.st p d], s.2 ++ [(row ++ [d], c.st p d)])) (some (.val (rowE row))) (some (.val (enc p.1))) (some (.val (enc p.2))) (some (.val (ded d.1 d.2))) (some (.val (rowE (row ++ [d])))) (some (.val (encP (c.st p d)))))) := by
      have hin : dInD true (encP (c.st p d)) (.dict (seenE s.1)) = some (.bool (!decide (c.st p d ∈ s.1))) := by
        show (if keyTop (encP (c.st p d)) then _ else _) = _
        rw [show keyTop (encP (c.st p d)) = true from hk, if_pos rfl, seen_get]
        rfl
      by_cases hm : c.st p d ∈ s.1
      · simp [fOIn, hin, hm]
      · have hp := seen_put hm
        have hsz : (seenE s.1).length < 100000 := by simp [seenE]; omega
        have happ := m_app (i := 7) (f := fTup (ac (fVar 12) (ac (o2 dIdx (fVar 13) (fC (.int 0))) (ac (o2 dIdx (fVar 13) (fC (.int 1))) a0)))) (ρ := EP c b lev (s.1 ++ [c.st p d], s.2) (some (.val (rowE row))) (some (.val (enc p.1))) (some (.val (enc p.2))) (some (.val (ded d.1 d.2))) (some (.val (rowE (row ++ [d])))) (some (.val (encP (c.st p d))))) (ds := s.2.map levE) (by simp) (by simp; omega)
        simp only [EP] at happ
        have hk' : keyTop (encP (c.st p d)) = true := hk
        simp [fOIn, hin, hm, sPut, hp, hsz, hk', happ, levE]
    have hb : encP (stp c.r1 c.r2 p d) = encP (c.st p d) := rfl
    have e1' : F_behind [c.r1, enc p.1, ded d.1 d.2] = some (enc (c.st p d).1) := e1
    have e2' : F_behind [c.r2, enc p.2, ded d.1 d.2] = some (enc (c.st p d).2) := e2
    simp only [EP] at tail
    cases b with
    | true =>
      by_cases hcst : cst p.1 d.1 d.2 = cst p.2 d.1 d.2
      · have hck : c.chk true p d = false := by simp [Cfg.chk, hcst]
        simp only [cst] at hcst
        simp only [BP, EP, m_seq, m_sSet, m_o2, m_fVarS, m_fVar0, m_fLst, m_ac, m_a0, Option.bind_some, ha, List.set_cons_succ, List.set_cons_zero, m_seqN, m_sIf, m_and, m_andT, m_oA, q1, q2, m_neI, hcst, decide_true, Bool.not_true, m_sIfF, m_sNext, m_fTup, e1', e2', tup_encP, hE, m_o1, m_not, m_andF, hck]
        rw [← m_sIf, tail]
        rfl
      · have hck : c.chk true p d = true := by simp [Cfg.chk, hcst]
        simp only [cst] at hcst
        simp only [BP, EP, m_seq, m_sSet, m_o2, m_fVarS, m_fVar0, m_fLst, m_ac, m_a0, Option.bind_some, ha, List.set_cons_succ, List.set_cons_zero, m_seqN, m_sIf, m_and, m_andT, m_oA, q1, q2, m_neI, hcst, decide_false, Bool.not_false, m_sIfT, m_sRet, m_seqR, hck, if_true]
    | false =>
      by_cases hcst : (c.st p d).1 = (c.st p d).2
      · have hck : c.chk false p d = false := by simp [Cfg.chk, hcst]
        simp only [BP, EP, m_seq, m_sSet, m_o2, m_fVarS, m_fVar0, m_fLst, m_ac, m_a0, Option.bind_some, ha, List.set_cons_succ, List.set_cons_zero, m_seqN, m_sIf, m_and, m_andF, m_sIfF, m_sNext, m_oA, m_fTup, e1', e2', tup_encP, hE, m_o1, m_not, Bool.not_false, m_andT, m_fC, idx_p0, idx_p1, hne, decide_eq_true hcst, Bool.not_true, hck]
        rw [← m_sIf, tail]
        rfl
      · have hck : c.chk false p d = true := by simp [Cfg.chk, hcst]
        simp only [BP, EP, m_seq, m_sSet, m_o2, m_fVarS, m_fVar0, m_fLst, m_ac, m_a0, Option.bind_some, ha, List.set_cons_succ, List.set_cons_zero, m_seqN, m_sIf, m_and, m_andF, m_sIfF, m_sNext, m_oA, m_fTup, e1', e2', tup_encP, hE, m_o1, m_not, Bool.not_false, m_andT, m_fC, idx_p0, idx_p1, hne, decide_eq_false hcst, m_sIfT, m_sRet, m_seqR, hck, if_true]
  · split
    · exact hs
    · rename_i hm
      refine ⟨?_, fun q hq => ?_, fun x hx => ?_, by simp; omega⟩
      · exact List.nodup_append.mpr ⟨hs.nd, by simp, fun a ha b hb => by
          simp at hb
          rintro rfl
          exact hm (hb ▸ ha)⟩
      · rcases List.mem_append.mp hq with hq | hq
        · exact hs.good q hq
        · simp at hq
          exact hq ▸ g2
      · rcases List.mem_append.mp hx with hx | hx
        · exact hs.later x hx
        · simp at hx
          subst hx
          refine ⟨g2, by simp [hn], fun e he => ?_⟩
          rcases List.mem_append.mp he with he | he
          · exact hw e he
          · rw [List.mem_singleton.mp he]
            exact hc.ld.words.sub _ (mem_deedsOf.mp (show (d.1, d.2) ∈ _ from hd)).1
theorem goD_ok {c : Cfg} (hc : c.Ok) {b : Bool} {lev : PyData} {row : Row} {p : PT} {n z : Nat} (g : PGood c.m p) (hn : row.length = n) (hw : ∀ d ∈ row, d.1 ∈ WDS) (h999 : n < 900) : ∀ (ds : Row) (s : List PT × List (Row × PT)) (u11 u12 u13 : Option EV), (∀ d ∈ ds, d ∈ c.dsp p) → Inv c (n + 1) z s →
    ∃ u11' u12' u13', forF (gN 11) BP (dds ds) (EP c b lev s (some (.val (rowE row))) (some (.val (enc p.1))) (some (.val (enc p.2))) u11 u12 u13) =
      (match c.goD b row p ds s with
        | .inl r => some (.rt (rowE r))
        | .inr s' => some (.nx (EP c b lev s' (some (.val (rowE row))) (some (.val (enc p.1))) (some (.val (enc p.2))) u11' u12' u13'))) ∧
      ∀ s', c.goD b row p ds s = .inr s' → Inv c (n + 1) z s'
  | [], s, u11, u12, u13, _, hs => ⟨u11, u12, u13, rfl, fun s' e => by cases e; exact hs⟩
  | d :: ds, s, u11, u12, u13, hd, hs => by
    obtain ⟨u12', u13', e1, e2⟩ := bp_ok hc (b := b) (lev := lev) g hn hw h999 (hd d List.mem_cons_self) hs u12 u13
    have hf : forF (gN 11) BP (dds (d :: ds)) (EP c b lev s (some (.val (rowE row))) (some (.val (enc p.1))) (some (.val (enc p.2))) u11 u12 u13) = seqK (BP (EP c b lev s (some (.val (rowE row))) (some (.val (enc p.1))) (some (.val (enc p.2))) (some (.val (ded d.1 d.2))) u12 u13)) (forF (gN 11) BP (dds ds)) := by
      simp only [dds, List.map_cons, for_cons, m_gN, Option.bind_some, EP, List.set_cons_succ, List.set_cons_zero]
    cases hck : c.chk b p d with
    | true =>
      refine ⟨u11, u12, u13, ?_, fun s' e => ?_⟩
      · rw [hf, e1, hck, if_pos rfl, m_seqR]
        simp [Cfg.goD, hck]
      · simp [Cfg.goD, hck] at e
    | false =>
      rw [hck] at e1
      have hg : c.goD b row p (d :: ds) s = c.goD b row p ds (if c.st p d ∈ s.1 then s else (s.1 ++ [c.st p d], s.2 ++ [(row ++ [d], c.st p d)])) := by
        by_cases hm : c.st p d ∈ s.1
        · simp only [Cfg.goD, hck, Bool.false_eq_true, if_false, if_pos hm]
        · simp only [Cfg.goD, hck, Bool.false_eq_true, if_false, if_neg hm]
      obtain ⟨v11, v12, v13, f1, f2⟩ := goD_ok hc (b := b) (lev := lev) g hn hw h999 ds _ (some (.val (ded d.1 d.2))) u12' u13' (fun x hx => hd x (List.mem_cons_of_mem _ hx)) e2
      refine ⟨v11, v12, v13, ?_, fun s' e => f2 s' (hg ▸ e)⟩
      rw [hf, e1, hg]
      exact f1
abbrev BL : FS := sFor (iL (oA F_deeds_at (ac (fVar 2) (ac (fVar 9) a0)))) (gN 11) BP
theorem goL_ok {c : Cfg} (hc : c.Ok) {b : Bool} {lev : PyData} {n z : Nat} (h999 : n < 900) : ∀ (xs : List (Row × PT)) (s : List PT × List (Row × PT)) (u8 u9 u10 u11 u12 u13 : Option EV), (∀ x ∈ xs, PGood c.m x.2 ∧ x.1.length = n ∧ ∀ d ∈ x.1, d.1 ∈ WDS) → Inv c (n + 1) z s →
    ∃ u8' u9' u10' u11' u12' u13', forF (gT (gsC (gN 8) (gsC (gN 9) (gsC (gN 10) gs0)))) BL (xs.map levE) (EP c b lev s u8 u9 u10 u11 u12 u13) =
      (match c.goL b xs s with
        | .inl r => some (.rt (rowE r))
        | .inr s' => some (.nx (EP c b lev s' u8' u9' u10' u11' u12' u13'))) ∧
      ∀ s', c.goL b xs s = .inr s' → Inv c (n + 1) z s'
  | [], s, u8, u9, u10, u11, u12, u13, _, hs => ⟨u8, u9, u10, u11, u12, u13, rfl, fun s' e => by cases e; exact hs⟩
  | x :: xs, s, u8, u9, u10, u11, u12, u13, hx, hs => by
    obtain ⟨g, hn, hw⟩ := hx x List.mem_cons_self
    obtain ⟨v11, v12, v13, e1, e2⟩ := goD_ok hc (b := b) (lev := lev) g hn hw h999 (c.dsp x.2) s u11 u12 u13 (fun d h => h) hs
    have hde : F_deeds_at [ldE c.m c.most c.ws, enc x.2.1] = some (rowE (c.dsp x.2)) := F_deeds_at_eq hc.ld g.one
    have hf : forF (gT (gsC (gN 8) (gsC (gN 9) (gsC (gN 10) gs0)))) BL ((x :: xs).map levE) (EP c b lev s u8 u9 u10 u11 u12 u13) = seqK (forF (gN 11) BP (dds (c.dsp x.2)) (EP c b lev s (some (.val (rowE x.1))) (some (.val (enc x.2.1))) (some (.val (enc x.2.2))) u11 u12 u13)) (forF (gT (gsC (gN 8) (gsC (gN 9) (gsC (gN 10) gs0)))) BL (xs.map levE)) := by
      simp only [List.map_cons, for_cons, levE, m_gT, m_gsC, m_gN, m_gs0, Option.bind_some, EP, List.set_cons_succ, List.set_cons_zero, BL, m_for]
      rw [m_iL (ds := dds (c.dsp x.2)) (by simp only [m_oA, m_ac, m_fVarS, m_fVar0, m_a0, Option.bind_some, hde]; rfl)]
      rfl
    cases hg : c.goD b x.1 x.2 (c.dsp x.2) s with
    | inl r =>
      rw [hg] at e1
      refine ⟨u8, u9, u10, u11, u12, u13, ?_, fun s' e => ?_⟩
      · rw [hf, e1]
        simp only [m_seqR, Cfg.goL, hg]
      · simp [Cfg.goL, hg] at e
    | inr s2 =>
      rw [hg] at e1
      obtain ⟨w8, w9, w10, w11, w12, w13, f1, f2⟩ := goL_ok hc (b := b) (lev := lev) h999 xs s2 (some (.val (rowE x.1))) (some (.val (enc x.2.1))) (some (.val (enc x.2.2))) v11 v12 v13 (fun y hy => hx y (List.mem_cons_of_mem _ hy)) (e2 s2 hg)
      refine ⟨w8, w9, w10, w11, w12, w13, ?_, fun s' e => f2 s' (by simpa [Cfg.goL, hg] using e)⟩
      rw [hf, e1]
      simp only [m_seqN, f1, Cfg.goL, hg]
theorem strOk_wds {w : Str} (h : w ∈ WDS) : PyData.strOk w = true := by
  simp only [WDS, List.mem_cons, List.not_mem_nil, or_false] at h
  rcases h with rfl | rfl | rfl <;> decide +kernel
theorem canLay_row : ∀ row : Row, (∀ d ∈ row, d.1 ∈ WDS) → PyData.canLayAll0 (dds row) = true
  | [], _ => by simp [dds, PyData.canLayAll0]
  | d :: row, h => by
    have ih := canLay_row row fun x hx => h x (List.mem_cons_of_mem _ hx)
    simp only [dds] at ih
    simp [dds, ded, PyData.canLayAll0, PyData.canLay0, strOk_wds (h d List.mem_cons_self)]
    simpa [ded] using ih
theorem canLay_lev : ∀ lev : List (Row × PT), (∀ x ∈ lev, ∀ d ∈ x.1, d.1 ∈ WDS) → PyData.canLayAll0 (lev.map levE) = true
  | [], _ => by simp [PyData.canLayAll0]
  | x :: lev, h => by
    have ih := canLay_lev lev fun y hy => h y (List.mem_cons_of_mem _ hy)
    have h1 := canLay_row x.1 (h x List.mem_cons_self)
    simp [levE, rowE, PyData.canLayAll0, PyData.canLay0, canLay_enc, h1, -tup_enc, -tup_encP]
    simpa [levE, rowE] using ih
abbrev CP : FE := o2 dNeE (fVar 5) (fLst a0)
abbrev LP : FS := sSeq (sSetF 7 (lF a0)) (sSeq (sFor (iL (fVar 5)) (gT (gsC (gN 8) (gsC (gN 9) (gsC (gN 10) gs0)))) BL) (sFrz 7 (sSet 5 (fVar 7))))
abbrev EQ (c : Cfg) (b : Bool) (lev : List (Row × PT)) (seen : List PT) (u7 u8 u9 u10 u11 u12 u13 : Option EV) : PEnv :=
  [some (.val c.r1), some (.val c.r2), some (.val (ldE c.m c.most c.ws)), some (.val (.bool b)), some (.val (encP (.nil, .nil))), some (.val (.list (lev.map levE))), some (.dct (seenE seen)), u7, u8, u9, u10, u11, u12, u13]
theorem goW_ok {c : Cfg} (hc : c.Ok) {b : Bool} : ∀ (n i : Nat) (lev : List (Row × PT)) (seen : List PT) (u7 u8 u9 u10 u11 u12 u13 : Option EV), i + n = 400 → (∀ x ∈ lev, PGood c.m x.2 ∧ x.1.length = i ∧ ∀ d ∈ x.1, d.1 ∈ WDS) → seen.Nodup → (∀ p ∈ seen, PGood c.m p) → 1 ≤ n → (lev ≠ [] → 225 + 2 ≤ n + seen.length) →
    ∃ o, c.goW b n lev seen = some o ∧ match o with
      | none => ∃ ρ, whileF CP LP n (EQ c b lev seen u7 u8 u9 u10 u11 u12 u13) = some (.nx ρ)
      | some r => whileF CP LP n (EQ c b lev seen u7 u8 u9 u10 u11 u12 u13) = some (.rt (rowE r))
  | 0, _, _, _, _, _, _, _, _, _, _, _, _, _, _, h, _ => by omega
  | n + 1, i, lev, seen, u7, u8, u9, u10, u11, u12, u13, hi, hx, hnd, hgd, _, hfu => by
    have hcl := canLay_lev lev fun x hx' => (hx x hx').2.2
    have hcond : CP (EQ c b lev seen u7 u8 u9 u10 u11 u12 u13) = some (.bool (!lev.isEmpty)) := by
      simp only [CP, EQ, m_o2, m_fVarS, m_fVar0, m_fLst, m_a0, Option.bind_some]
      simp [dNeE, isE, hcl]
    cases lev with
    | nil =>
      refine ⟨none, by simp [Cfg.goW], ⟨EQ c b [] seen u7 u8 u9 u10 u11 u12 u13, ?_⟩⟩
      rw [m_while, hcond]
      rfl
    | cons x0 xs0 =>
      generalize hlev : x0 :: xs0 = lev at *
      have hne : lev.isEmpty = false := by rw [← hlev]; rfl
      have hne2 : lev ≠ [] := by rw [← hlev]; simp
      have hfu := hfu hne2
      have h0 : Inv c (i + 1) seen.length (seen, []) := ⟨hnd, hgd, fun x (hx : x ∈ []) => by simp at hx, by simp⟩
      have hl0 : seen.length ≤ 225 := h0.len hc
      obtain ⟨v8, v9, v10, v11, v12, v13, e1, e2⟩ := goL_ok hc (b := b) (lev := .list (lev.map levE)) (n := i) (by omega) lev (seen, []) u8 u9 u10 u11 u12 u13 hx h0
      have hbody : LP (EQ c b lev seen u7 u8 u9 u10 u11 u12 u13) = seqK (forF (gT (gsC (gN 8) (gsC (gN 9) (gsC (gN 10) gs0)))) BL (lev.map levE) (EP c b (.list (lev.map levE)) (seen, []) u8 u9 u10 u11 u12 u13)) (sFrz 7 (sSet 5 (fVar 7))) := by
        simp only [LP, m_seq, EQ, sSetF, lF, m_a0, Option.map_some, Option.bind_some, List.set_cons_succ, List.set_cons_zero, m_seqN, m_for]
        rw [m_iL (ds := lev.map levE) (by simp only [m_fVarS, m_fVar0])]
        rfl
      have hw : whileF CP LP (n + 1) (EQ c b lev seen u7 u8 u9 u10 u11 u12 u13) = seqK (seqK (forF (gT (gsC (gN 8) (gsC (gN 9) (gsC (gN 10) gs0)))) BL (lev.map levE) (EP c b (.list (lev.map levE)) (seen, []) u8 u9 u10 u11 u12 u13)) (sFrz 7 (sSet 5 (fVar 7)))) (whileF CP LP n) := by
        rw [m_while, hcond, hne]
        show sSeq LP (whileF CP LP n) _ = _
        rw [m_seq, hbody]
      cases hg : c.goL b lev (seen, []) with
      | inl r =>
        rw [hg] at e1
        refine ⟨some r, by simp [Cfg.goW, hne, hg], ?_⟩
        show whileF CP LP (n + 1) _ = _
        rw [hw, e1]
        rfl
      | inr s' =>
        rw [hg] at e1
        have hs' := e2 s' hg
        obtain ⟨o, f1, f2⟩ := goW_ok hc (b := b) n (i + 1) s'.2 s'.1 (some (.val (.list (s'.2.map levE)))) v8 v9 v10 v11 v12 v13 (by omega) hs'.later hs'.nd hs'.good (by omega) (fun hz => by
          have h1 := hs'.less
          have h2 := List.length_pos_iff.mpr hz
          omega)
        have hstep : seqK (seqK (forF (gT (gsC (gN 8) (gsC (gN 9) (gsC (gN 10) gs0)))) BL (lev.map levE) (EP c b (.list (lev.map levE)) (seen, []) u8 u9 u10 u11 u12 u13)) (sFrz 7 (sSet 5 (fVar 7)))) (whileF CP LP n) = whileF CP LP n (EQ c b s'.2 s'.1 (some (.val (.list (s'.2.map levE)))) v8 v9 v10 v11 v12 v13) := by
          rw [e1]
          rfl
        refine ⟨o, by simp [Cfg.goW, hne, hg, f1], ?_⟩
        rw [hw, hstep]
        exact f2
end L3

/-! M11: what the search finds. -/
namespace L3
open PySem PySem.Spec PyProof.Rows L2

abbrev P0 : PT := (.nil, .nil)
noncomputable def Cfg.find (c : Cfg) (b : Bool) : Option (Option Row) := c.goW b 400 [([], P0)] [P0]
theorem F_parted_eq {c : Cfg} (hc : c.Ok) (b : Bool) : ∃ o, c.find b = some o ∧ F_parted [c.r1, c.r2, ldE c.m c.most c.ws, .bool b, encP P0] = some (match o with | none => .none | some r => rowE r) := by
  obtain ⟨o, h1, h2⟩ := goW_ok hc (b := b) 400 0 [([], P0)] [P0] none none none none none none none rfl (fun x hx => by
    rw [List.mem_singleton.mp hx]
    exact ⟨pgood_nil _, rfl, fun d hd => by cases hd⟩) (by simp) (fun p hp => by rw [List.mem_singleton.mp hp]; exact pgood_nil _) (by decide) (fun _ => by simp)
  refine ⟨o, h1, ?_⟩
  have hp0 : ∀ (a b c d e f g h i j : Option EV), sPar2 5 6 (fsC (vF (fLst (ac (fTup (ac (fLst a0) (ac (o2 dIdx (fVar 4) (fC (.int 0))) (ac (o2 dIdx (fVar 4) (fC (.int 1))) a0)))) a0))) (fsC (dF1 (fVar 4) (fC (.bool true))) fs0))
      [a, b, c, d, some (.val (encP P0)), e, f, g, h, i, j, none, none, none] = some (.nx [a, b, c, d, some (.val (encP P0)), some (.val (.list [levE ([], P0)])), some (.dct (seenE [P0])), g, h, i, j, none, none, none]) := by
    intro a b c d e f g h i j
    have hk : keyTop (encP P0) = true := (pgood_nil 3).key
    simp [sPar2, fsC, vF, dF1, fs0, hk]
    exact ⟨rfl, rfl⟩
  have hB : B_parted = sSeq (sPar2 5 6 (fsC (vF (fLst (ac (fTup (ac (fLst a0) (ac (o2 dIdx (fVar 4) (fC (.int 0))) (ac (o2 dIdx (fVar 4) (fC (.int 1))) a0)))) a0))) (fsC (dF1 (fVar 4) (fC (.bool true))) fs0))) (sSeq (whileF CP LP 400) (sRet (fC .none))) := rfl
  show endOf (B_parted _) = _
  rw [hB, m_seq]
  simp only [m_start5, startE, List.map_cons, List.map_nil, List.replicate, List.cons_append, List.nil_append, List.length_cons, List.length_nil, Nat.reduceAdd, Nat.reduceSub]
  rw [hp0, m_seqN, m_seq]
  cases o with
  | none =>
    obtain ⟨ρ, h2⟩ := h2
    simp only [EQ, List.map_cons, List.map_nil] at h2
    rw [h2]
    rfl
  | some r =>
    have h2 : whileF CP LP 400 _ = _ := h2
    simp only [EQ, List.map_cons, List.map_nil] at h2
    rw [h2]
    rfl
theorem F_need_two_ok {c : Cfg} (hc : c.Ok) : F_need_two [c.r1, c.r2, ldE c.m c.most c.ws] = some .none := by
  simp [F_need_two, B_need_two, sDrop, F_need_rule_ok hc.one, F_need_rule_ok hc.other, F_need_load_ok hc.ld (j := 5) (by decide)]
theorem F_parting_row_eq {c : Cfg} (hc : c.Ok) : ∃ o, c.find false = some o ∧ F_parting_row [c.r1, c.r2, ldE c.m c.most c.ws] = some (match o with | none => .none | some r => rowE r) := by
  obtain ⟨o, h1, h2⟩ := F_parted_eq hc false
  refine ⟨o, h1, ?_⟩
  have he : PyData.tuple [.tuple [], .tuple []] = encP P0 := rfl
  simp [F_parting_row, B_parting_row, sDrop, F_need_two_ok hc, he, h2]
theorem F_costing_row_eq {c : Cfg} (hc : c.Ok) : ∃ o, c.find true = some o ∧ F_costing_row [c.r1, c.r2, ldE c.m c.most c.ws] = some (match o with | none => .none | some r => rowE r) := by
  obtain ⟨o, h1, h2⟩ := F_parted_eq hc true
  refine ⟨o, h1, ?_⟩
  have he : PyData.tuple [.tuple [], .tuple []] = encP P0 := rfl
  simp [F_costing_row, B_costing_row, sDrop, F_need_two_ok hc, he, h2]
/-! ### what is reached -/
inductive Reach (c : Cfg) : Nat → PT → Prop
  | start : Reach c 0 P0
  | step {n : Nat} {p : PT} {d : Str × Int} : Reach c n p → d ∈ c.dsp p → Reach c (n + 1) (c.st p d)
theorem Reach.good {c : Cfg} (hc : c.Ok) {n : Nat} {p : PT} (h : Reach c n p) : PGood c.m p := by
  induction h with
  | start => exact pgood_nil _
  | step h hd ih => exact (stp_ok hc.one hc.other hc.ld ih hd).2.2.1
def Done (c : Cfg) (b : Bool) (seen : List PT) (p : PT) : Prop := ∀ d ∈ c.dsp p, c.chk b p d = false ∧ c.st p d ∈ seen
theorem Done.mono {c : Cfg} {b : Bool} {s s' : List PT} {p : PT} (h : Done c b s p) (m : ∀ q ∈ s, q ∈ s') : Done c b s' p := fun d hd => ⟨(h d hd).1, m _ (h d hd).2⟩
/-- what one item of a level leaves -/
theorem goD_law {c : Cfg} {b : Bool} {row : Row} {p : PT} : ∀ (ds : Row) (s : List PT × List (Row × PT)), match c.goD b row p ds s with
    | .inl r => ∃ d ∈ ds, c.chk b p d = true ∧ r = row ++ [d]
    | .inr s' => (∀ q ∈ s.1, q ∈ s'.1) ∧ (∀ d ∈ ds, c.chk b p d = false ∧ c.st p d ∈ s'.1) ∧ (∀ q ∈ s'.1, q ∈ s.1 ∨ ∃ x ∈ s'.2, x.2 = q) ∧ (∀ x ∈ s.2, x ∈ s'.2) ∧ ∀ x ∈ s'.2, x ∈ s.2 ∨ ∃ d ∈ ds, x = (row ++ [d], c.st p d)
  | [], s => ⟨fun _ h => h, fun _ h => by simp at h, fun q h => .inl h, fun _ h => h, fun _ h => .inl h⟩
  | d :: ds, s => by
    unfold Cfg.goD
    by_cases hck : c.chk b p d = true
    · rw [if_pos hck]
      exact ⟨d, List.mem_cons_self, hck, rfl⟩
    · rw [if_neg hck]
      have hck : c.chk b p d = false := by simpa using hck
      by_cases hm : c.st p d ∈ s.1
      · rw [if_pos hm]
        have ih := goD_law (c := c) (b := b) (row := row) (p := p) ds s
        cases hg : c.goD b row p ds s with
        | inl r =>
          rw [hg] at ih
          obtain ⟨e, h1, h2⟩ := ih
          exact ⟨e, List.mem_cons_of_mem _ h1, h2⟩
        | inr s' =>
          rw [hg] at ih
          obtain ⟨i1, i2, i3, i4, i5⟩ := ih
          refine ⟨i1, fun e he => ?_, i3, i4, fun x hx => ?_⟩
          · rcases List.mem_cons.mp he with rfl | he
            · exact ⟨hck, i1 _ hm⟩
            · exact i2 e he
          · rcases i5 x hx with h | ⟨e, h1, h2⟩
            · exact .inl h
            · exact .inr ⟨e, List.mem_cons_of_mem _ h1, h2⟩
      · rw [if_neg hm]
        have ih := goD_law (c := c) (b := b) (row := row) (p := p) ds (s.1 ++ [c.st p d], s.2 ++ [(row ++ [d], c.st p d)])
        cases hg : c.goD b row p ds (s.1 ++ [c.st p d], s.2 ++ [(row ++ [d], c.st p d)]) with
        | inl r =>
          rw [hg] at ih
          obtain ⟨e, h1, h2⟩ := ih
          exact ⟨e, List.mem_cons_of_mem _ h1, h2⟩
        | inr s' =>
          rw [hg] at ih
          obtain ⟨i1, i2, i3, i4, i5⟩ := ih
          refine ⟨fun q hq => i1 q (List.mem_append_left _ hq), fun e he => ?_, fun q hq => ?_, fun x hx => i4 x (List.mem_append_left _ hx), fun x hx => ?_⟩
          · rcases List.mem_cons.mp he with rfl | he
            · exact ⟨hck, i1 _ (List.mem_append_right _ (List.mem_singleton.mpr rfl))⟩
            · exact i2 e he
          · rcases i3 q hq with h | h
            · rcases List.mem_append.mp h with h | h
              · exact .inl h
              · rw [List.mem_singleton.mp h]
                exact .inr ⟨_, i4 _ (List.mem_append_right _ (List.mem_singleton.mpr rfl)), rfl⟩
            · exact .inr h
          · rcases i5 x hx with h | ⟨e, h1, h2⟩
            · rcases List.mem_append.mp h with h | h
              · exact .inl h
              · exact .inr ⟨d, List.mem_cons_self, List.mem_singleton.mp h⟩
            · exact .inr ⟨e, List.mem_cons_of_mem _ h1, h2⟩
theorem goL_law {c : Cfg} {b : Bool} : ∀ (xs : List (Row × PT)) (s : List PT × List (Row × PT)), match c.goL b xs s with
    | .inl r => ∃ x ∈ xs, ∃ d ∈ c.dsp x.2, c.chk b x.2 d = true ∧ r = x.1 ++ [d]
    | .inr s' => (∀ q ∈ s.1, q ∈ s'.1) ∧ (∀ x ∈ xs, Done c b s'.1 x.2) ∧ (∀ q ∈ s'.1, q ∈ s.1 ∨ ∃ x ∈ s'.2, x.2 = q) ∧ (∀ x ∈ s.2, x ∈ s'.2) ∧ ∀ y ∈ s'.2, y ∈ s.2 ∨ ∃ x ∈ xs, ∃ d ∈ c.dsp x.2, y = (x.1 ++ [d], c.st x.2 d)
  | [], s => ⟨fun _ h => h, fun _ h => by simp at h, fun q h => .inl h, fun _ h => h, fun _ h => .inl h⟩
  | x :: xs, s => by
    have h1 := goD_law (c := c) (b := b) (row := x.1) (p := x.2) (c.dsp x.2) s
    unfold Cfg.goL
    cases hg : c.goD b x.1 x.2 (c.dsp x.2) s with
    | inl r =>
      rw [hg] at h1
      obtain ⟨d, a1, a2, a3⟩ := h1
      exact ⟨x, List.mem_cons_self, d, a1, a2, a3⟩
    | inr s1 =>
      rw [hg] at h1
      obtain ⟨j1, j2, j3, j4, j5⟩ := h1
      have ih := goL_law (c := c) (b := b) xs s1
      show match c.goL b xs s1 with | .inl r => _ | .inr s' => _
      cases hl : c.goL b xs s1 with
      | inl r =>
        rw [hl] at ih
        obtain ⟨y, a1, a2⟩ := ih
        exact ⟨y, List.mem_cons_of_mem _ a1, a2⟩
      | inr s' =>
        rw [hl] at ih
        obtain ⟨i1, i2, i3, i4, i5⟩ := ih
        refine ⟨fun q hq => i1 q (j1 q hq), fun y hy => ?_, fun q hq => ?_, fun y hy => i4 y (j4 y hy), fun y hy => ?_⟩
        · rcases List.mem_cons.mp hy with rfl | hy
          · exact Done.mono (b := b) j2 i1
          · exact i2 y hy
        · rcases i3 q hq with h | h
          · rcases j3 q h with h | ⟨y, h2, h3⟩
            · exact .inl h
            · exact .inr ⟨y, i4 y h2, h3⟩
          · exact .inr h
        · rcases i5 y hy with h | ⟨z, h2, h3⟩
          · rcases j5 y h with h | ⟨d, h2, h3⟩
            · exact .inl h
            · exact .inr ⟨x, List.mem_cons_self, d, h2, h3⟩
          · exact .inr ⟨z, List.mem_cons_of_mem _ h2, h3⟩
/-- what stands between two levels -/
structure Lev (c : Cfg) (b : Bool) (i : Nat) (lev : List (Row × PT)) (seen : List PT) : Prop where
  way : ∀ x ∈ lev, Reach c i x.2 ∧ x.1.length = i
  before : ∀ j p, j < i → Reach c j p → Done c b seen p
  all : ∀ p ∈ seen, (∃ x ∈ lev, x.2 = p) ∨ Done c b seen p
  now : ∀ p, Reach c i p → p ∈ seen
  start : P0 ∈ seen
theorem goW_law {c : Cfg} {b : Bool} : ∀ (n i : Nat) (lev : List (Row × PT)) (seen : List PT), Lev c b i lev seen → match c.goW b n lev seen with
    | none => True
    | some none => ∀ j p, Reach c j p → ∀ d ∈ c.dsp p, c.chk b p d = false
    | some (some r) => ∃ i' p d, r.length = i' + 1 ∧ Reach c i' p ∧ d ∈ c.dsp p ∧ c.chk b p d = true ∧ ∀ j q, j < i' → Reach c j q → ∀ e ∈ c.dsp q, c.chk b q e = false
  | 0, _, _, _, _ => trivial
  | n + 1, i, lev, seen, hl => by
    unfold Cfg.goW
    cases lev with
    | nil =>
      have hd : ∀ p ∈ seen, Done c b seen p := fun p hp => by
        rcases hl.all p hp with ⟨x, hx, _⟩ | h
        · simp at hx
        · exact h
      have hr : ∀ j p, Reach c j p → p ∈ seen := by
        intro j p h
        induction h with
        | start => exact hl.start
        | step h hd' ih => exact (hd _ ih _ hd').2
      exact fun j p h d hd' => (hd p (hr j p h) d hd').1
    | cons x0 xs0 =>
      generalize hlev : x0 :: xs0 = lev at *
      have hne : ¬ (lev.isEmpty = true) := by rw [← hlev]; simp
      rw [if_neg hne]
      have h1 := goL_law (c := c) (b := b) lev (seen, [])
      cases hg : c.goL b lev (seen, []) with
      | inl r =>
        rw [hg] at h1
        obtain ⟨x, a1, d, a2, a3, a4⟩ := h1
        obtain ⟨w1, w2⟩ := hl.way x a1
        refine ⟨i, x.2, d, by rw [a4]; simp [w2], w1, a2, a3, fun j q hj hq e he => (hl.before j q hj hq e he).1⟩
      | inr s' =>
        rw [hg] at h1
        obtain ⟨i1, i2, i3, i4, i5⟩ := h1
        have hdone : ∀ j p, j < i + 1 → Reach c j p → Done c b s'.1 p := fun j p hj hp => by
          by_cases hji : j < i
          · exact (hl.before j p hji hp).mono i1
          · have : j = i := by omega
            subst this
            rcases hl.all p (hl.now p hp) with ⟨x, hx, rfl⟩ | h
            · exact i2 x hx
            · exact h.mono i1
        refine goW_law (c := c) (b := b) n (i + 1) s'.2 s'.1 ⟨fun y hy => ?_, hdone, fun p hp => ?_, fun p hp => ?_, i1 _ hl.start⟩
        · rcases i5 y hy with h | ⟨x, hx, d, hd, rfl⟩
          · simp at h
          · obtain ⟨w1, w2⟩ := hl.way x hx
            exact ⟨.step w1 hd, by simp [w2]⟩
        · rcases i3 p hp with h | h
          · rcases hl.all p h with ⟨x, hx, rfl⟩ | h
            · exact .inr (i2 x hx)
            · exact .inr (h.mono i1)
          · exact .inl h
        · cases hp with
          | step h hd => exact (hdone i _ (by omega) h _ hd).2
theorem lev0 (c : Cfg) (b : Bool) : Lev c b 0 [([], P0)] [P0] := by
  refine ⟨fun x hx => ?_, fun j p h => by omega, fun p hp => .inl ⟨_, List.mem_singleton.mpr rfl, (List.mem_singleton.mp hp).symm⟩, fun p hp => ?_, List.mem_singleton.mpr rfl⟩
  · rw [List.mem_singleton.mp hx]
    exact ⟨.start, rfl⟩
  · cases hp
    exact List.mem_singleton.mpr rfl
theorem find_none {c : Cfg} {b : Bool} (h : c.find b = some none) : ∀ j p, Reach c j p → ∀ d ∈ c.dsp p, c.chk b p d = false := by
  have := goW_law (c := c) (b := b) 400 0 _ _ (lev0 c b)
  rw [show c.goW b 400 [([], P0)] [P0] = _ from h] at this
  exact this
theorem find_some {c : Cfg} {b : Bool} {r : Row} (h : c.find b = some (some r)) : ∃ i p d, r.length = i + 1 ∧ Reach c i p ∧ d ∈ c.dsp p ∧ c.chk b p d = true ∧ ∀ j q, j < i → Reach c j q → ∀ e ∈ c.dsp q, c.chk b q e = false := by
  have := goW_law (c := c) (b := b) 400 0 _ _ (lev0 c b)
  rw [show c.goW b 400 [([], P0)] [P0] = _ from h] at this
  exact this
/-- where no row parts two rules, no costs are unlike -/
theorem equal_of_false {c : Cfg} (h : ∀ j p, Reach c j p → ∀ d ∈ c.dsp p, c.chk false p d = false) : ∀ j p, Reach c j p → p.1 = p.2 := by
  intro j p hp
  cases hp with
  | start => rfl
  | step hq hd =>
    have := h _ _ hq _ hd
    simpa [Cfg.chk] using this
theorem parting_costing {c : Cfg} (h : c.find false = some none) {r : Row} : c.find true ≠ some (some r) := by
  intro h2
  obtain ⟨i, p, d, _, hp, hd, hck, _⟩ := find_some h2
  have := equal_of_false (find_none h) i p hp
  rw [Cfg.chk, if_pos rfl, this] at hck
  simp at hck
theorem parting_shorter {c : Cfg} {r : Row} (h : c.find true = some (some r)) {o : Option Row} (ho : c.find false = some o) : ∃ r', o = some r' ∧ r'.length < r.length := by
  cases o with
  | none => exact absurd h (parting_costing ho)
  | some r' =>
    refine ⟨r', rfl, ?_⟩
    obtain ⟨i, p, d, hl, hp, hd, hck, _⟩ := find_some h
    obtain ⟨i', p', d', hl', hp', hd', hck', hmin⟩ := find_some ho
    have hne : p.1 ≠ p.2 := fun e => by
      rw [Cfg.chk, if_pos rfl, e] at hck
      simp at hck
    cases hp with
    | start => exact absurd rfl hne
    | @step n q e hq he =>
      have : ¬ n < i' := fun hlt => by
        have := hmin n q hlt hq e he
        simp [Cfg.chk] at this
        exact hne this
      omega
end L3

/-! M12: the graph of pairs. -/
namespace L3
open PySem PySem.Spec PyProof.Rows L2

noncomputable def stepE (c : Cfg) (p : PT) (d : Str × Int) : PyData := .tuple [ded d.1 d.2, encP (c.st p d), .int (cst p.1 d.1 d.2 - cst p.2 d.1 d.2)]
noncomputable def stepsE (c : Cfg) (p : PT) : PyData := .list ((c.dsp p).map (stepE c p))
noncomputable def graphE (c : Cfg) (gs : List PT) : List (PyData × PyData) := gs.map fun p => (encP p, stepsE c p)
theorem graphE_eq (c : Cfg) (gs : List PT) : graphE c gs = mapE (stepsE c) (gs.map fun p => (p, p)) := by simp [graphE, mapE]
theorem graph_in {c : Cfg} {q : PT} {gs : List PT} : (dGet (graphE c gs) (encP q)).isSome = decide (q ∈ gs) := by
  rw [graphE_eq, get_some]
  simp
theorem graph_put {c : Cfg} {q : PT} {gs : List PT} (h : q ∉ gs) : dPut (graphE c gs) (encP q) (stepsE c q) = graphE c (gs ++ [q]) := by
  have := put_new (stepsE c) (q := q) (a := q) (xs := gs.map fun p => (p, p)) (by simpa using h)
  rw [graphE_eq, this, graphE_eq, List.map_append]
  rfl
theorem graph_get {c : Cfg} {q : PT} {gs : List PT} (h : q ∈ gs) : dGet (graphE c gs) (encP q) = some (stepsE c q) := by
  rw [graphE_eq, find_mapE]
  have : ∀ l : List PT, q ∈ l → (l.map fun p => (p, p)).find? (fun x => decide (x.1 = q)) = some (q, q) := by
    intro l
    induction l with
    | nil => intro h; simp at h
    | cons a l ih =>
      intro h
      simp only [List.map_cons, List.find?_cons]
      by_cases e : a = q
      · simp [e]
      · simp only [e, decide_false]
        rcases List.mem_cons.mp h with rfl | h
        · exact absurd rfl e
        · exact ih h
  rw [this gs h]
  rfl
theorem flat_len {α β : Type} (f : α → List β) (n : Nat) : ∀ l : List α, (∀ a ∈ l, (f a).length ≤ n) → (l.flatMap f).length ≤ l.length * n
  | [], _ => by simp
  | a :: l, h => by
    have h1 := h a List.mem_cons_self
    have h2 := flat_len f n l fun x hx => h x (List.mem_cons_of_mem _ hx)
    simp only [List.flatMap_cons, List.length_append, List.length_cons, Nat.add_mul, Nat.one_mul]
    omega
theorem WsOk.len {ws : List Str} (h : WsOk ws) : ws.length ≤ 3 := by cases h <;> decide
theorem dsp_len {c : Cfg} (hc : c.Ok) (p : PT) : (c.dsp p).length ≤ 9 := by
  have h1 : c.ws.length ≤ 3 := hc.ld.words.len
  have h3 := hc.ld.three
  have := flat_len (fun w => deedsW c.most p.1.keys w (rngI c.m)) 3 c.ws fun w _ => by
    have h4 := deedsW_len c.most p.1.keys w (rngI c.m)
    have h5 := rngI_len (m := c.m)
    omega
  have h6 : c.ws.length * 3 ≤ 9 := by omega
  exact Nat.le_trans this h6
noncomputable abbrev EG (c : Cfg) (gs left : List PT) (u5 u6 u7 u8 u9 : Option EV) : PEnv :=
  [some (.val c.r1), some (.val c.r2), some (.val (ldE c.m c.most c.ws)), some (.dct (graphE c gs)), some (.lst (left.map encP)), u5, u6, u7, u8, u9]
abbrev BG : FS := (sSeq (sSet 8 (fTup (ac (oA F_behind (ac (fVar 0) (ac (o2 dIdx (fVar 5) (fC (.int 0))) (ac (fVar 7) a0)))) (ac (oA F_behind (ac (fVar 1) (ac (o2 dIdx (fVar 5) (fC (.int 1))) (ac (fVar 7) a0)))) a0))))
  (sApp 6 (fTup (ac (fVar 7) (ac (fVar 8) (ac (o2 dSub (oA F_cost_of (ac (o2 dIdx (fVar 5) (fC (.int 0))) (ac (fVar 7) a0))) (oA F_cost_of (ac (o2 dIdx (fVar 5) (fC (.int 1))) (ac (fVar 7) a0)))) a0))))))
theorem bg_for {c : Cfg} (hc : c.Ok) {p : PT} (g : PGood c.m p) {gs left : List PT} {u9 : Option EV} : ∀ (ds : Row) (acc : List PyData) (u7 u8 : Option EV), (∀ d ∈ ds, d ∈ c.dsp p) → acc.length + ds.length ≤ 100 →
    ∃ u7' u8', forF (gN 7) BG (dds ds) (EG c gs left (some (.val (encP p))) (some (.lst acc)) u7 u8 u9) = some (.nx (EG c gs left (some (.val (encP p))) (some (.lst (acc ++ ds.map (stepE c p)))) u7' u8' u9))
  | [], acc, u7, u8, _, _ => ⟨u7, u8, by simp [dds]⟩
  | d :: ds, acc, u7, u8, hd, hl => by
    simp only [List.length_cons] at hl
    obtain ⟨e1, e2, g2, _⟩ := stp_ok hc.one hc.other hc.ld g (hd d List.mem_cons_self)
    have q1 := F_cost_of_eq (t := p.1) (by have := g.one.ht; omega) d.1 d.2
    have q2 := F_cost_of_eq (t := p.2) (by have := g.other.ht; omega) d.1 d.2
    have e1' : F_behind [c.r1, enc p.1, ded d.1 d.2] = some (enc (c.st p d).1) := e1
    have e2' : F_behind [c.r2, enc p.2, ded d.1 d.2] = some (enc (c.st p d).2) := e2
    have hE : encP ((c.st p d).1, (c.st p d).2) = encP (c.st p d) := rfl
    obtain ⟨u7', u8', f1⟩ := bg_for hc g (gs := gs) (left := left) (u9 := u9) ds (acc ++ [stepE c p d]) (some (.val (ded d.1 d.2))) (some (.val (encP (c.st p d)))) (fun x hx => hd x (List.mem_cons_of_mem _ hx)) (by simp; omega)
    refine ⟨u7', u8', ?_⟩
    have ha := m_app (i := 6) (f := fTup (ac (fVar 7) (ac (fVar 8) (ac (o2 dSub (oA F_cost_of (ac (o2 dIdx (fVar 5) (fC (.int 0))) (ac (fVar 7) a0))) (oA F_cost_of (ac (o2 dIdx (fVar 5) (fC (.int 1))) (ac (fVar 7) a0)))) a0)))) (ρ := EG c gs left (some (.val (encP p))) (some (.lst acc)) (some (.val (ded d.1 d.2))) (some (.val (encP (c.st p d)))) u9) (ds := acc) (by simp) (by omega)
    simp only [EG, m_fTup, m_ac, m_fVarS, m_fVar0, m_a0, m_o2, m_oA, m_fC, idx_p0, idx_p1, Option.bind_some, q1, q2, m_subI, List.set_cons_succ, List.set_cons_zero] at ha
    simp only [dds, List.map_cons, for_cons, m_gN, Option.bind_some, EG, List.set_cons_succ, List.set_cons_zero, BG, m_seq, m_sSet, m_fTup, m_ac, m_oA, m_o2, m_fVarS, m_fVar0, m_fC, m_a0, idx_p0, idx_p1, e1', e2', tup_encP, hE, m_seqN, ha]
    simp only [EG, dds, stepE, cst, List.append_assoc, List.cons_append, List.nil_append, BG] at f1 ⊢
    exact f1
abbrev CG : FE := fThaw 4 (o2 dNeE (fVar 4) (fLst a0))
abbrev LG : FS := (sSeq (sPop 5 4)
  (sIf (fOIn true 3 (fVar 5)) (sSeq (sSetF 6 (lF a0))
  (sSeq (sFor (iL (oA F_deeds_at (ac (fVar 2) (ac (o2 dIdx (fVar 5) (fC (.int 0))) a0)))) (gN 7) BG)
  (sSeq (sFrz 6 (sPut 3 (fVar 5) (fVar 6)))
  (sExt 4 (fComp [9] (iL (fVar 6)) (gN 9) (fC (.bool true)) (o2 dIdx (fVar 9) (fC (.int 1)))))))) sNext))
theorem canLay_ps : ∀ l : List PT, PyData.canLayAll0 (l.map encP) = true
  | [] => by simp [PyData.canLayAll0]
  | p :: l => by
    have := canLay_ps l
    simp [encP, PyData.canLayAll0, PyData.canLay0, canLay_enc, -tup_encP]
    simpa [encP] using this
theorem cg_eq {c : Cfg} {gs left : List PT} {u5 u6 u7 u8 u9 : Option EV} : CG (EG c gs left u5 u6 u7 u8 u9) = some (.bool (!left.isEmpty)) := by
  have := canLay_ps left
  simp [CG, fThaw, dNeE, isE, this, flat1, ← lst_nil, iL0]
theorem lg_eq {c : Cfg} (hc : c.Ok) {gs l : List PT} {p : PT} (g : PGood c.m p) (hgs : gs.length ≤ 300) (hl : l.length ≤ 5000) (u5 u6 u7 u8 u9 : Option EV) :
    ∃ u5' u6' u7' u8' u9', LG (EG c gs (l ++ [p]) u5 u6 u7 u8 u9) = some (.nx (if p ∈ gs then EG c gs l u5' u6' u7' u8' u9' else EG c (gs ++ [p]) (l ++ (c.dsp p).map (c.st p)) u5' u6' u7' u8' u9')) := by
  have hpop : sPop 5 4 (EG c gs (l ++ [p]) u5 u6 u7 u8 u9) = some (.nx (EG c gs l (some (.val (encP p))) u6 u7 u8 u9)) := by
    have h1 : (List.map encP (l ++ [p]))[(List.map encP (l ++ [p])).length - 1]? = some (encP p) := by simp
    have h2 : (List.map encP (l ++ [p])).dropLast = l.map encP := by simp
    simp only [sPop, EG, List.getElem?_cons_succ, List.getElem?_cons_zero, h1, h2, Option.bind_some, List.set_cons_succ, List.set_cons_zero]
  have hin : fOIn true 3 (fVar 5) (EG c gs l (some (.val (encP p))) u6 u7 u8 u9) = some (.bool (!decide (p ∈ gs))) := by
    have h1 : dInD true (encP p) (.dict (graphE c gs)) = some (.bool (!decide (p ∈ gs))) := by
      show (if keyTop (encP p) then _ else _) = _
      rw [g.key, if_pos rfl, graph_in]
      rfl
    simp [fOIn, h1]
  by_cases hm : p ∈ gs
  · refine ⟨some (.val (encP p)), u6, u7, u8, u9, ?_⟩
    simp only [LG, m_seq, hpop, m_seqN, m_sIf, hin, hm, decide_true, Bool.not_true, m_sIfF, m_sNext, if_true]
  · have hd9 := dsp_len hc p
    obtain ⟨u7', u8', f1⟩ := bg_for hc g (gs := gs) (left := l) (u9 := u9) (c.dsp p) [] u7 u8 (fun d h => h) (by simp; omega)
    have hde : F_deeds_at [ldE c.m c.most c.ws, enc p.1] = some (rowE (c.dsp p)) := F_deeds_at_eq hc.ld g.one
    refine ⟨some (.val (encP p)), some (.val (stepsE c p)), u7', u8', u9, ?_⟩
    have hput : sFrz 6 (sPut 3 (fVar 5) (fVar 6)) (EG c gs l (some (.val (encP p))) (some (.lst ((c.dsp p).map (stepE c p)))) u7' u8' u9) = some (.nx (EG c (gs ++ [p]) l (some (.val (encP p))) (some (.val (stepsE c p))) u7' u8' u9)) := by
      have hk := g.key
      have hsz : (graphE c gs).length < 100000 := by simp [graphE]; omega
      have hp : dPut (graphE c gs) (encP p) (.list ((c.dsp p).map (stepE c p))) = graphE c (gs ++ [p]) := graph_put hm
      simp [sFrz, frzE, sPut, hk, hsz, hp, stepsE]
    have hext : sExt 4 (fComp [9] (iL (fVar 6)) (gN 9) (fC (.bool true)) (o2 dIdx (fVar 9) (fC (.int 1)))) (EG c (gs ++ [p]) l (some (.val (encP p))) (some (.val (stepsE c p))) u7' u8' u9) = some (.nx (EG c (gs ++ [p]) (l ++ (c.dsp p).map (c.st p)) (some (.val (encP p))) (some (.val (stepsE c p))) u7' u8' u9)) := by
      have hcm := comp_map (g := gN 9) (ft := fC (.bool true)) (fe := o2 dIdx (fVar 9) (fC (.int 1))) (ρ := EG c (gs ++ [p]) l (some (.val (encP p))) (some (.val (stepsE c p))) u7' u8' none) (stepE c p) (fun _ => true) (fun d => encP (c.st p d)) (c.dsp p) fun d _ => ⟨_, rfl, rfl, fun _ => by simp [stepE]⟩
      have hcomp : fComp [9] (iL (fVar 6)) (gN 9) (fC (.bool true)) (o2 dIdx (fVar 9) (fC (.int 1))) (EG c (gs ++ [p]) l (some (.val (encP p))) (some (.val (stepsE c p))) u7' u8' u9) = some (.list ((c.dsp p).map fun d => encP (c.st p d))) := by
        rw [m_comp, m_iL (ds := (c.dsp p).map (stepE c p)) (by simp [stepsE])]
        simp only [EG, m_wipeC, m_wipe0, List.set_cons_succ, List.set_cons_zero, Option.bind_some] at hcm ⊢
        rw [if_pos (by simp; omega), hcm, filter_t]
        rfl
      unfold sExt
      simp only [EG] at hcomp
      simp only [EG, List.getElem?_cons_succ, List.getElem?_cons_zero, hcomp, Option.bind_some]
      rw [if_pos (by simp; omega)]
      simp
    simp only [LG, m_seq, hpop, m_seqN, m_sIf, hin, hm, decide_false, Bool.not_false, m_sIfT, if_false]
    have hset : sSetF 6 (lF a0) (EG c gs l (some (.val (encP p))) u6 u7 u8 u9) = some (.nx (EG c gs l (some (.val (encP p))) (some (.lst [])) u7 u8 u9)) := by
      simp [sSetF, lF]
    rw [hset, m_seqN]
    have hi : iL (oA F_deeds_at (ac (fVar 2) (ac (o2 dIdx (fVar 5) (fC (.int 0))) a0))) (EG c gs l (some (.val (encP p))) (some (.lst [])) u7 u8 u9) = some (dds (c.dsp p)) := m_iL (by simp only [EG, m_oA, m_ac, m_o2, m_fVarS, m_fVar0, m_fC, m_a0, idx_p0, Option.bind_some, hde]; rfl)
    simp only [m_for, m_seq]
    rw [hi, Option.bind_some, f1, m_seqN, List.nil_append, m_seq, hput, m_seqN, hext]
structure GInv (c : Cfg) (gs left : List PT) : Prop where
  nd : gs.Nodup
  reach : ∀ p ∈ gs, ∃ j, Reach c j p
  lft : ∀ p ∈ left, ∃ j, Reach c j p
  closed : ∀ p ∈ gs, ∀ d ∈ c.dsp p, c.st p d ∈ gs ∨ c.st p d ∈ left
  start : P0 ∈ gs ∨ P0 ∈ left
theorem GInv.len {c : Cfg} (hc : c.Ok) {gs left : List PT} (h : GInv c gs left) : gs.length ≤ 225 := by
  rw [← allP_len]
  exact nodup_len h.nd fun p hp => by
    obtain ⟨j, hj⟩ := h.reach p hp
    exact (hj.good hc).mem hc.ld.three
theorem pg_while {c : Cfg} (hc : c.Ok) : ∀ (n : Nat) (gs left : List PT) (u5 u6 u7 u8 u9 : Option EV), GInv c gs left → n ≤ 4000 → left.length + 10 * (225 - gs.length) < n →
    ∃ gs' u5' u6' u7' u8' u9', whileF CG LG n (EG c gs left u5 u6 u7 u8 u9) = some (.nx (EG c gs' [] u5' u6' u7' u8' u9')) ∧ GInv c gs' []
  | 0, _, _, _, _, _, _, _, _, _, h => by omega
  | n + 1, gs, left, u5, u6, u7, u8, u9, hi, h4, hn => by
    rcases List.eq_nil_or_concat left with rfl | ⟨l, p, rfl⟩
    · exact ⟨gs, u5, u6, u7, u8, u9, by rw [m_while, cg_eq]; rfl, hi⟩
    · rw [List.concat_eq_append] at hi hn ⊢
      simp only [List.length_append, List.length_cons, List.length_nil] at hn
      obtain ⟨j, hj⟩ := hi.lft p (by simp)
      have g := hj.good hc
      have hlen := hi.len hc
      have hd9 := dsp_len hc p
      obtain ⟨v5, v6, v7, v8, v9, e1⟩ := lg_eq hc (gs := gs) (l := l) g (by omega) (by omega) u5 u6 u7 u8 u9
      have hw : whileF CG LG (n + 1) (EG c gs (l ++ [p]) u5 u6 u7 u8 u9) = whileF CG LG n (if p ∈ gs then EG c gs l v5 v6 v7 v8 v9 else EG c (gs ++ [p]) (l ++ (c.dsp p).map (c.st p)) v5 v6 v7 v8 v9) := by
        rw [m_while, cg_eq]
        have : (!(l ++ [p]).isEmpty) = true := by simp
        rw [this]
        show sSeq LG (whileF CG LG n) _ = _
        rw [m_seq, e1, m_seqN]
      rw [hw]
      by_cases hm : p ∈ gs
      · rw [if_pos hm]
        exact pg_while hc n gs l v5 v6 v7 v8 v9 ⟨hi.nd, hi.reach, fun q hq => hi.lft q (by simp [hq]), fun q hq d hd => by
          rcases hi.closed q hq d hd with h | h
          · exact .inl h
          · rcases List.mem_append.mp h with h | h
            · exact .inr h
            · rw [List.mem_singleton.mp h]
              exact .inl hm, by
          rcases hi.start with h | h
          · exact .inl h
          · rcases List.mem_append.mp h with h | h
            · exact .inr h
            · rw [List.mem_singleton.mp h]
              exact .inl hm⟩ (by omega) (by omega)
      · rw [if_neg hm]
        have hi2 : GInv c (gs ++ [p]) (l ++ (c.dsp p).map (c.st p)) := by
          refine ⟨List.nodup_append.mpr ⟨hi.nd, by simp, fun a ha b hb => ?_⟩, fun q hq => ?_, fun q hq => ?_, fun q hq d hd => ?_, ?_⟩
          · simp at hb
            rintro rfl
            exact hm (hb ▸ ha)
          · rcases List.mem_append.mp hq with h | h
            · exact hi.reach q h
            · rw [List.mem_singleton.mp h]
              exact ⟨j, hj⟩
          · rcases List.mem_append.mp hq with h | h
            · exact hi.lft q (by simp [h])
            · obtain ⟨d, hd, rfl⟩ := List.mem_map.mp h
              exact ⟨j + 1, .step hj hd⟩
          · rcases List.mem_append.mp hq with h | h
            · rcases hi.closed q h d hd with h | h
              · exact .inl (List.mem_append_left _ h)
              · rcases List.mem_append.mp h with h | h
                · exact .inr (List.mem_append_left _ h)
                · exact .inl (List.mem_append_right _ h)
            · rw [List.mem_singleton.mp h] at hd ⊢
              exact .inr (List.mem_append_right _ (List.mem_map_of_mem hd))
          · rcases hi.start with h | h
            · exact .inl (List.mem_append_left _ h)
            · rcases List.mem_append.mp h with h | h
              · exact .inr (List.mem_append_left _ h)
              · exact .inl (List.mem_append_right _ h)
        have hlen2 := hi2.len hc
        simp only [List.length_append, List.length_cons, List.length_nil] at hlen2
        exact pg_while hc n _ _ v5 v6 v7 v8 v9 hi2 (by omega) (by simp; omega)
theorem F_pair_graph_eq {c : Cfg} (hc : c.Ok) : ∃ gs, F_pair_graph [c.r1, c.r2, ldE c.m c.most c.ws] = some (.dict (graphE c gs)) ∧ GInv c gs [] := by
  obtain ⟨gs', u5, u6, u7, u8, u9, e1, e2⟩ := pg_while hc 4000 [] [P0] none none none none none ⟨.nil, fun p hp => by simp at hp, fun p hp => by rw [List.mem_singleton.mp hp]; exact ⟨0, .start⟩, fun p hp => by simp at hp, .inr (by simp)⟩ (by decide) (by simp)
  refine ⟨gs', ?_, e2⟩
  have hB : B_pair_graph = sSeq (sPar2 3 4 (fsC dF0 (fsC (lF (ac (fTup (ac (fTup a0) (ac (fTup a0) a0))) a0)) fs0))) (sSeq (whileF CG LG 4000) (sFrz 3 (sRet (fVar 3)))) := rfl
  show endOf (B_pair_graph _) = _
  rw [hB, m_seq]
  have h0 : sPar2 3 4 (fsC dF0 (fsC (lF (ac (fTup (ac (fTup a0) (ac (fTup a0) a0))) a0)) fs0)) (startE 10 [c.r1, c.r2, ldE c.m c.most c.ws]) = some (.nx (EG c [] [P0] none none none none none)) := by
    simp [sPar2, fsC, dF0, lF, fs0, List.replicate]
    exact ⟨rfl, rfl⟩
  rw [h0, m_seqN, m_seq, e1, m_seqN]
  rfl
end L3

/-! M13: sums and means where no costs are unlike. -/
namespace L3
open PySem PySem.Spec PyProof.Rows L2

/-- the pairs of the graph, every one with its way; no costs are unlike there -/
structure Zero (c : Cfg) (gs : List PT) : Prop where
  ok : c.Ok
  nd : gs.Nodup
  good : ∀ p ∈ gs, PGood c.m p
  closed : ∀ p ∈ gs, ∀ d ∈ c.dsp p, c.st p d ∈ gs
  zero : ∀ p ∈ gs, ∀ d ∈ c.dsp p, cst p.1 d.1 d.2 = cst p.2 d.1 d.2
  start : P0 ∈ gs
theorem Zero.len {c : Cfg} {gs : List PT} (h : Zero c gs) : gs.length ≤ 225 := by
  rw [← allP_len]
  exact nodup_len h.nd fun p hp => (h.good p hp).mem h.ok.ld.three
theorem Zero.sub {c : Cfg} {gs : List PT} (h : Zero c gs) {l : List PT} (hn : l.Nodup) (hs : ∀ p ∈ l, p ∈ gs) : l.length ≤ 225 := Nat.le_trans (nodup_len hn hs) h.len
def zeroE (l : List PT) : List (PyData × PyData) := l.map fun p => (encP p, .int 0)
theorem zeroE_eq (l : List PT) : zeroE l = mapE (fun _ => .int 0) (l.map fun p => (p, ())) := by simp [zeroE, mapE]
theorem zero_in {q : PT} {l : List PT} : (dGet (zeroE l) (encP q)).isSome = decide (q ∈ l) := by
  rw [zeroE_eq, get_some]
  simp
theorem zero_put {q : PT} {l : List PT} (h : q ∉ l) : dPut (zeroE l) (encP q) (.int 0) = zeroE (l ++ [q]) := by
  have := put_new (fun _ : Unit => PyData.int 0) (q := q) (a := ()) (xs := l.map fun p => (p, ())) (by simpa using h)
  rw [zeroE_eq, this, zeroE_eq, List.map_append]
  rfl
theorem zero_get {q : PT} {l : List PT} (h : q ∈ l) : dGet (zeroE l) (encP q) = some (.int 0) := by
  have h1 := zero_in (q := q) (l := l)
  rw [decide_eq_true h] at h1
  rw [zeroE_eq, find_mapE] at h1 ⊢
  rw [Option.isSome_map] at h1
  obtain ⟨x, hx⟩ := Option.isSome_iff_exists.mp h1
  rw [hx]
  rfl
theorem at_last (xs : List PyData) (x : PyData) : L2.atI (xs ++ [x]) (-1) = some x := by
  have h1 : L2.ixN (xs ++ [x]).length (-1) = some xs.length := by
    unfold L2.ixN
    rw [if_neg (by omega), if_pos (by simp; omega)]
    simp
    omega
  unfold L2.atI
  rw [h1, Option.bind_some]
  simp
theorem at_nat (xs : List PyData) (k : Nat) : L2.atI xs (k : Int) = xs[k]? := by
  unfold L2.atI L2.ixN
  rw [if_pos (by omega)]
  by_cases h : k < xs.length
  · rw [if_pos (by omega)]
    simp
  · rw [if_neg (by omega), List.getElem?_eq_none (by omega)]
    rfl
def rowD (l : List PT) : PyData := .dict (zeroE l)
noncomputable abbrev ES (c : Cfg) (gs : List PT) (rows : List (List PT)) (u3 u4 u5 u6 u7 u8 u9 : Option EV) : PEnv :=
  [some (.val (.dict (graphE c gs))), some (.val (encP P0)), some (.lst (rows.map rowD)), u3, u4, u5, u6, u7, u8, u9]
abbrev BS : FS := (sSeq (sSet 9 (o2 dAdd (o2 dGetD (fOIx 2 (o1 dNeg (fC (.int 1)))) (fVar 5)) (fVar 8)))
  (sIf (fOr (fOIn true 4 (fVar 7)) (o2 dGt (fVar 9) (fOGet 4 (fVar 7)))) (sPut 4 (fVar 7) (fVar 9)) sNext))
abbrev gS : FT := gT (gsC (gN 6) (gsC (gN 7) (gsC (gN 8) gs0)))
theorem last_row {c : Cfg} {gs : List PT} {rs : List (List PT)} {l0 : List PT} {u3 u4 u5 u6 u7 u8 u9 : Option EV} : fOIx 2 (o1 dNeg (fC (.int 1))) (ES c gs (rs ++ [l0]) u3 u4 u5 u6 u7 u8 u9) = some (rowD l0) := by
  have : dIdx (.list ((rs ++ [l0]).map rowD)) (.int (-1)) = some (rowD l0) := by
    rw [m_idxL, List.map_append]
    exact at_last _ _
  simp only [fOIx, ES, List.getElem?_cons_succ, List.getElem?_cons_zero, m_o1, m_fC, Option.bind_some, m_neg, this]
theorem get_row {p : PT} {l : List PT} {m : Int} (g : PGood m p) (h : p ∈ l) : dGetD (rowD l) (encP p) = some (.int 0) := by
  show (if keyTop (encP p) then _ else _) = _
  rw [g.key, if_pos rfl]
  exact zero_get h
theorem sum_in {c : Cfg} {gs : List PT} (hz : Zero c gs) {rs : List (List PT)} {l0 : List PT} {p : PT} (hp : p ∈ gs) (hp0 : p ∈ l0) (u3 : Option EV) : ∀ (ds : Row) (l : List PT) (u6 u7 u8 u9 : Option EV), (∀ d ∈ ds, d ∈ c.dsp p) → l.Nodup → (∀ q ∈ l, q ∈ gs) →
    ∃ l' u6' u7' u8' u9', forF gS BS (ds.map (stepE c p)) (ES c gs (rs ++ [l0]) u3 (some (.dct (zeroE l))) (some (.val (encP p))) u6 u7 u8 u9) = some (.nx (ES c gs (rs ++ [l0]) u3 (some (.dct (zeroE l'))) (some (.val (encP p))) u6' u7' u8' u9')) ∧
      l'.Nodup ∧ (∀ q ∈ l', q ∈ gs) ∧ ∀ q, q ∈ l' ↔ q ∈ l ∨ ∃ d ∈ ds, q = c.st p d
  | [], l, u6, u7, u8, u9, _, hn, hs => ⟨l, u6, u7, u8, u9, rfl, hn, hs, fun q => by simp⟩
  | d :: ds, l, u6, u7, u8, u9, hd, hn, hs => by
    have hdp := hd d List.mem_cons_self
    have hq := hz.closed p hp d hdp
    have hc0 := hz.zero p hp d hdp
    have gq := hz.good _ hq
    have gp := hz.good p hp
    have hsub := hz.sub hn hs
    have hfor : forF gS BS ((d :: ds).map (stepE c p)) (ES c gs (rs ++ [l0]) u3 (some (.dct (zeroE l))) (some (.val (encP p))) u6 u7 u8 u9) = seqK (BS (ES c gs (rs ++ [l0]) u3 (some (.dct (zeroE l))) (some (.val (encP p))) (some (.val (ded d.1 d.2))) (some (.val (encP (c.st p d)))) (some (.val (.int 0))) u9)) (forF gS BS (ds.map (stepE c p))) := by
      have : cst p.1 d.1 d.2 - cst p.2 d.1 d.2 = 0 := by omega
      simp only [List.map_cons, for_cons, stepE, this, gS, m_gT, m_gsC, m_gN, m_gs0, Option.bind_some, ES, List.set_cons_succ, List.set_cons_zero]
    have hset : sSet 9 (o2 dAdd (o2 dGetD (fOIx 2 (o1 dNeg (fC (.int 1)))) (fVar 5)) (fVar 8)) (ES c gs (rs ++ [l0]) u3 (some (.dct (zeroE l))) (some (.val (encP p))) (some (.val (ded d.1 d.2))) (some (.val (encP (c.st p d)))) (some (.val (.int 0))) u9) =
        some (.nx (ES c gs (rs ++ [l0]) u3 (some (.dct (zeroE l))) (some (.val (encP p))) (some (.val (ded d.1 d.2))) (some (.val (encP (c.st p d)))) (some (.val (.int 0))) (some (.val (.int 0))))) := by
      rw [m_sSet, m_o2, m_o2, last_row]
      simp [get_row gp hp0]
    have hin : fOIn true 4 (fVar 7) (ES c gs (rs ++ [l0]) u3 (some (.dct (zeroE l))) (some (.val (encP p))) (some (.val (ded d.1 d.2))) (some (.val (encP (c.st p d)))) (some (.val (.int 0))) (some (.val (.int 0)))) = some (.bool (!decide (c.st p d ∈ l))) := by
      have h1 : dInD true (encP (c.st p d)) (.dict (zeroE l)) = some (.bool (!decide (c.st p d ∈ l))) := by
        show (if keyTop (encP (c.st p d)) then _ else _) = _
        rw [gq.key, if_pos rfl, zero_in]
        rfl
      simp [fOIn, h1]
    by_cases hm : c.st p d ∈ l
    · obtain ⟨l', v6, v7, v8, v9, f1, f2, f3, f4⟩ := sum_in hz (rs := rs) (l0 := l0) hp hp0 u3 ds l (some (.val (ded d.1 d.2))) (some (.val (encP (c.st p d)))) (some (.val (.int 0))) (some (.val (.int 0))) (fun x hx => hd x (List.mem_cons_of_mem _ hx)) hn hs
      refine ⟨l', v6, v7, v8, v9, ?_, f2, f3, fun q => ?_⟩
      · have hget : fOGet 4 (fVar 7) (ES c gs (rs ++ [l0]) u3 (some (.dct (zeroE l))) (some (.val (encP p))) (some (.val (ded d.1 d.2))) (some (.val (encP (c.st p d)))) (some (.val (.int 0))) (some (.val (.int 0)))) = some (.int 0) := by
          have := get_row gq hm
          simp only [rowD] at this
          simp [fOGet, this]
        have hs2 : sIf (fOr (fOIn true 4 (fVar 7)) (o2 dGt (fVar 9) (fOGet 4 (fVar 7)))) (sPut 4 (fVar 7) (fVar 9)) sNext (ES c gs (rs ++ [l0]) u3 (some (.dct (zeroE l))) (some (.val (encP p))) (some (.val (ded d.1 d.2))) (some (.val (encP (c.st p d)))) (some (.val (.int 0))) (some (.val (.int 0)))) = some (.nx (ES c gs (rs ++ [l0]) u3 (some (.dct (zeroE l))) (some (.val (encP p))) (some (.val (ded d.1 d.2))) (some (.val (encP (c.st p d)))) (some (.val (.int 0))) (some (.val (.int 0))))) := by
          rw [m_sIf, m_or, hin, decide_eq_true hm, Bool.not_true, m_orF, m_o2, hget]
          simp
        rw [hfor, BS, m_seq, hset, m_seqN, hs2, m_seqN]
        exact f1
      · rw [f4]
        constructor
        · rintro (h | ⟨e, h1, h2⟩)
          · exact .inl h
          · exact .inr ⟨e, List.mem_cons_of_mem _ h1, h2⟩
        · rintro (h | ⟨e, h1, h2⟩)
          · exact .inl h
          · rcases List.mem_cons.mp h1 with rfl | h1
            · exact .inl (h2 ▸ hm)
            · exact .inr ⟨e, h1, h2⟩
    · have hn2 : (l ++ [c.st p d]).Nodup := List.nodup_append.mpr ⟨hn, by simp, fun a ha b hb => by
        simp at hb
        rintro rfl
        exact hm (hb ▸ ha)⟩
      have hs3 : ∀ q ∈ l ++ [c.st p d], q ∈ gs := fun q hq => by
        rcases List.mem_append.mp hq with h | h
        · exact hs q h
        · rw [List.mem_singleton.mp h]
          exact hz.closed p hp d hdp
      obtain ⟨l', v6, v7, v8, v9, f1, f2, f3, f4⟩ := sum_in hz (rs := rs) (l0 := l0) hp hp0 u3 ds (l ++ [c.st p d]) (some (.val (ded d.1 d.2))) (some (.val (encP (c.st p d)))) (some (.val (.int 0))) (some (.val (.int 0))) (fun x hx => hd x (List.mem_cons_of_mem _ hx)) hn2 hs3
      refine ⟨l', v6, v7, v8, v9, ?_, f2, f3, fun q => ?_⟩
      · have hs2 : sIf (fOr (fOIn true 4 (fVar 7)) (o2 dGt (fVar 9) (fOGet 4 (fVar 7)))) (sPut 4 (fVar 7) (fVar 9)) sNext (ES c gs (rs ++ [l0]) u3 (some (.dct (zeroE l))) (some (.val (encP p))) (some (.val (ded d.1 d.2))) (some (.val (encP (c.st p d)))) (some (.val (.int 0))) (some (.val (.int 0)))) = some (.nx (ES c gs (rs ++ [l0]) u3 (some (.dct (zeroE (l ++ [c.st p d])))) (some (.val (encP p))) (some (.val (ded d.1 d.2))) (some (.val (encP (c.st p d)))) (some (.val (.int 0))) (some (.val (.int 0))))) := by
          rw [m_sIf, m_or, hin, decide_eq_false hm, Bool.not_false, m_orT, m_sIfT]
          have hk := gq.key
          have hsz : (zeroE l).length < 100000 := by simp [zeroE]; omega
          simp [sPut, hk, hsz, zero_put hm]
        rw [hfor, BS, m_seq, hset, m_seqN, hs2, m_seqN]
        exact f1
      · rw [f4, List.mem_append, List.mem_singleton]
        constructor
        · rintro ((h | h) | ⟨e, h1, h2⟩)
          · exact .inl h
          · exact .inr ⟨d, List.mem_cons_self, h⟩
          · exact .inr ⟨e, List.mem_cons_of_mem _ h1, h2⟩
        · rintro (h | ⟨e, h1, h2⟩)
          · exact .inl (.inl h)
          · rcases List.mem_cons.mp h1 with rfl | h1
            · exact .inl (.inr h2)
            · exact .inr ⟨e, h1, h2⟩
abbrev BS2 : FS := sFor (iL (o2 dGetD (fVar 0) (fVar 5))) gS BS
theorem sum_mid {c : Cfg} {gs : List PT} (hz : Zero c gs) {rs : List (List PT)} {l0 : List PT} (u3 : Option EV) : ∀ (ps l : List PT) (u5 u6 u7 u8 u9 : Option EV), (∀ p ∈ ps, p ∈ gs ∧ p ∈ l0) → l.Nodup → (∀ q ∈ l, q ∈ gs) →
    ∃ l' u5' u6' u7' u8' u9', forF (gN 5) BS2 (ps.map encP) (ES c gs (rs ++ [l0]) u3 (some (.dct (zeroE l))) u5 u6 u7 u8 u9) = some (.nx (ES c gs (rs ++ [l0]) u3 (some (.dct (zeroE l'))) u5' u6' u7' u8' u9')) ∧
      l'.Nodup ∧ (∀ q ∈ l', q ∈ gs) ∧ ∀ q, q ∈ l' ↔ q ∈ l ∨ ∃ p ∈ ps, ∃ d ∈ c.dsp p, q = c.st p d
  | [], l, u5, u6, u7, u8, u9, _, hn, hs => ⟨l, u5, u6, u7, u8, u9, rfl, hn, hs, fun q => by simp⟩
  | p :: ps, l, u5, u6, u7, u8, u9, hp, hn, hs => by
    obtain ⟨hp1, hp2⟩ := hp p List.mem_cons_self
    obtain ⟨l1, v6, v7, v8, v9, f1, f2, f3, f4⟩ := sum_in hz (rs := rs) (l0 := l0) hp1 hp2 u3 (c.dsp p) l u6 u7 u8 u9 (fun _ h => h) hn hs
    obtain ⟨l2, w5, w6, w7, w8, w9, e1, e2, e3, e4⟩ := sum_mid hz (rs := rs) (l0 := l0) u3 ps l1 (some (.val (encP p))) v6 v7 v8 v9 (fun q hq => hp q (List.mem_cons_of_mem _ hq)) f2 f3
    refine ⟨l2, w5, w6, w7, w8, w9, ?_, e2, e3, fun q => ?_⟩
    · have hg : dGetD (.dict (graphE c gs)) (encP p) = some (stepsE c p) := by
        show (if keyTop (encP p) then _ else _) = _
        rw [(hz.good p hp1).key, if_pos rfl]
        exact graph_get hp1
      have hi : iL (o2 dGetD (fVar 0) (fVar 5)) (ES c gs (rs ++ [l0]) u3 (some (.dct (zeroE l))) (some (.val (encP p))) u6 u7 u8 u9) = some ((c.dsp p).map (stepE c p)) := m_iL (by simp [hg, stepsE])
      have hcons : forF (gN 5) BS2 ((p :: ps).map encP) (ES c gs (rs ++ [l0]) u3 (some (.dct (zeroE l))) u5 u6 u7 u8 u9) = seqK (BS2 (ES c gs (rs ++ [l0]) u3 (some (.dct (zeroE l))) (some (.val (encP p))) u6 u7 u8 u9)) (forF (gN 5) BS2 (ps.map encP)) := by
        simp only [List.map_cons, for_cons, m_gN, Option.bind_some, ES, List.set_cons_succ, List.set_cons_zero]
      rw [hcons, BS2, m_for, hi, Option.bind_some, f1, m_seqN]
      exact e1
    · rw [e4, f4]
      constructor
      · rintro ((h | ⟨d, h1, h2⟩) | ⟨p', h1, h2⟩)
        · exact .inl h
        · exact .inr ⟨p, List.mem_cons_self, d, h1, h2⟩
        · exact .inr ⟨p', List.mem_cons_of_mem _ h1, h2⟩
      · rintro (h | ⟨p', h1, h2⟩)
        · exact .inl (.inl h)
        · rcases List.mem_cons.mp h1 with rfl | h1
          · exact .inl (.inr h2)
          · exact .inr ⟨p', h1, h2⟩
abbrev BS3 : FS := (sSeq (sSetF 4 dF0)
  (sSeq (sFor (iK (fOIx 2 (o1 dNeg (fC (.int 1))))) (gN 5) BS2)
  (sFrz 4 (sApp 2 (fVar 4)))))
/-- the rows up to the last one are what is reached in so many steps -/
def RowsOk (c : Cfg) (gs : List PT) (rows : List (List PT)) : Prop := ∀ k l, rows[k]? = some l → l.Nodup ∧ (∀ q ∈ l, q ∈ gs) ∧ ∀ q, q ∈ l ↔ Reach c k q
theorem sum_out {c : Cfg} {gs : List PT} (hz : Zero c gs) : ∀ (xs : List PyData) (rs : List (List PT)) (l0 : List PT) (u3 u4 u5 u6 u7 u8 u9 : Option EV), RowsOk c gs (rs ++ [l0]) → rs.length + xs.length ≤ 1000 →
    ∃ rows' u3' u4' u5' u6' u7' u8' u9', forF (gN 3) BS3 xs (ES c gs (rs ++ [l0]) u3 u4 u5 u6 u7 u8 u9) = some (.nx (ES c gs rows' u3' u4' u5' u6' u7' u8' u9')) ∧ RowsOk c gs rows' ∧ rows'.length = rs.length + 1 + xs.length
  | [], rs, l0, u3, u4, u5, u6, u7, u8, u9, hr, _ => ⟨_, u3, u4, u5, u6, u7, u8, u9, rfl, hr, by simp⟩
  | x :: xs, rs, l0, u3, u4, u5, u6, u7, u8, u9, hr, hl => by
    simp only [List.length_cons] at hl
    obtain ⟨h1, h2, h3⟩ := hr rs.length l0 (by simp)
    obtain ⟨l', v5, v6, v7, v8, v9, e1, e2, e3, e4⟩ := sum_mid hz (rs := rs) (l0 := l0) (some (.val x)) l0 [] u5 u6 u7 u8 u9 (fun p hp => ⟨h2 p hp, hp⟩) .nil (fun q hq => by simp at hq)
    have hr2 : RowsOk c gs ((rs ++ [l0]) ++ [l']) := by
      intro k l hk
      by_cases hlt : k < (rs ++ [l0]).length
      · rw [List.getElem?_append_left hlt] at hk
        exact hr k l hk
      · have hk2 : k = rs.length + 1 := by
          have := (List.getElem?_eq_some_iff.mp hk).1
          simp at this hlt
          omega
        subst hk2
        have : l = l' := by
          have h : ((rs ++ [l0]) ++ [l'])[rs.length + 1]? = some l' := by
            rw [List.getElem?_append_right (by simp)]
            simp
          rw [h] at hk
          exact (Option.some.inj hk).symm
        subst this
        refine ⟨e2, e3, fun q => ?_⟩
        rw [e4]
        constructor
        · rintro (h | ⟨p, hp, d, hd, rfl⟩)
          · simp at h
          · exact .step ((h3 p).mp hp) hd
        · intro h
          cases h with
          | step hp hd => exact .inr ⟨_, (h3 _).mpr hp, _, hd, rfl⟩
    obtain ⟨rows', w3, w4, w5, w6, w7, w8, w9, f1, f2, f3⟩ := sum_out hz xs (rs ++ [l0]) l' (some (.val x)) (some (.val (rowD l'))) v5 v6 v7 v8 v9 hr2 (by simp; omega)
    refine ⟨rows', w3, w4, w5, w6, w7, w8, w9, ?_, f2, by rw [f3]; simp; omega⟩
    have hcons : forF (gN 3) BS3 (x :: xs) (ES c gs (rs ++ [l0]) u3 u4 u5 u6 u7 u8 u9) = seqK (BS3 (ES c gs (rs ++ [l0]) (some (.val x)) u4 u5 u6 u7 u8 u9)) (forF (gN 3) BS3 xs) := by
      simp only [for_cons, m_gN, Option.bind_some, ES, List.set_cons_succ, List.set_cons_zero]
    have hset : sSetF 4 dF0 (ES c gs (rs ++ [l0]) (some (.val x)) u4 u5 u6 u7 u8 u9) = some (.nx (ES c gs (rs ++ [l0]) (some (.val x)) (some (.dct (zeroE []))) u5 u6 u7 u8 u9)) := by
      simp [sSetF, dF0, zeroE]
    have hi : iK (fOIx 2 (o1 dNeg (fC (.int 1)))) (ES c gs (rs ++ [l0]) (some (.val x)) (some (.dct (zeroE []))) u5 u6 u7 u8 u9) = some (l0.map encP) := by
      unfold iK
      rw [last_row]
      simp [rowD, zeroE]
    have hend : sFrz 4 (sApp 2 (fVar 4)) (ES c gs (rs ++ [l0]) (some (.val x)) (some (.dct (zeroE l'))) v5 v6 v7 v8 v9) = some (.nx (ES c gs (rs ++ [l0] ++ [l']) (some (.val x)) (some (.val (rowD l'))) v5 v6 v7 v8 v9)) := by
      have ha := m_app (i := 2) (f := fVar 4) (ρ := ES c gs (rs ++ [l0]) (some (.val x)) (some (.val (rowD l'))) v5 v6 v7 v8 v9) (ds := (rs ++ [l0]).map rowD) (by simp) (by simp; omega)
      have hf : frzE 4 (ES c gs (rs ++ [l0]) (some (.val x)) (some (.dct (zeroE l'))) v5 v6 v7 v8 v9) = some (ES c gs (rs ++ [l0]) (some (.val x)) (some (.val (rowD l'))) v5 v6 v7 v8 v9) := rfl
      unfold sFrz
      rw [hf, Option.bind_some, ha]
      simp
    rw [hcons, BS3, m_seq, hset, m_seqN, m_seq, m_for, hi, Option.bind_some, e1, m_seqN, hend, m_seqN]
    exact f1
theorem rows0 {c : Cfg} {gs : List PT} (hz : Zero c gs) : RowsOk c gs ([] ++ [[P0]]) := by
  intro k l hk
  cases k with
  | zero =>
    have hk : [P0] = l := by simpa using hk
    subst hk
    refine ⟨by simp, fun q hq => by rw [List.mem_singleton.mp hq]; exact hz.start, fun q => ?_⟩
    rw [List.mem_singleton]
    constructor
    · rintro rfl
      exact .start
    · intro h
      cases h
      rfl
  | succ k => simp at hk
theorem sums_set {c : Cfg} {gs : List PT} : sSetF 2 (lF (ac (fFz (dF1 (fVar 1) (fC (.int 0)))) a0)) (startE 10 [.dict (graphE c gs), encP P0]) = some (.nx (ES c gs ([] ++ [[P0]]) none none none none none none none)) := by
  have hk : keyTop (encP P0) = true := (pgood_nil 3).key
  simp [sSetF, lF, fFz, dF1, hk, List.replicate, rowD, zeroE]
theorem sums_it {c : Cfg} {gs : List PT} (hlen : gs.length ≤ 225) : iR1 (oA gLenD (ac (fVar 0) a0)) (ES c gs ([] ++ [[P0]]) none none none none none none none) = some (rngD 0 (gs.length : Int)) := by
  have h1 : (graphE c gs).length = gs.length := by simp [graphE]
  have h2 : (oA gLenD (ac (fVar 0) a0)) (ES c gs ([] ++ [[P0]]) none none none none none none none) = some (.int (gs.length : Int)) := by
    simp [gLenD, h1]
  unfold iR1
  rw [h2, Option.bind_some]
  show (if _ then _ else _) = _
  rw [if_pos (by omega)]
theorem sums_B : B_sums_from = sSeq (sSetF 2 (lF (ac (fFz (dF1 (fVar 1) (fC (.int 0)))) a0))) (sSeq (sFor (iR1 (oA gLenD (ac (fVar 0) a0))) (gN 3) BS3) (sFrz 2 (sRet (fVar 2)))) := rfl
theorem rng_len (n : Nat) : (rngD 0 (n : Int)).length = n := by
  simp [rngD]
theorem F_sums_from_eq {c : Cfg} {gs : List PT} (hz : Zero c gs) : ∃ rows : List (List PT), F_sums_from [.dict (graphE c gs), encP P0] = some (.list (rows.map rowD)) ∧ RowsOk c gs rows ∧ rows.length = gs.length + 1 := by
  have hlen := hz.len
  have hr := rng_len gs.length
  obtain ⟨rows', u3, u4, u5, u6, u7, u8, u9, e1, e2, e3⟩ := sum_out hz (rngD 0 (gs.length : Int)) [] [P0] none none none none none none none (rows0 hz) (by rw [hr]; simp; omega)
  refine ⟨rows', ?_, e2, by rw [e3, hr]; simp; omega⟩
  have hF : F_sums_from = runF 10 B_sums_from := rfl
  rw [hF, m_runF, sums_B, m_seq, sums_set, m_seqN, m_seq, m_for, sums_it hlen, Option.bind_some, e1, m_seqN]
  simp [sFrz, frzE]
end L3

/-! M14: means of nothing; the greatest leads; the costs along a row. -/
namespace L3
open PySem PySem.Spec PyProof.Rows L2

/-! ### the least number of steps -/
def Dist (c : Cfg) (k : Nat) (p : PT) : Prop := Reach c k p ∧ ∀ j, j < k → ¬ Reach c j p
theorem dist_ex {c : Cfg} : ∀ (n : Nat) {p : PT}, Reach c n p → ∃ k, k ≤ n ∧ Dist c k p := by
  intro n
  induction n using Nat.strongRecOn with
  | ind n ih =>
    intro p h
    by_cases hm : ∃ j, j < n ∧ Reach c j p
    · obtain ⟨j, h1, h2⟩ := hm
      obtain ⟨k, h3, h4⟩ := ih j h1 h2
      exact ⟨k, by omega, h4⟩
    · exact ⟨n, Nat.le_refl _, h, fun j hj hr => hm ⟨j, hj, hr⟩⟩
theorem dist_list {c : Cfg} : ∀ (k : Nat) {p : PT}, Dist c k p → ∃ l : List PT, l.length = k + 1 ∧ l.Nodup ∧ ∀ x ∈ l, ∃ i, i ≤ k ∧ Dist c i x
  | 0, p, h => ⟨[p], rfl, by simp, fun x hx => ⟨0, Nat.le_refl _, by rw [List.mem_singleton.mp hx]; exact h⟩⟩
  | k + 1, p, h => by
    obtain ⟨h1, h2⟩ := h
    cases h1 with
    | @step _ q d hq hd =>
      have hdq : Dist c k q := ⟨hq, fun j hj hr => h2 (j + 1) (by omega) (.step hr hd)⟩
      obtain ⟨l, l1, l2, l3⟩ := dist_list k hdq
      refine ⟨c.st q d :: l, by simp [l1], List.nodup_cons.mpr ⟨fun hm => ?_, l2⟩, fun x hx => ?_⟩
      · obtain ⟨i, i1, i2⟩ := l3 _ hm
        exact h2 i (by omega) i2.1
      · rcases List.mem_cons.mp hx with rfl | hx
        · exact ⟨k + 1, Nat.le_refl _, .step hq hd, h2⟩
        · obtain ⟨i, i1, i2⟩ := l3 x hx
          exact ⟨i, by omega, i2⟩
theorem Zero.reach {c : Cfg} {gs : List PT} (h : Zero c gs) : ∀ {k : Nat} {p : PT}, Reach c k p → p ∈ gs := by
  intro k p hp
  induction hp with
  | start => exact h.start
  | step hq hd ih => exact h.closed _ ih _ hd
theorem Zero.early {c : Cfg} {gs : List PT} (h : Zero c gs) {n : Nat} {p : PT} (hp : Reach c n p) : ∃ k, k < gs.length ∧ Reach c k p := by
  obtain ⟨k, _, hk⟩ := dist_ex n hp
  obtain ⟨l, l1, l2, l3⟩ := dist_list k hk
  have := nodup_len l2 fun x hx => by
    obtain ⟨i, _, hi⟩ := l3 x hx
    exact h.reach hi.1
  exact ⟨k, by omega, hk.1⟩
theorem dsp_ne {c : Cfg} (hc : c.Ok) {p : PT} (g : PGood c.m p) : ∃ d, d ∈ c.dsp p := by
  have h1 := hc.ld.one
  have h2 := hc.ld.le
  have h3 := hc.ld.three
  cases hk : p.1.keys with
  | nil =>
    refine ⟨("in", 1), mem_deedsOf.mpr ⟨?_, by omega, by rw [hk]; simp, fun _ => by rw [hk]; simp; omega⟩⟩
    have := hc.ld.words
    revert this
    generalize c.ws = ws
    intro h
    cases h <;> decide
  | cons k ks =>
    have hm : k ∈ p.1.keys := by rw [hk]; exact List.mem_cons_self
    have hr := g.rg k hm
    have hw : ("ask" : Str) ∈ c.ws ∨ ("out" : Str) ∈ c.ws := by
      have := hc.ld.words
      revert this
      generalize c.ws = ws
      intro h
      cases h <;> decide
    rcases hw with hw | hw
    · exact ⟨("ask", k), mem_deedsOf.mpr ⟨hw, hr, by simp [hm], fun e => by simp at e⟩⟩
    · exact ⟨("out", k), mem_deedsOf.mpr ⟨hw, hr, by simp [hm], fun e => by simp at e⟩⟩
theorem reach_ne {c : Cfg} (hc : c.Ok) : ∀ n : Nat, ∃ p, Reach c n p
  | 0 => ⟨_, .start⟩
  | n + 1 => by
    obtain ⟨p, hp⟩ := reach_ne hc n
    obtain ⟨d, hd⟩ := dsp_ne hc (hp.good hc)
    exact ⟨_, .step hp hd⟩
/-! ### means -/
theorem F_lowest_eq {y : Int} (h1 : 1 ≤ y) (h2 : y ≤ 1000) : F_lowest [.int 0, .int y] = some (.tuple [.int 0, .int 1]) := by
  have h3 : 0 < y := by omega
  have h4 : y < 1073741824 := by omega
  have e1 : dMod (.int 0) (.int y) = some (.int 0) := by simp [dMod, h3]
  have e2 : dDiv (.int 0) (.int y) = some (.int 0) := by simp [dDiv, h3, h4]
  have e3 : dDiv (.int y) (.int y) = some (.int 1) := by
    simp [dDiv, h3, h4]
    exact Int.ediv_self (by omega)
  have e4 : gAbs [.int 0] = some (.int 0) := rfl
  simp [F_lowest, B_lowest, List.replicate, sPar2, fsC, vF, fs0, e1, e2, e3, e4, h3]
/-- nothing yet, or 0 over some number of steps -/
inductive Lst : PyData → Prop
  | none : Lst .none
  | some {y : Int} (h : 1 ≤ y ∧ y ≤ 300) : Lst (.tuple [.int 0, .int y])
def isT : PyData → Bool
  | .tuple _ => true
  | _ => false
abbrev EM (c : Cfg) (g : PyData) (rows : List (List PT)) (n : Nat) (best place least u7 u8 : Option EV) : PEnv :=
  [some (.val g), some (.val (encP P0)), some (.val (.list (rows.map rowD))), some (.val (.int n)), best, place, least, u7, u8]
abbrev BM : FS := (sIf (o2 (dInD false) (fVar 5) (o2 dIdx (fVar 2) (fVar 7))) (sSeq (sSet 8 (fTup (ac (o2 dSub (o2 dGetD (o2 dIdx (fVar 2) (fVar 3)) (fVar 5)) (o2 dGetD (o2 dIdx (fVar 2) (fVar 7)) (fVar 5))) (ac (o2 dSub (fVar 3) (fVar 7)) a0))))
  (sIf (fOr (o2 dIsN (fVar 6) (fC .none)) (o2 dLt (o2 dMul (o2 dIdx (fVar 8) (fC (.int 0))) (o2 dIdx (fVar 6) (fC (.int 1)))) (o2 dMul (o2 dIdx (fVar 6) (fC (.int 0))) (o2 dIdx (fVar 8) (fC (.int 1)))))) (sSet 6 (fVar 8)) sNext)) sNext)
@[simp] theorem m_mul0 (j : Int) : dMul (.int 0) (.int j) = some (.int 0) := by simp [dMul]
@[simp] theorem isN_none : dIsN .none .none = some (.bool true) := rfl
@[simp] theorem isN_tup (xs : List PyData) : dIsN (.tuple xs) .none = some (.bool false) := rfl
theorem row_at {rows : List (List PT)} {k : Nat} {l : List PT} (h : rows[k]? = some l) : dIdx (.list (rows.map rowD)) (.int (k : Int)) = some (rowD l) := by
  rw [m_idxL, at_nat, List.getElem?_map, h]
  rfl
theorem bm_ok {c : Cfg} {gs : List PT} {g : PyData} (hz : Zero c gs) {rows : List (List PT)} (hr : RowsOk c gs rows) {ln : List PT} (hln : rows[gs.length]? = some ln) {p : PT} (hp : p ∈ ln) {k : Nat} (hk : k < gs.length) {l : List PT} (hl : rows[k]? = some l) {best : Option EV} {least : PyData} (hle : Lst least) (u8 : Option EV) :
    ∃ least' u8', BM (EM c g rows gs.length best (some (.val (encP p))) (some (.val least)) (some (.val (.int k))) u8) = some (.nx (EM c g rows gs.length best (some (.val (encP p))) (some (.val least')) (some (.val (.int k))) u8')) ∧ Lst least' ∧ (isT least = true → isT least' = true) ∧ (p ∈ l → isT least' = true) := by
  have hlen := hz.len
  obtain ⟨_, hs, _⟩ := hr _ _ hln
  have gp := hz.good p (hs p hp)
  have hin : dInD false (encP p) (rowD l) = some (.bool (decide (p ∈ l))) := by
    show (if keyTop (encP p) then _ else _) = _
    rw [gp.key, if_pos rfl, zero_in]
    rfl
  have hcnd : o2 (dInD false) (fVar 5) (o2 dIdx (fVar 2) (fVar 7)) (EM c g rows gs.length best (some (.val (encP p))) (some (.val least)) (some (.val (.int k))) u8) = some (.bool (decide (p ∈ l))) := by
    simp only [m_o2, EM, m_fVarS, m_fVar0, Option.bind_some, row_at hl, hin]
  by_cases hm : p ∈ l
  · have hset : sSet 8 (fTup (ac (o2 dSub (o2 dGetD (o2 dIdx (fVar 2) (fVar 3)) (fVar 5)) (o2 dGetD (o2 dIdx (fVar 2) (fVar 7)) (fVar 5))) (ac (o2 dSub (fVar 3) (fVar 7)) a0))) (EM c g rows gs.length best (some (.val (encP p))) (some (.val least)) (some (.val (.int k))) u8) =
        some (.nx (EM c g rows gs.length best (some (.val (encP p))) (some (.val least)) (some (.val (.int k))) (some (.val (.tuple [.int 0, .int ((gs.length : Int) - k)]))))) := by
      simp only [m_sSet, m_fTup, m_ac, m_a0, m_o2, EM, m_fVarS, m_fVar0, Option.bind_some, row_at hl, row_at hln, get_row gp hm, get_row gp hp, m_subI, List.set_cons_succ, List.set_cons_zero]
      rfl
    rw [BM, m_sIf, hcnd, decide_eq_true hm, m_sIfT, m_seq, hset, m_seqN]
    cases hle with
    | none =>
      refine ⟨.tuple [.int 0, .int ((gs.length : Int) - k)], some (.val (.tuple [.int 0, .int ((gs.length : Int) - k)])), by simp, .some (by omega), fun _ => rfl, fun _ => rfl⟩
    | @some y hy =>
      refine ⟨.tuple [.int 0, .int y], some (.val (.tuple [.int 0, .int ((gs.length : Int) - k)])), by simp, .some hy, fun _ => rfl, fun _ => rfl⟩
  · rw [BM, m_sIf, hcnd, decide_eq_false hm, m_sIfF]
    exact ⟨least, u8, rfl, hle, fun h => h, fun h => absurd h hm⟩
def jsE (js : List Nat) : List PyData := js.map fun (i : Nat) => .int (0 + (i : Int))
theorem mean_in {c : Cfg} {gs : List PT} {g : PyData} (hz : Zero c gs) {rows : List (List PT)} (hr : RowsOk c gs rows) (hlr : rows.length = gs.length + 1) {ln : List PT} (hln : rows[gs.length]? = some ln) {p : PT} (hp : p ∈ ln) {best : Option EV} : ∀ (js : List Nat) (least : PyData) (u7 u8 : Option EV), (∀ j ∈ js, j < gs.length) → Lst least →
    ∃ least' u7' u8', forF (gN 7) BM (jsE js) (EM c g rows gs.length best (some (.val (encP p))) (some (.val least)) u7 u8) = some (.nx (EM c g rows gs.length best (some (.val (encP p))) (some (.val least')) u7' u8')) ∧ Lst least' ∧ (isT least = true → isT least' = true) ∧ ((∃ j ∈ js, Reach c j p) → isT least' = true)
  | [], least, u7, u8, _, hle => ⟨least, u7, u8, rfl, hle, fun h => h, fun ⟨j, h, _⟩ => by simp at h⟩
  | j :: js, least, u7, u8, hj, hle => by
    have hj0 := hj j List.mem_cons_self
    obtain ⟨l, hl⟩ : ∃ l, rows[j]? = some l := ⟨rows[j]'(by omega), List.getElem?_eq_getElem (by omega)⟩
    obtain ⟨least1, v8, e1, e2, e3, e4⟩ := bm_ok (g := g) hz hr hln hp hj0 hl (best := best) hle u8
    obtain ⟨least2, w7, w8, f1, f2, f3, f4⟩ := mean_in (g := g) hz hr hlr hln hp (best := best) js least1 (some (.val (.int j))) v8 (fun x hx => hj x (List.mem_cons_of_mem _ hx)) e2
    refine ⟨least2, w7, w8, ?_, f2, fun h => f3 (e3 h), fun ⟨i, h1, h2⟩ => ?_⟩
    · have hcons : forF (gN 7) BM (jsE (j :: js)) (EM c g rows gs.length best (some (.val (encP p))) (some (.val least)) u7 u8) = seqK (BM (EM c g rows gs.length best (some (.val (encP p))) (some (.val least)) (some (.val (.int j))) u8)) (forF (gN 7) BM (jsE js)) := by
        have : (0 : Int) + (j : Int) = (j : Int) := by omega
        simp only [jsE, List.map_cons, for_cons, m_gN, Option.bind_some, EM, List.set_cons_succ, List.set_cons_zero, this]
      rw [hcons, e1, m_seqN]
      exact f1
    · rcases List.mem_cons.mp h1 with rfl | h1
      · exact f3 (e4 (((hr _ _ hl).2.2 p).mpr h2))
      · exact f4 ⟨i, h1, h2⟩
theorem iR1_nat {f : FE} {ρ : PEnv} {n : Nat} (h : f ρ = some (.int (n : Int))) (hn : n ≤ 1000) : iR1 f ρ = some (rngD 0 (n : Int)) := by
  unfold iR1
  rw [h, Option.bind_some]
  show (if _ then _ else _) = _
  rw [if_pos (by omega)]
abbrev BM2 : FS := (sSeq (sSet 6 (fC .none))
  (sSeq (sFor (iR1 (fVar 3)) (gN 7) BM)
  (sIf (fOr (o2 dIsN (fVar 4) (fC .none)) (o2 dGt (o2 dMul (o2 dIdx (fVar 6) (fC (.int 0))) (o2 dIdx (fVar 4) (fC (.int 1)))) (o2 dMul (o2 dIdx (fVar 4) (fC (.int 0))) (o2 dIdx (fVar 6) (fC (.int 1)))))) (sSet 4 (fVar 6)) sNext)))
theorem mean_out {c : Cfg} {gs : List PT} {g : PyData} (hz : Zero c gs) {rows : List (List PT)} (hr : RowsOk c gs rows) (hlr : rows.length = gs.length + 1) {ln : List PT} (hln : rows[gs.length]? = some ln) : ∀ (ps : List PT) (best : PyData) (u5 u6 u7 u8 : Option EV), (∀ p ∈ ps, p ∈ ln) → Lst best →
    ∃ best' u5' u6' u7' u8', forF (gN 5) BM2 (ps.map encP) (EM c g rows gs.length (some (.val best)) u5 u6 u7 u8) = some (.nx (EM c g rows gs.length (some (.val best')) u5' u6' u7' u8')) ∧ Lst best' ∧ (isT best = true ∨ ps ≠ [] → isT best' = true)
  | [], best, u5, u6, u7, u8, _, hb => ⟨best, u5, u6, u7, u8, rfl, hb, fun h => h.elim id fun h => absurd rfl h⟩
  | p :: ps, best, u5, u6, u7, u8, hp, hb => by
    have hlen := hz.len
    have hp0 := hp p List.mem_cons_self
    have hreach := ((hr _ _ hln).2.2 p).mp hp0
    obtain ⟨k, hk1, hk2⟩ := hz.early hreach
    obtain ⟨least, v7, v8, e1, e2, _, e4⟩ := mean_in (g := g) hz hr hlr hln hp0 (best := some (.val best)) (List.range gs.length) .none u7 u8 (fun j hj => List.mem_range.mp hj) .none
    have hT := e4 ⟨k, List.mem_range.mpr hk1, hk2⟩
    have hi : iR1 (fVar 3) (EM c g rows gs.length (some (.val best)) (some (.val (encP p))) (some (.val .none)) u7 u8) = some (jsE (List.range gs.length)) := by
      rw [iR1_nat (n := gs.length) (by simp only [EM, m_fVarS, m_fVar0]) (by omega)]
      simp only [rngD, jsE, Int.sub_zero, Int.toNat_natCast]
    obtain ⟨y, hy, rfl⟩ : ∃ y : Int, (1 ≤ y ∧ y ≤ 300) ∧ least = .tuple [.int 0, .int y] := by
      cases e2 with
      | none => simp [isT] at hT
      | @some y hy => exact ⟨y, hy, rfl⟩
    have hlast : ∃ best1, sIf (fOr (o2 dIsN (fVar 4) (fC .none)) (o2 dGt (o2 dMul (o2 dIdx (fVar 6) (fC (.int 0))) (o2 dIdx (fVar 4) (fC (.int 1)))) (o2 dMul (o2 dIdx (fVar 4) (fC (.int 0))) (o2 dIdx (fVar 6) (fC (.int 1)))))) (sSet 4 (fVar 6)) sNext (EM c g rows gs.length (some (.val best)) (some (.val (encP p))) (some (.val (.tuple [.int 0, .int y]))) v7 v8) =
        some (.nx (EM c g rows gs.length (some (.val best1)) (some (.val (encP p))) (some (.val (.tuple [.int 0, .int y]))) v7 v8)) ∧ Lst best1 ∧ isT best1 = true := by
      cases hb with
      | none => exact ⟨.tuple [.int 0, .int y], by simp, .some hy, rfl⟩
      | @some z hz' => exact ⟨.tuple [.int 0, .int z], by simp, .some hz', rfl⟩
    obtain ⟨best1, l1, l2, l3⟩ := hlast
    obtain ⟨best2, w5, w6, w7, w8, f1, f2, f3⟩ := mean_out (g := g) hz hr hlr hln ps best1 (some (.val (encP p))) (some (.val (.tuple [.int 0, .int y]))) v7 v8 (fun x hx => hp x (List.mem_cons_of_mem _ hx)) l2
    refine ⟨best2, w5, w6, w7, w8, ?_, f2, fun _ => f3 (.inl l3)⟩
    have hcons : forF (gN 5) BM2 ((p :: ps).map encP) (EM c g rows gs.length (some (.val best)) u5 u6 u7 u8) = seqK (BM2 (EM c g rows gs.length (some (.val best)) (some (.val (encP p))) u6 u7 u8)) (forF (gN 5) BM2 (ps.map encP)) := by
      simp -implicitDefEqProofs only [List.map_cons, for_cons, m_gN, Option.bind_some, EM, List.set_cons_succ, List.set_cons_zero]
    have hset : sSet 6 (fC .none) (EM c g rows gs.length (some (.val best)) (some (.val (encP p))) u6 u7 u8) = some (.nx (EM c g rows gs.length (some (.val best)) (some (.val (encP p))) (some (.val .none)) u7 u8)) := by simp
    rw [hcons, BM2, m_seq, hset, m_seqN, m_seq, m_for, hi, Option.bind_some, e1, m_seqN, l1, m_seqN]
    exact f1
theorem mean_B : B_mean_of = sSeq (sPar3 2 3 4 (fsC (vF (oA F_sums_from (ac (fVar 0) (ac (fVar 1) a0)))) (fsC (vF (oA gLenD (ac (fVar 0) a0))) (fsC (vF (fC .none)) fs0)))) (sSeq (sFor (iK (o2 dIdx (fVar 2) (fVar 3))) (gN 5) BM2) (sRet (oA F_lowest (ac (o2 dIdx (fVar 4) (fC (.int 0))) (ac (o2 dIdx (fVar 4) (fC (.int 1))) a0))))) := rfl
theorem F_mean_of_eq {c : Cfg} {gs : List PT} (hz : Zero c gs) : F_mean_of [.dict (graphE c gs), encP P0] = some (.tuple [.int 0, .int 1]) := by
  obtain ⟨rows, s1, s2, s3⟩ := F_sums_from_eq hz
  obtain ⟨ln, hln⟩ : ∃ l, rows[gs.length]? = some l := ⟨rows[gs.length]'(by omega), List.getElem?_eq_getElem (by omega)⟩
  obtain ⟨p, hp⟩ := reach_ne hz.ok gs.length
  have hpl := ((s2 _ _ hln).2.2 p).mpr hp
  have hne : ln ≠ [] := fun e => by rw [e] at hpl; simp at hpl
  obtain ⟨best, u5, u6, u7, u8, e1, e2, e3⟩ := mean_out (g := .dict (graphE c gs)) hz s2 s3 hln ln .none none none none none (fun _ h => h) .none
  have hT := e3 (.inr hne)
  have hF : F_mean_of = runF 9 B_mean_of := rfl
  have hg : (graphE c gs).length = gs.length := by simp [graphE]
  have hpar : sPar3 2 3 4 (fsC (vF (oA F_sums_from (ac (fVar 0) (ac (fVar 1) a0)))) (fsC (vF (oA gLenD (ac (fVar 0) a0))) (fsC (vF (fC .none)) fs0))) (startE 9 [.dict (graphE c gs), encP P0]) = some (.nx (EM c (.dict (graphE c gs)) rows gs.length (some (.val .none)) none none none none)) := by
    simp -implicitDefEqProofs [sPar3, fsC, vF, fs0, s1, gLenD, hg, List.replicate]
  have hi : iK (o2 dIdx (fVar 2) (fVar 3)) (EM c (.dict (graphE c gs)) rows gs.length (some (.val .none)) none none none none) = some (ln.map encP) := by
    unfold iK
    simp only [m_o2, EM, m_fVarS, m_fVar0, Option.bind_some, row_at hln]
    simp [rowD, zeroE]
  rw [hF, m_runF, mean_B, m_seq, hpar, m_seqN, m_seq, m_for, hi, Option.bind_some, e1, m_seqN]
  cases e2 with
  | none => simp [isT] at hT
  | @some y hy => simp -implicitDefEqProofs [F_lowest_eq hy.1 (by omega)]
/-! ### leads -/
theorem F_need_lead_ok {c : Cfg} (hc : c.Ok) : F_need_lead [c.r1, c.r2, ldE c.m c.most c.ws] = some .none := by
  have h1 : dIdx (ldE c.m c.most c.ws) (.int 2) = some (wsE c.ws) := by simp [ldE]
  have h2 := (eqD_words hc.ld.words).2
  simp [F_need_lead, B_need_lead, F_need_endless, B_need_endless, sDrop, F_need_rule_ok hc.one, F_need_rule_ok hc.other, F_need_load_ok hc.ld (j := 3) (by decide), h1, h2]
theorem F_greatest_lead_eq {c : Cfg} (hc : c.Ok) (h : ∀ j p, Reach c j p → ∀ d ∈ c.dsp p, cst p.1 d.1 d.2 = cst p.2 d.1 d.2) : F_greatest_lead [c.r1, c.r2, ldE c.m c.most c.ws] = some (.tuple [.int 0, .int 1]) := by
  obtain ⟨gs, e1, e2⟩ := F_pair_graph_eq hc
  have hz : Zero c gs := ⟨hc, e2.nd, fun p hp => by
    obtain ⟨j, hj⟩ := e2.reach p hp
    exact hj.good hc, fun p hp d hd => (e2.closed p hp d hd).elim id fun h => by simp at h, fun p hp d hd => by
    obtain ⟨j, hj⟩ := e2.reach p hp
    exact h j p hj d hd, e2.start.elim id fun h => by simp at h⟩
  have he : PyData.tuple [.tuple [], .tuple []] = encP P0 := rfl
  simp -implicitDefEqProofs [F_greatest_lead, B_greatest_lead, sDrop, F_need_lead_ok hc, he, e1, F_mean_of_eq hz]
def Cfg.swap (c : Cfg) : Cfg := ⟨c.m, c.most, c.ws, c.r2, c.r1⟩
theorem Cfg.Ok.swap {c : Cfg} (h : c.Ok) : c.swap.Ok := ⟨h.ld, h.other, h.one⟩
theorem swap_dsp {c : Cfg} {p : PT} (g : PGood c.m p) : c.swap.dsp p.swap = c.dsp p := by
  have : p.2.keys = p.1.keys := g.other.keys
  show deedsOf c.m c.most c.ws p.2.keys = deedsOf c.m c.most c.ws p.1.keys
  rw [this]
theorem swap_st {c : Cfg} {q : PT} {d : Str × Int} : (c.swap.st q d).swap = c.st q.swap d := by
  simp only [Cfg.st, stp, Cfg.swap, Prod.swap]
theorem reach_swap {c : Cfg} (hc : c.Ok) {j : Nat} {p : PT} (h : Reach c.swap j p) : Reach c j p.swap := by
  induction h with
  | start => exact .start
  | @step n q d hq hd ih =>
    have g := ih.good hc
    have hd' : d ∈ c.dsp q.swap := by
      have := swap_dsp (c := c) g
      rw [Prod.swap_swap] at this
      rw [← this]
      exact hd
    rw [swap_st]
    exact .step ih hd'
theorem zero_swap {c : Cfg} (hc : c.Ok) (h : ∀ j p, Reach c j p → ∀ d ∈ c.dsp p, cst p.1 d.1 d.2 = cst p.2 d.1 d.2) : ∀ j p, Reach c.swap j p → ∀ d ∈ c.swap.dsp p, cst p.1 d.1 d.2 = cst p.2 d.1 d.2 := fun j p hp d hd => by
  have h1 := reach_swap hc hp
  have g := h1.good hc
  have h2 := swap_dsp (c := c) g
  rw [Prod.swap_swap] at h2
  exact (h j _ h1 d (h2 ▸ hd)).symm
theorem costs_alike {c : Cfg} (h : c.find true = some none) : ∀ j p, Reach c j p → ∀ d ∈ c.dsp p, cst p.1 d.1 d.2 = cst p.2 d.1 d.2 := fun j p hp d hd => by
  have := find_none h j p hp d hd
  simpa [Cfg.chk] using this
theorem row_costs {c : Cfg} (hc : c.Ok) (h : ∀ j p, Reach c j p → ∀ d ∈ c.dsp p, cst p.1 d.1 d.2 = cst p.2 d.1 d.2) : ∀ (row : Row) (j : Nat) (p : PT), Reach c j p → RowOk p.1.keys row → (∀ d ∈ row, d.1 ∈ c.ws ∧ d.2 ≤ c.m) → (∀ l ∈ alongK p.1.keys row, (l.length : Int) ≤ c.most) → costs c.r1 p.1 row = costs c.r2 p.2 row
  | [], _, _, _, _, _, _ => rfl
  | (w, k) :: row, j, p, hp, ⟨hd, ho⟩, hl, hk => by
    obtain ⟨l1, l2⟩ := hl (w, k) List.mem_cons_self
    have hmem : (w, k) ∈ c.dsp p := mem_deedsOf.mpr ⟨l1, ⟨hd.key.1, l2⟩, hd.can, fun e => by
      have h1 := hk (nextK p.1.keys w k) List.mem_cons_self
      have h2 : k ∉ p.1.keys := fun z => hd.can.mp z e
      subst e
      simp only [nextK, if_pos] at h1
      rw [len_insK h2] at h1
      omega⟩
    have hkeys := (stp_ok hc.one hc.other hc.ld (hp.good hc) hmem).2.2.2
    have hr := row_costs hc h row (j + 1) (c.st p (w, k)) (.step hp hmem) (by
      show RowOk (stp c.r1 c.r2 p (w, k)).1.keys row
      rw [hkeys]
      exact ho) (fun d hd' => hl d (List.mem_cons_of_mem _ hd')) (by
      show ∀ l ∈ alongK (stp c.r1 c.r2 p (w, k)).1.keys row, _
      rw [hkeys]
      exact fun l hl' => hk l (List.mem_cons_of_mem _ hl'))
    show cst p.1 w k :: costs c.r1 (nxt c.r1 p.1 w k) row = cst p.2 w k :: costs c.r2 (nxt c.r2 p.2 w k) row
    rw [h j p hp (w, k) hmem]
    exact congrArg _ hr
end L3

/-! N1: _law_pick, _law_ranks, _law_rule. -/
namespace L3
open PySem PySem.Spec PyProof.Rows L2
section
variable {P : Program} {w : World} {K : PySem.W.Frag} {mg : Str → Option Value} {base : Heap}
def W_pick : WF := fun ds Φ => ∃ xs, ds = [.list xs] ∧ xs ≠ [] ∧ xs.length ≤ 1000 ∧ ∀ x ∈ xs, Φ x
theorem mo_pick : MoF W_pick := fun ds Φ Φ' h ⟨xs, e, h0, h1, q⟩ => ⟨xs, e, h0, h1, fun i a => h _ (q i a)⟩
abbrev N_law_pick : List Str := ["_law_script", "_law_town", "_law_some"]
theorem sc_law_pick : FnScope N_law_pick ["_law_script", "_law_town", "_law_some"] (defScope s_law_pick) := ⟨rfl, rfl, rfl, by decide +kernel, rfl, by decide +kernel, by decide +kernel⟩
theorem at_mem {xs : List PyData} {i : Int} (h0 : 0 ≤ i) (h1 : i < xs.length) : ∃ x ∈ xs, L2.atI xs i = some x := by
  obtain ⟨k, rfl⟩ := Int.eq_ofNat_of_zero_le h0
  have hk : k < xs.length := by omega
  exact ⟨xs[k], List.getElem_mem _, by rw [at_nat, List.getElem?_eq_getElem hk]⟩
theorem ok_law_pick (T : Txt K mg) : OkN P w K mg base "_law_pick" ["_law_script", "_law_town", "_law_some"] 2 1 W_pick :=
  okN_mk (k := 1) (ws := wRet (wO2 dIdx (wP (fVar 2)) (wCall 1 W_draw (wAc (wP (oA gLen (ac (fVar 2) a0))) wA0)))) T.law_pick sc_law_pick rfl (fun _ _ _ _ _ _ us hl => match us, hl with | [_, _, _], _ => rfl) mo_pick
    (fun ds p q Φ hp hq hl ⟨xs, e, h0, h1, h⟩ => by
      subst e
      have hpos : 0 < xs.length := List.length_pos_iff.mpr h0
      refine ⟨_, rfl, _, rfl, rfl, (xs.length : Int), rfl, by omega, by omega, fun i a b p' q' _ _ => ?_⟩
      obtain ⟨x, hx, e⟩ := at_mem a b
      exact ⟨x, e, h x hx⟩)
    fun fa cdv A outer s H C h63 hr => show NB _ C (defBody s_law_pick) _ from
      nb_one (ns_ret (ne_ix (ne_pure (pv_name 2 (pv 2))) (ne_callO (ok_law_draw T) hr (by decide) rfl h63 (pv 0) (pv 1) (na_cons (ne_pure (pv_bi call_len_seq gv_len rfl T.bi.len boot_len (pva_cons (pv_name 2 (pv 2)) pva_nil))) na_nil))))
/-! ### ranks -/
def W_ranks : WF := fun ds Φ => ds = [] ∧ ∀ ord : List Int, ord.Perm [1, 2, 3, 4, 5, 6] → Φ (.tuple [.str "ranks", .tuple (ord.map .int)])
theorem mo_ranks : MoF W_ranks := fun ds Φ Φ' h ⟨e, q⟩ => ⟨e, fun i a => h _ (q i a)⟩
abbrev N_law_ranks : List Str := ["_law_script", "_law_town", "_law_left", "_law_order_here"]
theorem sc_law_ranks : FnScope N_law_ranks ["_law_script", "_law_town"] (defScope s_law_ranks) := ⟨rfl, rfl, rfl, by decide +kernel, rfl, by decide +kernel, by decide +kernel⟩
abbrev ER (p q : Int) (l o : List Int) : PEnv := [none, some (townE p q), some (.lst (l.map .int)), some (.lst (o.map .int))]
abbrev CR : WT := wPT (fThaw 2 (o2 dNeE (fVar 2) (fLst a0)))
abbrev LR : WS := wAppPop 3 2 (wCall 1 W_draw (wAc (wP (fThaw 2 (oA gLen (ac (fVar 2) a0)))) wA0))
theorem erase_map {α β : Type} (f : α → β) : ∀ (l : List α) (k : Nat), (l.map f).eraseIdx k = (l.eraseIdx k).map f
  | [], _ => rfl
  | a :: l, 0 => rfl
  | a :: l, k + 1 => by simp [erase_map f l k]
theorem erase_perm {α : Type} : ∀ (l : List α) (k : Nat) (h : k < l.length), (l[k] :: l.eraseIdx k).Perm l
  | [], k, h => by simp at h
  | a :: l, 0, h => .refl _
  | a :: l, k + 1, h => by
    have := erase_perm l k (by simpa using h)
    simp only [List.getElem_cons_succ, List.eraseIdx_cons_succ]
    exact (List.Perm.swap a _ _).trans (this.cons a)
theorem ranks_while {N : PEnv → Prop} {R : PyData → PEnv → Prop} (hN : ∀ p q o, 0 ≤ p → 0 ≤ q → o.Perm [1, 2, 3, 4, 5, 6] → N (ER p q [] o)) : ∀ (n : Nat) (p q : Int) (l o : List Int), 0 ≤ p → 0 ≤ q → l.length < n → n ≤ 8 → (l ++ o).Perm [1, 2, 3, 4, 5, 6] → wWhile CR LR n (ER p q l o) N R
  | 0, _, _, _, _, _, _, h, _, _ => by omega
  | n + 1, p, q, l, o, hp, hq, hl, h8, hperm => by
    have hlen := hperm.length_eq
    simp only [List.length_append, List.length_cons, List.length_nil] at hlen
    refine ⟨!l.isEmpty, ?_, ?_⟩
    · have := canLay_ints l
      simp [fThaw, dNeE, isE, this, flat1, ← lst_nil, iL0]
    · cases l with
      | nil => exact hN p q o hp hq (by simpa using hperm)
      | cons a l =>
        generalize hL : a :: l = L at *
        have hne : (!L.isEmpty) = true := by rw [← hL]; rfl
        have hpos : 0 < L.length := by rw [← hL]; simp
        rw [if_pos hne]
        refine ⟨o.map .int, L.map .int, rfl, rfl, .int L.length, by simp [fThaw, flat1], rfl, (L.length : Int), rfl, by omega, by omega, fun i h0 h1 p' q' hp' hq' => ?_⟩
        obtain ⟨k, rfl⟩ := Int.eq_ofNat_of_zero_le h0
        have hk : k < L.length := by omega
        refine ⟨k, .int L[k], rfl, rfl, rfl, by simp [hk], by simp; omega, by simp; omega, ?_⟩
        have e : ((List.set (ER p q L o) 1 (some (townE p' q'))).set 2 (some (.lst ((L.map PyData.int).eraseIdx k)))).set 3 (some (.lst (o.map PyData.int ++ [.int L[k]]))) = ER p' q' (L.eraseIdx k) (o ++ [L[k]]) := by
          simp [ER, erase_map]
        rw [e]
        refine ranks_while hN n p' q' _ _ hp' hq' ?_ (by omega) ?_
        · rw [List.length_eraseIdx_of_lt hk]
          omega
        · refine List.Perm.trans ?_ hperm
          have h2 := erase_perm L k hk
          refine List.Perm.trans ?_ (h2.append_right o)
          rw [List.cons_append, ← List.append_assoc]
          exact List.perm_append_singleton _ _
theorem ok_law_ranks (T : Txt K mg) : OkN P w K mg base "_law_ranks" ["_law_script", "_law_town"] 2 0 W_ranks :=
  okN_mk (k := 1) (ws := wSeq (wPar2F 2 3 (fsC (lF (ac (fC (.int 1)) (ac (fC (.int 2)) (ac (fC (.int 3)) (ac (fC (.int 4)) (ac (fC (.int 5)) (ac (fC (.int 6)) a0))))))) (fsC (lF a0) fs0)))
      (wSeq (wWhile CR LR 8) (wFrz 3 (wRet (wP (fTup (ac (fC (.str "ranks")) (ac (oA gTup (ac (fVar 3) a0)) a0)))))))) T.law_ranks sc_law_ranks rfl (fun _ _ _ _ _ _ us hl => match us, hl with | [_, _], _ => rfl) mo_ranks
    (fun ds p q Φ hp hq hl ⟨e, h⟩ => by
      subst e
      refine ⟨_, _, rfl, ?_⟩
      refine ranks_while (fun p q o _ _ ho => ?_) 8 p q [1, 2, 3, 4, 5, 6] [] hp hq (by decide) (by decide) (by simp)
      exact ⟨o.map .int, rfl, _, rfl, h o ho⟩)
    fun fa cdv A outer s H C h63 hr => show NB _ C (defBody s_law_ranks) _ from
      nb_cons (ns_par2F (i := 2) (j := 3) (by decide) (by decide) rfl sc_law_ranks.nd rfl rfl (by decide) rfl rfl (pfs_cons (pf_lst (pva_cons pv_int (pva_cons pv_int (pva_cons pv_int (pva_cons pv_int (pva_cons pv_int (pva_cons pv_int pva_nil)))))) (.cons (.cons (.cons (.cons (.cons (.cons .nil))))))) (pfs_cons (pf_lst pva_nil .nil) pfs_nil)) (by rfl))
      (nb_cons (ns_while 8 PassesOwn.never (nt_pure (pvt_thaw 2 (pvt_cmp (op_neR hr.units) g_neE (pv_name 2 (pv 2)) (pv_lst pva_nil .nil) (nomark _))))
        (nb_one (ns_appPop (i := 3) (j := 2) (by decide) (by decide) (by decide) (pv 3) (pv 2) (ne_callO (ok_law_draw T) hr (by decide) rfl h63 (pv 0) (pv 1) (na_cons (ne_pure (pv_thaw 2 (pv_bi call_len_seq gv_len rfl T.bi.len boot_len (pva_cons (pv_name 2 (pv 2)) pva_nil)))) na_nil)))))
      (nb_one (ns_frz (j := 3) (by decide) (ns_ret (ne_pure (pv_tup (pva_cons pv_str (pva_cons (pv_ty call_tuple_of gv_tup rfl T.bi.tuple (by decide +kernel) (pva_cons (pv_name 3 (pv 3)) pva_nil)) pva_nil)) (.cons (.cons .nil))))))))
/-! ### rule -/
def W_rule : WF := fun ds Φ => ds = [] ∧ ∀ r, RuleOk r → Φ r
theorem mo_rule : MoF W_rule := fun ds Φ Φ' h ⟨e, q⟩ => ⟨e, fun i a => h _ (q i a)⟩
abbrev N_law_rule : List Str := ["_law_script", "_law_town", "_law_names", "_law_name"]
theorem sc_law_rule : FnScope N_law_rule ["_law_script", "_law_town"] (defScope s_law_rule) := ⟨rfl, rfl, rfl, by decide +kernel, rfl, by decide +kernel, by decide +kernel⟩
abbrev namesF : FE := fLst (ac (fC (.str "heights")) (ac (fC (.str "levels")) (ac (fC (.str "once")) (ac (fC (.str "plain")) (ac (fC (.str "rebuilt")) (ac (fC (.str "splayed")) (ac (fC (.str "top")) (ac (fC (.str "weights")) (ac (fC (.str "ranks")) a0)))))))))
theorem ok_law_rule (T : Txt K mg) : OkN P w K mg base "_law_rule" ["_law_script", "_law_town"] 3 0 W_rule :=
  okN_mk (k := 2) (ws := wSeq (wSet 2 (wP namesF)) (wSeq (wSet 3 (wCall 1 W_pick (wAc (wP (fVar 2)) wA0)))
      (wRet (wIf (wPT (o2 dEq (fVar 3) (fC (.str "ranks")))) (wCall 0 W_ranks wA0) (wP (fTup (ac (fVar 3) a0))))))) T.law_rule sc_law_rule rfl (fun _ _ _ _ _ _ us hl => match us, hl with | [_, _], _ => rfl) mo_rule
    (fun ds p q Φ hp hq hl ⟨e, h⟩ => by
      subst e
      refine ⟨_, rfl, ?_⟩
      refine ⟨_, rfl, rfl, _, rfl, by simp, by simp, fun x hx p' q' _ _ => ?_⟩
      have key : ∀ y : Str, y ∈ FAM ++ (["ranks"] : List Str) → x = .str y → wRet (wIf (wPT (o2 dEq (fVar 3) (fC (.str "ranks")))) (wCall 0 W_ranks wA0) (wP (fTup (ac (fVar 3) a0)))) [none, some (townE p' q'), some (.val (.list [.str "heights", .str "levels", .str "once", .str "plain", .str "rebuilt", .str "splayed", .str "top", .str "weights", .str "ranks"])), some (.val x)] (fun _ => False) (fun d _ => Φ d) := by
        intro y hy e
        subst e
        refine ⟨decide (y = "ranks"), by simp, ?_⟩
        show if decide (y = "ranks") = true then _ else _
        by_cases c : y = "ranks"
        · rw [if_pos (by simp [c])]
          exact ⟨rfl, rfl, fun ord ho _ _ _ _ => h _ (.ranks ho)⟩
        · rw [if_neg (by simp [c])]
          refine ⟨_, rfl, h _ (.one ?_)⟩
          rcases List.mem_append.mp hy with hy | hy
          · exact hy
          · exact absurd (List.mem_singleton.mp hy) c
      have hx2 : x ∈ (FAM ++ (["ranks"] : List Str)).map PyData.str := hx
      obtain ⟨y, hy, rfl⟩ := List.mem_map.mp hx2
      exact key y hy rfl)
    fun fa cdv A outer s H C h63 hr => show NB _ C (defBody s_law_rule) _ from
      nb_cons (ns_set (i := 2) (ne_pure (pv_lst (pva_cons pv_str (pva_cons pv_str (pva_cons pv_str (pva_cons pv_str (pva_cons pv_str (pva_cons pv_str (pva_cons pv_str (pva_cons pv_str (pva_cons pv_str pva_nil))))))))) (.cons (.cons (.cons (.cons (.cons (.cons (.cons (.cons (.cons .nil))))))))))) (by decide) sc_law_rule.nd rfl (.inl rfl))
      (nb_cons (ns_set (i := 3) (ne_callO (ok_law_pick T) hr (by decide) rfl h63 (pv 0) (pv 1) (na_cons (ne_pure (pv_name 2 (pv 2))) na_nil)) (by decide) sc_law_rule.nd rfl (.inl rfl))
      (nb_one (ns_ret (ne_if (nt_pure (pvt_cmp op_eq g_eq (pv_name 3 (pv 3)) pv_str (nomark _))) (ne_callO (ok_law_ranks T) hr (by decide) rfl h63 (pv 0) (pv 1) na_nil) (ne_pure (pv_tup (pva_cons (pv_name 3 (pv 3)) pva_nil) (.cons .nil)))))))
end
end L3

/-! N2: _law_deed, _law_load, _law_endless_load. -/
namespace L3
open PySem PySem.Spec PyProof.Rows L2
def dNotIn (x y : PyData) : Option PyData := (dIn x y).bind dNot
theorem g_notIn {X : Cx} : Gives2 X (rIn X.K true) dNotIn := by
  intro O H x y d e z Q _ hx hy ez q
  unfold dNotIn dIn at ez
  split at ez
  · unfold inL at ez
    split at ez
    · rename_i hc
      simp only [Bool.and_eq_true] at hc
      cases ez
      obtain ⟨p, xs, rfl, h1, r1⟩ := rp_lst hy
      refine ⟨p, xs, rfl, .inl (SqL.of (cut_of h1).1), flat_of hc.1 hx, flat_all hc.2 r1, q _ H (Same.refl H) ?_⟩
      show RpX X _ (.bl (!inV x xs)) _
      unfold inV
      rw [any_of hc.1 hx hc.2 r1]
      exact .bl _
    · cases ez
  · unfold inL at ez
    split at ez
    · rename_i hc
      simp only [Bool.and_eq_true] at hc
      cases ez
      obtain ⟨p, xs, rfl, h1, r1⟩ := rp_tup hy
      refine ⟨p, xs, rfl, .inr (Same.seqT cut_le h1), flat_of hc.1 hx, flat_all hc.2 r1, q _ H (Same.refl H) ?_⟩
      show RpX X _ (.bl (!inV x xs)) _
      unfold inV
      rw [any_of hc.1 hx hc.2 r1]
      exact .bl _
    · cases ez
  · cases ez
def dAddI : PyData → PyData → Option PyData
  | .int i, .int j => some (.int (i + j))
  | _, _ => none
theorem g_addI {X : Cx} : Gives2 X (rI0 fun i j => .int (i + j)) dAddI := g2int0 fun d e z h => by
  unfold dAddI at h
  split at h
  · cases h
    exact ⟨_, _, rfl, rfl, fun _ => .int _⟩
  · cases h
theorem g_subI {X : Cx} : Gives2 X (rI0 fun i j => .int (i - j)) dSub := g2int0 fun d e z h => by
  unfold dSub at h
  split at h
  · cases h
    exact ⟨_, _, rfl, rfl, fun _ => .int _⟩
  · cases h
theorem eqE0 (l : List Int) : dEqE (iL0 l) (iL0 []) = some (.bool l.isEmpty) := eqE_ints l
theorem neE0 (l : List Int) : dNeE (iL0 l) (iL0 []) = some (.bool (!l.isEmpty)) := by
  show ((if PyData.canLayAll0 (l.map .int) && ([] : List PyData).isEmpty then some (l.map PyData.int).isEmpty else none).map fun k => PyData.bool (!k)) = _
  rw [canLay_ints]
  cases l <;> rfl
section
variable {P : Program} {w : World} {K : PySem.W.Frag} {mg : Str → Option Value} {base : Heap}
def W_deed : WF := fun ds Φ => ∃ here : List Int, ds = [iL0 here, .int 6] ∧ Srt here ∧ Rg here ∧ ∀ (x : Str) (k : Int), DeedOk here x k → Φ (ded x k)
theorem mo_deed : MoF W_deed := fun ds Φ Φ' h ⟨xs, e, h0, h1, q⟩ => ⟨xs, e, h0, h1, fun i a b => h _ (q i a b)⟩
abbrev N_law_deed : List Str := ["_law_script", "_law_town", "_law_here", "_law_keys_here", "_law_away", "_law_key"]
theorem sc_law_deed : FnScope N_law_deed ["_law_script", "_law_town", "_law_here", "_law_keys_here"] (defScope s_law_deed) := ⟨rfl, rfl, rfl, by decide +kernel, rfl, by decide +kernel, by decide +kernel⟩
abbrev awayF : FE := fComp [5] (iR2 (fC (.int 1)) (o2 dAdd (fVar 3) (fC (.int 1)))) (gN 5) (o2 dNotIn (fVar 5) (fVar 2)) (fVar 5)
abbrev condF : WT := wOr (wPT (o2 dEqE (fVar 2) (fLst a0))) (wAnd (wPT (o2 dNeE (fVar 4) (fLst a0))) (wT (wO2 dEq (wCall 1 W_draw (wAc (wP (fC (.int 2))) wA0)) (wP (fC (.int 0))))))
abbrev inF : WS := wRet (wTup (wAc (wP (fC (.str "in"))) (wAc (wCall 1 W_pick (wAc (wP (fVar 4)) wA0)) wA0)))
abbrev outF : WS := wRet (wTup (wAc (wCall 1 W_pick (wAc (wP (fLst (ac (fC (.str "ask")) (ac (fC (.str "out")) a0)))) wA0)) (wAc (wCall 1 W_pick (wAc (wP (fVar 2)) wA0)) wA0)))
abbrev EDe (p q : Int) (here away : List Int) : PEnv := [none, some (townE p q), some (.val (iL0 here)), some (.val (.int 6)), some (.val (iL0 away)), none]
theorem not_in (k : Int) (l : List Int) : dNotIn (.int k) (iL0 l) = some (.bool (!decide (k ∈ l))) := by
  unfold dNotIn
  rw [in_ints]
  rfl
theorem away_eq {p q : Int} {here : List Int} {u4 : Option EV} : awayF [none, some (townE p q), some (.val (iL0 here)), some (.val (.int 6)), u4, none] = some (iL0 ((rngI 6).filter fun k => !decide (k ∈ here))) := by
  have := comp_ints (i := 5) (ft := o2 dNotIn (fVar 5) (fVar 2)) (fe := fVar 5) (ρ := [none, some (townE p q), some (.val (iL0 here)), some (.val (.int 6)), u4, none]) (fun k => !decide (k ∈ here)) .int (rngI 6) fun k hk => by simp [not_in]
  have hi : iR2 (fC (.int 1)) (o2 dAdd (fVar 3) (fC (.int 1))) [none, some (townE p q), some (.val (iL0 here)), some (.val (.int 6)), u4, none] = some ((rngI 6).map .int) := rfl
  rw [awayF, m_comp, hi, Option.bind_some]
  simp only [m_wipeC, m_wipe0, List.set_cons_succ, List.set_cons_zero, this, Option.bind_some]
  rw [if_pos (by decide)]
  rfl
theorem ok_law_deed (T : Txt K mg) : OkN P w K mg base "_law_deed" ["_law_script", "_law_town", "_law_here", "_law_keys_here"] 3 2 W_deed :=
  okN_mk (k := 2) (ws := wSeq (wSet 4 (wP awayF)) (wSeq (wIfS condF inF wNext) outF)) T.law_deed sc_law_deed rfl (fun _ _ _ _ _ _ us hl => match us, hl with | [_, _, _, _], _ => rfl) mo_deed
    (fun ds p q Φ hp hq hl ⟨here, e, hs, hr, h⟩ => by
      subst e
      refine ⟨_, away_eq, ?_⟩
      have ha : ∀ k, k ∈ (rngI 6).filter (fun k => !decide (k ∈ here)) ↔ (1 ≤ k ∧ k ≤ 6) ∧ k ∉ here := fun k => by
        rw [List.mem_filter, mem_rngI]
        simp
      have hal : ((rngI 6).filter fun k => !decide (k ∈ here)).length ≤ 6 := List.length_filter_le _ _
      generalize (rngI 6).filter (fun k => !decide (k ∈ here)) = away at ha hal
      have hfew := srt_few hs hr
      have hIn : ∀ p' q' : Int, away ≠ [] → inF (EDe p' q' here away) (fun _ => False) fun d _ => Φ d := fun p' q' hne => by
        refine ⟨_, rfl, _, rfl, rfl, away.map .int, rfl, by simpa using hne, by simp; omega, fun x hx p2 q2 _ _ => ⟨by simp, ?_⟩⟩
        obtain ⟨k, hk, rfl⟩ := List.mem_map.mp hx
        obtain ⟨k1, k2⟩ := (ha k).mp hk
        exact h "in" k ⟨by simp, k1, ⟨fun z => absurd z k2, fun z => absurd rfl z⟩⟩
      have hOut : ∀ p' q' : Int, here ≠ [] → outF (EDe p' q' here away) (fun _ => False) fun d _ => Φ d := fun p' q' hne => by
        refine ⟨_, rfl, rfl, _, rfl, by simp, by simp, fun x hx p2 q2 _ _ => ⟨_, rfl, rfl, here.map .int, rfl, by simpa using hne, by simp; omega, fun y hy p3 q3 _ _ => ⟨by simp, ?_⟩⟩⟩
        obtain ⟨k, hk, rfl⟩ := List.mem_map.mp hy
        have hx2 : x ∈ ([("ask" : Str), "out"] : List Str).map PyData.str := hx
        obtain ⟨v, hv, rfl⟩ := List.mem_map.mp hx2
        refine h v k ⟨?_, hr k hk, ⟨fun _ => ?_, fun _ => hk⟩⟩
        · rcases List.mem_cons.mp hv with rfl | hv
          · simp
          · rw [List.mem_singleton.mp hv]
            simp
        · rcases List.mem_cons.mp hv with rfl | hv
          · simp
          · rw [List.mem_singleton.mp hv]
            simp
      show wSeq (wIfS condF inF wNext) outF (EDe p q here away) (fun _ => False) fun d _ => Φ d
      cases here with
      | nil =>
        refine ⟨true, by simp [eqE0], ?_⟩
        show if true = true then _ else _
        rw [if_pos rfl]
        refine hIn p q fun e => ?_
        have := (ha 1).mpr ⟨by omega, by simp⟩
        rw [e] at this
        simp at this
      | cons a l =>
        refine ⟨false, by simp [eqE0], ?_⟩
        show if false = true then _ else _
        rw [if_neg (by simp)]
        cases away with
        | nil =>
          refine ⟨false, by simp [neE0], ?_⟩
          show if false = true then _ else _
          rw [if_neg (by simp)]
          exact hOut p q (by simp)
        | cons b m =>
          refine ⟨true, ?_, ?_⟩
          · simp [neE0]
          · show if true = true then _ else _
            rw [if_pos rfl]
            refine ⟨_, rfl, rfl, 2, rfl, by decide, by decide, fun i h0 h1 p' q' _ _ => ⟨_, rfl, _, rfl, decide (i = 0), rfl, ?_⟩⟩
            show if decide (i = 0) = true then _ else _
            split
            · exact hIn p' q' (by simp)
            · exact hOut p' q' (by simp))
    fun fa cdv A outer s H C h63 hr => show NB _ C (defBody s_law_deed) _ from
      nb_cons (ns_setComp (i := 4) (own := [("_law_key", 5)]) (by decide) rfl sc_law_deed.nd rfl rfl (sw_true rfl rfl rfl (by decide +kernel)) (piv_rng2 rfl T.bi.range pv_int (pv_add (pv_name 3 (pv 3)) pv_int)) (blkOk_by (own := [("_law_key", 5)]) (N := N_law_deed) (sc := defScope s_law_deed) (by decide +kernel)) (fun _ _ _ _ _ => (pgv_name (pg_name (i := 5) sc_law_deed.nd rfl (.inl rfl)))) (fun _ _ _ _ _ => (ptv_one (pvt_cmp op_notIn_seq g_notIn (pv_name 5 (pv 5)) (pv_name 2 (pv 2)) (by rfl)))) (fun _ _ _ _ _ => (pv_name 5 (pv 5))) (by decide))
      (nb_cons (ns_if (NW.nt (nw_or (nt_pure (pvt_cmp (op_eqR hr.units) g_eqE (pv_name 2 (pv 2)) (pv_lst pva_nil .nil) (nomark _))) (nw_one_or (NW.nt (nw_and (nt_pure (pvt_cmp (op_neR hr.units) g_neE (pv_name 4 (pv 4)) (pv_lst pva_nil .nil) (nomark _))) (nw_one_and (nt_cmp op_eq g_eq (ne_callO (ok_law_draw T) hr (by decide) rfl h63 (pv 0) (pv 1) (na_cons (ne_pure pv_int) na_nil)) (ne_pure pv_int) (nomark _))))))))
        (nb_one (ns_ret (ne_tup (na_cons (ne_pure pv_str) (na_cons (ne_callO (ok_law_pick T) hr (by decide) rfl h63 (pv 0) (pv 1) (na_cons (ne_pure (pv_name 4 (pv 4))) na_nil)) na_nil))))) nb_nil)
      (nb_one (ns_ret (ne_tup (na_cons (ne_callO (ok_law_pick T) hr (by decide) rfl h63 (pv 0) (pv 1) (na_cons (ne_pure (pv_lst (pva_cons pv_str (pva_cons pv_str pva_nil)) (.cons (.cons .nil)))) na_nil)) (na_cons (ne_callO (ok_law_pick T) hr (by decide) rfl h63 (pv 0) (pv 1) (na_cons (ne_pure (pv_name 2 (pv 2))) na_nil)) na_nil))))))
/-! ### loads -/
inductive WsAll : List Str → Prop
  | ok {ws : List Str} (h : WsOk ws) : WsAll ws
  | one : WsAll ["in"]
def W_load : WF := fun ds Φ => ∃ M : Int, ds = [.int M] ∧ 1 ≤ M ∧ M ≤ 3 ∧ ∀ (m most : Int) (ws : List Str), 1 ≤ most → most ≤ m → m ≤ M → WsAll ws → Φ (ldE m most ws)
theorem mo_load : MoF W_load := fun ds Φ Φ' h ⟨M, e, h0, h1, q⟩ => ⟨M, e, h0, h1, fun a b c d e f g => h _ (q a b c d e f g)⟩
abbrev N_law_load : List Str := ["_law_script", "_law_town", "_law_most", "_law_keys_here", "_law_words"]
theorem sc_law_load : FnScope N_law_load ["_law_script", "_law_town", "_law_most"] (defScope s_law_load) := ⟨rfl, rfl, rfl, by decide +kernel, rfl, by decide +kernel, by decide +kernel⟩
abbrev a3 : FE := fTup (ac (fC (.str "ask")) (ac (fC (.str "in")) (ac (fC (.str "out")) a0)))
abbrev wordsF : FE := fLst (ac a3 (ac (fTup (ac (fC (.str "ask")) (ac (fC (.str "in")) a0))) (ac (fTup (ac (fC (.str "in")) (ac (fC (.str "out")) a0))) (ac a3 (ac (fTup (ac (fC (.str "in")) a0)) a0)))))
abbrev lessF : FE := fLst (ac (fC (.int 0)) (ac (fC (.int 0)) (ac (fC (.int 0)) (ac (fC (.int 1)) (ac (fC (.int 2)) a0)))))
theorem ok_law_load (T : Txt K mg) : OkN P w K mg base "_law_load" ["_law_script", "_law_town", "_law_most"] 3 1 W_load :=
  okN_mk (k := 2) (ws := wSeq (wSet 3 (wO2 dAddI (wP (fC (.int 1))) (wCall 1 W_draw (wAc (wP (fVar 2)) wA0)))) (wSeq (wIfS (wT (wO2 dGt (wCall 1 W_draw (wAc (wP (fC (.int 3))) wA0)) (wP (fC (.int 0))))) (wSet 3 (wP (fVar 2))) wNext)
      (wSeq (wSet 4 (wCall 1 W_pick (wAc (wP wordsF) wA0))) (wRet (wTup (wAc (wP (fVar 3)) (wAc (wOA gMax (wAc (wP (fC (.int 1))) (wAc (wO2 dSub (wP (fVar 3)) (wCall 1 W_pick (wAc (wP lessF) wA0))) wA0))) (wAc (wP (fVar 4)) wA0)))))))) T.law_load sc_law_load rfl (fun _ _ _ _ _ _ us hl => match us, hl with | [_, _, _], _ => rfl) mo_load
    (fun ds p q Φ hp hq hl ⟨M, e, h1, h3, h⟩ => by
      subst e
      have tail : ∀ (p' q' m : Int), 1 ≤ m → m ≤ M → wSeq (wSet 4 (wCall 1 W_pick (wAc (wP wordsF) wA0))) (wRet (wTup (wAc (wP (fVar 3)) (wAc (wOA gMax (wAc (wP (fC (.int 1))) (wAc (wO2 dSub (wP (fVar 3)) (wCall 1 W_pick (wAc (wP lessF) wA0))) wA0))) (wAc (wP (fVar 4)) wA0))))) [none, some (townE p' q'), some (.val (.int M)), some (.val (.int m)), none] (fun _ => False) fun d _ => Φ d := by
        intro p' q' m hm1 hm2
        refine ⟨_, rfl, rfl, _, rfl, by simp, by simp, fun x hx p2 q2 _ _ => ?_⟩
        refine ⟨_, rfl, _, rfl, _, rfl, _, rfl, rfl, _, rfl, by simp, by simp, fun y hy p3 q3 _ _ => ?_⟩
        have hx2 : ∃ ws, WsAll ws ∧ x = wsE ws := by
          simp only [List.mem_cons, List.not_mem_nil, or_false] at hx
          rcases hx with rfl | rfl | rfl | rfl | rfl
          · exact ⟨_, .ok .all, rfl⟩
          · exact ⟨_, .ok .ask, rfl⟩
          · exact ⟨_, .ok .out, rfl⟩
          · exact ⟨_, .ok .all, rfl⟩
          · exact ⟨_, .one, rfl⟩
        obtain ⟨ws, hws, rfl⟩ := hx2
        have hy2 : ∃ z : Int, 0 ≤ z ∧ y = .int z := by
          simp only [List.mem_cons, List.not_mem_nil, or_false] at hy
          rcases hy with rfl | rfl | rfl | rfl | rfl
          · exact ⟨0, by decide, rfl⟩
          · exact ⟨0, by decide, rfl⟩
          · exact ⟨0, by decide, rfl⟩
          · exact ⟨1, by decide, rfl⟩
          · exact ⟨2, by decide, rfl⟩
        obtain ⟨z, hz, rfl⟩ := hy2
        refine ⟨.int (m - z), rfl, .int (if m - z > 1 then m - z else 1), rfl, _, rfl, by simp, ?_⟩
        exact h m _ ws (by split <;> omega) (by split <;> omega) hm2 hws
      refine ⟨_, rfl, _, rfl, rfl, M, rfl, by omega, by omega, fun i h0 h1' p' q' _ _ => ⟨.int (1 + i), rfl, ?_⟩⟩
      refine ⟨_, rfl, rfl, 3, rfl, by decide, by decide, fun j _ _ p2 q2 _ _ => ⟨_, rfl, _, rfl, decide (0 < j), rfl, ?_⟩⟩
      show if decide (0 < j) = true then _ else _
      split
      · exact ⟨_, rfl, tail p2 q2 M h1 (by omega)⟩
      · exact tail p2 q2 (1 + i) (by omega) (by omega))
    fun fa cdv A outer s H C h63 hr => show NB _ C (defBody s_law_load) _ from
      nb_cons (ns_set (i := 3) (ne_bin op_add g_addI (ne_pure pv_int) (ne_callO (ok_law_draw T) hr (by decide) rfl h63 (pv 0) (pv 1) (na_cons (ne_pure (pv_name 2 (pv 2))) na_nil))) (by decide) sc_law_load.nd rfl (.inl rfl))
      (nb_cons (ns_if (nt_cmp op_gt g_gt (ne_callO (ok_law_draw T) hr (by decide) rfl h63 (pv 0) (pv 1) (na_cons (ne_pure pv_int) na_nil)) (ne_pure pv_int) (nomark _)) (nb_one (ns_set (i := 3) (ne_pure (pv_name 2 (pv 2))) (by decide) sc_law_load.nd rfl (.inl rfl))) nb_nil)
      (nb_cons (ns_set (i := 4) (ne_callO (ok_law_pick T) hr (by decide) rfl h63 (pv 0) (pv 1) (na_cons (ne_pure (pv_lst (pva_cons (pv_tup (pva_cons pv_str (pva_cons pv_str (pva_cons pv_str pva_nil))) (.cons (.cons (.cons .nil)))) (pva_cons (pv_tup (pva_cons pv_str (pva_cons pv_str pva_nil)) (.cons (.cons .nil))) (pva_cons (pv_tup (pva_cons pv_str (pva_cons pv_str pva_nil)) (.cons (.cons .nil))) (pva_cons (pv_tup (pva_cons pv_str (pva_cons pv_str (pva_cons pv_str pva_nil))) (.cons (.cons (.cons .nil)))) (pva_cons (pv_tup (pva_cons pv_str pva_nil) (.cons .nil)) pva_nil))))) (.cons (.cons (.cons (.cons (.cons .nil))))))) na_nil)) (by decide) sc_law_load.nd rfl (.inl rfl))
      (nb_one (ns_ret (ne_tup (na_cons (ne_pure (pv_name 3 (pv 3))) (na_cons (ne_bi (call_max2 rfl) gv_max rfl T.bi.max (by decide +kernel) (na_cons (ne_pure pv_int) (na_cons (ne_bin op_sub g_subI (ne_pure (pv_name 3 (pv 3))) (ne_callO (ok_law_pick T) hr (by decide) rfl h63 (pv 0) (pv 1) (na_cons (ne_pure (pv_lst (pva_cons pv_int (pva_cons pv_int (pva_cons pv_int (pva_cons pv_int (pva_cons pv_int pva_nil))))) (.cons (.cons (.cons (.cons (.cons .nil))))))) na_nil))) na_nil))) (na_cons (ne_pure (pv_name 4 (pv 4))) na_nil))))))))
def W_endless : WF := fun ds Φ => ∃ M : Int, ds = [.int M] ∧ 1 ≤ M ∧ M ≤ 3 ∧ ∀ (m most : Int) (ws : List Str), LoadOk m most ws → Φ (ldE m most ws)
theorem mo_endless : MoF W_endless := fun ds Φ Φ' h ⟨M, e, h0, h1, q⟩ => ⟨M, e, h0, h1, fun a b c d => h _ (q a b c d)⟩
abbrev N_law_endless_load : List Str := ["_law_script", "_law_town", "_law_most", "_law_load_here"]
theorem sc_law_endless_load : FnScope N_law_endless_load ["_law_script", "_law_town", "_law_most"] (defScope s_law_endless_load) := ⟨rfl, rfl, rfl, by decide +kernel, rfl, by decide +kernel, by decide +kernel⟩
theorem neD_words {ws : List Str} (h : WsAll ws) : ∃ b : Bool, dNeD (wsE ws) (.tuple [.str "in"]) = some (.bool b) ∧ (b = true → WsOk ws) := by
  have key : ∀ ws : List Str, SeqAt.shaped (wsE ws) = true → dNeD (wsE ws) (.tuple [.str "in"]) = some (.bool (!PyData.eqv (wsE ws) (.tuple [.str "in"]))) := fun ws hs => by
    unfold dNeD
    rw [hs, if_pos (by decide +kernel)]
  cases h with
  | ok h =>
    refine ⟨_, key ws ?_, fun _ => h⟩
    cases h <;> decide +kernel
  | one =>
    refine ⟨_, key _ (by decide +kernel), fun e => ?_⟩
    have : (!PyData.eqv (wsE ["in"]) (.tuple [.str "in"])) = false := by decide +kernel
    rw [this] at e
    cases e
theorem ok_law_endless_load (T : Txt K mg) : OkN P w K mg base "_law_endless_load" ["_law_script", "_law_town", "_law_most"] 4 1 W_endless :=
  okN_mk (k := 3) (ws := wSeq (wSet 3 (wCall 1 W_load (wAc (wP (fVar 2)) wA0))) (wRet (wIf (wPT (o2 dNeD (o2 dIdx (fVar 3) (fC (.int 2))) (fTup (ac (fC (.str "in")) a0)))) (wP (fVar 3)) (wP (fTup (ac (o2 dIdx (fVar 3) (fC (.int 0))) (ac (o2 dIdx (fVar 3) (fC (.int 1))) (ac (fTup (ac (fC (.str "ask")) (ac (fC (.str "in")) a0))) a0)))))))) T.law_endless_load sc_law_endless_load rfl (fun _ _ _ _ _ _ us hl => match us, hl with | [_, _, _], _ => rfl) mo_endless
    (fun ds p q Φ hp hq hl ⟨M, e, h1, h3, h⟩ => by
      subst e
      refine ⟨_, rfl, rfl, M, rfl, h1, h3, fun m most ws a b c d p' q' _ _ => ?_⟩
      obtain ⟨k, e1, e2⟩ := neD_words d
      have i2 : dIdx (ldE m most ws) (.int 2) = some (wsE ws) := by simp [ldE]
      have i1 : dIdx (ldE m most ws) (.int 1) = some (.int most) := by simp [ldE]
      have i0 : dIdx (ldE m most ws) (.int 0) = some (.int m) := by simp [ldE]
      refine ⟨k, ?_, ?_⟩
      · show (o2 dNeD (o2 dIdx (fVar 3) (fC (.int 2))) (fTup (ac (fC (.str "in")) a0))) [none, some (townE p' q'), some (.val (.int M)), some (.val (ldE m most ws))] = _
        simp [i2, e1]
      · show if k = true then _ else _
        split
        · rename_i hk
          exact ⟨_, rfl, h m most ws ⟨a, b, by omega, e2 hk⟩⟩
        · refine ⟨ldE m most ["ask", "in"], ?_, h m most _ ⟨a, b, by omega, .ask⟩⟩
          show (fTup _) [none, some (townE p' q'), some (.val (.int M)), some (.val (ldE m most ws))] = _
          simp [i0, i1, ldE, wsE])
    fun fa cdv A outer s H C h63 hr => show NB _ C (defBody s_law_endless_load) _ from
      nb_cons (ns_set (i := 3) (ne_callO (ok_law_load T) hr (by decide) rfl h63 (pv 0) (pv 1) (na_cons (ne_pure (pv_name 2 (pv 2))) na_nil)) (by decide) sc_law_endless_load.nd rfl (.inl rfl))
      (nb_one (ns_ret (ne_if (nt_pure (pvt_cmp (op_neD hr.units) g_neD (pv_ix (pv_name 3 (pv 3)) pv_int) (pv_tup (pva_cons pv_str pva_nil) (.cons .nil)) (nomark _))) (ne_pure (pv_name 3 (pv 3))) (ne_pure (pv_tup (pva_cons (pv_ix (pv_name 3 (pv 3)) pv_int) (pva_cons (pv_ix (pv_name 3 (pv 3)) pv_int) (pva_cons (pv_tup (pva_cons pv_str (pva_cons pv_str pva_nil)) (.cons (.cons .nil))) pva_nil))) (.cons (.cons (.cons .nil))))))))
end
end L3

/-! N3: _law_row. -/
namespace L3
open PySem PySem.Spec PyProof.Rows L2
def endK : List Int → Row → List Int
  | ks, [] => ks
  | ks, (w, k) :: r => endK (nextK ks w k) r
theorem rowOk_app {w : Str} {k : Int} : ∀ {row : Row} {ks : List Int}, RowOk ks row → DeedOk (endK ks row) w k → RowOk ks (row ++ [(w, k)])
  | [], _, _, d => ⟨d, trivial⟩
  | (v, j) :: r, ks, ⟨h1, h2⟩, d => ⟨h1, rowOk_app h2 d⟩
theorem endK_app {w : Str} {k : Int} : ∀ {row : Row} {ks : List Int}, endK ks (row ++ [(w, k)]) = nextK (endK ks row) w k
  | [], _ => rfl
  | (v, j) :: r, ks => endK_app (row := r)
theorem next_srt {ks : List Int} {w : Str} {k : Int} (d : DeedOk ks w k) (hs : Srt ks) (hr : Rg ks) : Srt (nextK ks w k) ∧ Rg (nextK ks w k) := by
  have hw := d.word
  simp only [WDS, List.mem_cons, List.not_mem_nil, or_false] at hw
  rcases hw with rfl | rfl | rfl
  · exact ⟨hs, hr⟩
  · exact ⟨srt_insK hs, rg_ins hr d.key fun z => d.can.mp z rfl⟩
  · exact ⟨srt_delK hs, fun y hy => hr y (mem_delK.mp hy).1⟩
theorem sortL_eq {l s : List Int} (hp : l.Perm s) (hs : Srt s) (hl : l.length < 64) : gSortL [iL0 l] = some (iL0 s) := by
  show (toInts (l.map .int)).bind _ = _
  have : s = l.mergeSort fun a b => decide (a ≤ b) := sort_one hp.symm (hs.imp fun h => by omega)
  rw [toInts_map, Option.bind_some, if_pos hl, ← this]
  rfl
section
variable {P : Program} {w : World} {K : PySem.W.Frag} {mg : Str → Option Value} {base : Heap}
def W_row : WF := fun ds Φ => ds = [.int 6, .int 30] ∧ ∀ row, RowOk [] row → row.length ≤ 40 → Φ (rowE row)
theorem mo_row : MoF W_row := fun ds Φ Φ' h ⟨e, q⟩ => ⟨e, fun i a b => h _ (q i a b)⟩
abbrev N_law_row : List Str := ["_law_script", "_law_town", "_law_keys_here", "_law_many", "_law_here", "_law_row_here", "_law_k", "_law_deed_here", "_law_key"]
theorem sc_law_row : FnScope N_law_row ["_law_script", "_law_town", "_law_keys_here", "_law_many"] (defScope s_law_row) := ⟨rfl, rfl, rfl, by decide +kernel, rfl, by decide +kernel, by decide +kernel⟩
abbrev sortF : FE := oA gSortL (ac (o2 dAdd (fVar 4) (fLst (ac (o2 dIdx (fVar 7) (fC (.int 1))) a0))) a0)
abbrev outC : FE := fComp [8] (iL (fVar 4)) (gN 8) (o2 dNe (fVar 8) (o2 dIdx (fVar 7) (fC (.int 1)))) (fVar 8)
abbrev bodyR : WS := wSeq (wSet 7 (wCall 2 W_deed (wAc (wP (fVar 4)) (wAc (wP (fVar 2)) wA0)))) (wSeq (wApp 5 (fVar 7))
  (wSeq (wIfS (wPT (o2 dEq (o2 dIdx (fVar 7) (fC (.int 0))) (fC (.str "in")))) (wSet 4 (wP sortF)) wNext)
  (wIfS (wPT (o2 dEq (o2 dIdx (fVar 7) (fC (.int 0))) (fC (.str "out")))) (wSet 4 (wP outC)) wNext)))
abbrev ERo (p q : Int) (here : List Int) (row : Row) (u6 u7 : Option EV) : PEnv := [none, some (townE p q), some (.val (.int 6)), some (.val (.int 30)), some (.val (iL0 here)), some (.lst (dds row)), u6, u7, none]
theorem out_eq {p q : Int} {here : List Int} {row : Row} {u6 : Option EV} {x : Str} {k : Int} (hl : here.length ≤ 6) : outC (ERo p q here row u6 (some (.val (ded x k)))) = some (iL0 (delK k here)) := by
  have := comp_ints (i := 8) (ft := o2 dNe (fVar 8) (o2 dIdx (fVar 7) (fC (.int 1)))) (fe := fVar 8) (ρ := ERo p q here row u6 (some (.val (ded x k)))) (fun y => decide (y ≠ k)) .int here fun y hy => by simp
  rw [outC, m_comp, m_iL (ds := here.map .int) (by simp; rfl)]
  simp only [m_wipeC, m_wipe0, ERo, List.set_cons_succ, List.set_cons_zero] at this ⊢
  rw [Option.bind_some, if_pos (by simp; omega), this]
  rfl
theorem row_loop {R : PyData → PEnv → Prop} {N : PEnv → Prop} (hN : ∀ (p q : Int) (here : List Int) (row : Row) (u6 u7 : Option EV), RowOk [] row → row.length ≤ 40 → N (ERo p q here row u6 u7)) : ∀ (m j : Nat) (p q : Int) (row : Row) (u6 u7 : Option EV), row.length = j → j + m ≤ 31 → RowOk [] row → Srt (endK [] row) → Rg (endK [] row) → wLoop 6 bodyR m j (ERo p q (endK [] row) row u6 u7) N R
  | 0, j, p, q, row, u6, u7, hj, hm, ho, _, _ => hN p q _ row u6 u7 ho (by omega)
  | m + 1, j, p, q, row, u6, u7, hj, hm, ho, hs, hr => by
    have hfew := srt_few hs hr
    refine ⟨_, rfl, _, rfl, rfl, endK [] row, rfl, hs, hr, fun x k d p' q' _ _ => ?_⟩
    obtain ⟨p1, p2, p3⟩ := perm_next (.refl (endK [] row)) d
    obtain ⟨n1, n2⟩ := next_srt d hs hr
    have hnext := row_loop (R := R) hN m (j + 1) p' q' (row ++ [(x, k)]) (some (.val (.int j))) (some (.val (ded x k))) (by simp [hj]) (by omega) (rowOk_app ho d) (by rw [endK_app]; exact n1) (by rw [endK_app]; exact n2)
    rw [endK_app] at hnext
    refine ⟨dds row, ded x k, rfl, rfl, by simp [dds]; omega, ?_⟩
    have hrow : dds row ++ [ded x k] = dds (row ++ [(x, k)]) := by simp [dds]
    have hw := d.word
    simp only [WDS, List.mem_cons, List.not_mem_nil, or_false] at hw
    show wSeq (wIfS (wPT (o2 dEq (o2 dIdx (fVar 7) (fC (.int 0))) (fC (.str "in")))) (wSet 4 (wP sortF)) wNext)
      (wIfS (wPT (o2 dEq (o2 dIdx (fVar 7) (fC (.int 0))) (fC (.str "out")))) (wSet 4 (wP outC)) wNext) (ERo p' q' (endK [] row) row (some (.val (.int j))) (some (.val (ded x k))) |>.set 5 (some (.lst (dds row ++ [ded x k])))) _ R
    rw [hrow]
    show wSeq (wIfS (wPT (o2 dEq (o2 dIdx (fVar 7) (fC (.int 0))) (fC (.str "in")))) (wSet 4 (wP sortF)) wNext)
      (wIfS (wPT (o2 dEq (o2 dIdx (fVar 7) (fC (.int 0))) (fC (.str "out")))) (wSet 4 (wP outC)) wNext) (ERo p' q' (endK [] row) (row ++ [(x, k)]) (some (.val (.int j))) (some (.val (ded x k)))) _ R
    refine ⟨decide (x = "in"), by simp, ?_⟩
    show if decide (x = "in") = true then _ else _
    rcases hw with rfl | rfl | rfl
    · rw [if_neg (by simp)]
      refine ⟨false, by simp, ?_⟩
      show if false = true then _ else _
      rw [if_neg (by simp)]
      exact hnext
    · rw [if_pos (by simp)]
      have hsort := sortL_eq (p1 rfl) n1 (by simp; omega)
      have ha : dAdd (iL0 (endK [] row)) (iL0 [k]) = some (iL0 (endK [] row ++ [k])) := add_ints (by simp; omega)
      refine ⟨iL0 (nextK (endK [] row) "in" k), by simp [ha, hsort], ?_⟩
      refine ⟨false, by simp, ?_⟩
      show if false = true then _ else _
      rw [if_neg (by simp)]
      exact hnext
    · rw [if_neg (by simp)]
      refine ⟨true, by simp, ?_⟩
      show if true = true then _ else _
      rw [if_pos rfl]
      exact ⟨_, out_eq hfew, hnext⟩
theorem ok_law_row (T : Txt K mg) : OkN P w K mg base "_law_row" ["_law_script", "_law_town", "_law_keys_here", "_law_many"] 4 2 W_row :=
  okN_mk (k := 3) (ws := wSeq (wPar2F 4 5 (fsC (vF (fLst a0)) (fsC (lF a0) fs0))) (wSeq (wForR 6 (wCall 1 W_draw (wAc (wP (o2 dAdd (fVar 3) (fC (.int 1)))) wA0)) bodyR) (wFrz 5 (wRet (wP (fVar 5)))))) T.law_row sc_law_row rfl (fun _ _ _ _ _ _ us hl => match us, hl with | [_, _, _, _], _ => rfl) mo_row
    (fun ds p q Φ hp hq hl ⟨e, h⟩ => by
      subst e
      refine ⟨_, _, rfl, ?_⟩
      refine ⟨_, rfl, rfl, 31, rfl, by decide, by decide, fun i h0 h1 p' q' _ _ => ?_⟩
      obtain ⟨n, rfl⟩ := Int.eq_ofNat_of_zero_le h0
      refine ⟨n, rfl, by omega, ?_⟩
      refine row_loop (fun p2 q2 here row u6 u7 ho hl => ?_) n 0 p' q' [] none none rfl (by omega) trivial .nil (fun k hk => by simp [endK] at hk)
      exact ⟨dds row, rfl, _, rfl, h row ho hl⟩)
    fun fa cdv A outer s H C h63 hr => show NB (cxOf CX0 P w K mg base N_law_row "_law_row" (defScope s_law_row) fa cdv A outer s H E0).nox C (defBody s_law_row) _ by
      refine nb_cons (ns_par2F (i := 4) (j := 5) (by decide) (by decide) rfl sc_law_row.nd rfl rfl (by decide) rfl rfl (pfs_cons (pf_val (pv_lst pva_nil .nil)) (pfs_cons (pf_lst pva_nil .nil) pfs_nil)) (by rfl)) ?_
      refine nb_cons ?_ ?_
      · refine ns_forR (i := 6) (by decide) PassesOwn.never ?_ ?_ T.bi.range ?_ ?_ ?_ ?_ ?_
        · rfl
        · rfl
        · exact ne_callO (ok_law_draw T) hr (by decide) rfl h63 (pv 0) (pv 1) (na_cons (ne_pure (pv_add (pv_name 3 (pv 3)) pv_int)) na_nil)
        · exact sc_law_row.nd
        · rfl
        · rfl
        · refine nb_cons (ns_set (i := 7) (ne_callO (ok_law_deed T) hr (by decide) rfl h63 (pv 0) (pv 1) (na_cons (ne_pure (pv_name 4 (pv 4))) (na_cons (ne_pure (pv_name 2 (pv 2))) na_nil))) (by decide) sc_law_row.nd rfl (.inr rfl)) ?_
          refine nb_cons (ns_app (i := 5) (by decide) (pv 5) (pv_name 7 (pv 7))) ?_
          refine nb_cons ?_ (nb_one ?_)
          · exact ns_if (nt_pure (pvt_cmp op_eq g_eq (pv_ix (pv_name 7 (pv 7)) pv_int) pv_str (nomark _))) (nb_one (ns_set (i := 4) (ne_pure (pv_bi cr_sorted gv_sortL rfl T.bi.sorted (by decide +kernel) (pva_cons (pv_add (pv_name 4 (pv 4)) (pv_lst (pva_cons (pv_ix (pv_name 7 (pv 7)) pv_int) pva_nil) (.cons .nil))) pva_nil))) (by decide) sc_law_row.nd rfl (.inl rfl))) nb_nil
          · exact ns_if (nt_pure (pvt_cmp op_eq g_eq (pv_ix (pv_name 7 (pv 7)) pv_int) pv_str (nomark _))) (nb_one (ns_setComp (i := 4) (own := [("_law_key", 8)]) (by decide) rfl sc_law_row.nd rfl rfl (sw_true rfl rfl rfl (by decide +kernel)) (piv_list (pv_name 4 (pv 4))) (blkOk_by (own := [("_law_key", 8)]) (N := N_law_row) (sc := defScope s_law_row) (by decide +kernel)) (fun _ _ _ _ _ => (pgv_name (pg_name (i := 8) sc_law_row.nd rfl (.inl rfl)))) (fun _ _ _ _ _ => (ptv_one (pvt_cmp op_ne g_ne (pv_name 8 (pv 8)) (pv_ix (pv_name 7 (pv 7)) pv_int) (nomark _)))) (fun _ _ _ _ _ => (pv_name 8 (pv 8))) (by decide))) nb_nil
      · exact (nb_one (ns_frz (j := 5) (by decide) (ns_ret (ne_pure (pv_name 5 (pv 5))))))
end
end L3

/-! N4: the law. -/
namespace L3
open PySem PySem.Spec PyProof.Rows L2
theorem neD_same {d : PyData} (h : d.canLay0 = true) (h2 : d.depth ≤ 64) : dNeD d d = some (.bool false) := by
  have : SeqAt.shaped d = true := by
    unfold SeqAt.shaped
    rw [h, decide_eq_true h2]
    rfl
  unfold dNeD
  rw [this, SeqAt.eqv_refl d h]
  rfl
theorem depth_ints : ∀ l : List Int, PyData.depthAll (l.map .int) = 0
  | [] => by simp [PyData.depthAll]
  | i :: l => by simp [PyData.depthAll, PyData.depth, depth_ints l]
theorem canLay_iL0s : ∀ ls : List (List Int), PyData.canLayAll0 (ls.map iL0) = true ∧ PyData.depthAll (ls.map iL0) ≤ 1
  | [] => by simp [PyData.canLayAll0, PyData.depthAll]
  | l :: ls => by
    obtain ⟨h1, h2⟩ := canLay_iL0s ls
    have h3 : (iL0 l).canLay0 = true := by
      show PyData.canLay0 (.list _) = true
      simp only [PyData.canLay0]
      exact canLay_ints l
    have h4 : (iL0 l).depth = 1 := by
      show PyData.depth (.list _) = 1
      simp only [PyData.depth, depth_ints]
    refine ⟨?_, ?_⟩
    · simp only [List.map_cons, PyData.canLayAll0, h3, h1, Bool.and_self]
    · simp only [List.map_cons, PyData.depthAll, h4]
      omega
theorem neD_lists (ls : List (List Int)) : dNeD (.list (ls.map iL0)) (.list (ls.map iL0)) = some (.bool false) := by
  obtain ⟨h1, h2⟩ := canLay_iL0s ls
  refine neD_same ?_ ?_
  · simp only [PyData.canLay0]
    exact h1
  · simp only [PyData.depth]
    omega
theorem neD_ints (l : List Int) : dNeD (iL0 l) (iL0 l) = some (.bool false) := by
  refine neD_same ?_ ?_
  · show PyData.canLay0 (.list _) = true
    simp only [PyData.canLay0]
    exact canLay_ints l
  · show PyData.depth (.list _) ≤ 64
    simp only [PyData.depth, depth_ints]
    omega
theorem neD_any (l l' : List Int) : ∃ b : Bool, dNeD (iL0 l) (iL0 l') = some (.bool b) := by
  have h : ∀ l : List Int, SeqAt.shaped (iL0 l) = true := fun l => by
    unfold SeqAt.shaped
    rw [show (iL0 l).canLay0 = true from (by show PyData.canLay0 (.list _) = true; simp only [PyData.canLay0]; exact canLay_ints l), Bool.true_and, decide_eq_true_iff]
    show PyData.depth (.list _) ≤ 64
    simp only [PyData.depth, depth_ints]
    omega
  unfold dNeD
  rw [h, h]
  exact ⟨_, rfl⟩
theorem neD_one : dNeD (.tuple [.int 0, .int 1]) (.tuple [.int 0, .int 1]) = some (.bool false) := neD_same (by decide +kernel) (by decide +kernel)
section
variable {P : Program} {w : World} {K : PySem.W.Frag} {mg : Str → Option Value} {base : Heap}
abbrev N_law : List Str := ["_law_script", "_law_town", "_law_one", "_law_other", "_law_row_here", "_law_first", "_law_second", "_law_shape", "_law_load_here", "_law_told"]
theorem sc_law : FnScope N_law ["_law_script"] (defScope s_law) := ⟨rfl, rfl, rfl, by decide +kernel, rfl, by decide +kernel, by decide +kernel⟩
abbrev keysF (i : Nat) : FE := fComp [7] (iL (fVar i)) (gN 7) (fC (.bool true)) (oA (F_law_keys 8) (ac (fVar 7) a0))
abbrev three (i j k : Nat) : FA := ac (fVar i) (ac (fVar j) (ac (fVar k) a0))
abbrev two (i j : Nat) : FA := ac (fVar i) (ac (fVar j) a0)
abbrev oneT : FE := fTup (ac (fC (.int 0)) (ac (fC (.int 1)) a0))
abbrev retF : WS := wRet (wP (fC (.bool false)))
abbrev leadF : FE := fOr (o2 dNeD (oA F_greatest_lead (three 2 3 8)) oneT) (o2 dNeD (oA F_greatest_lead (three 3 2 8)) oneT)
abbrev costF : FE := fAnd (oA F_is_of (two 8 4)) (o2 dNeD (oA F_costs_along (two 2 4)) (oA F_costs_along (two 3 4)))
abbrev bothF : FE := fAnd (o2 dIsN (oA F_parting_row (three 2 3 8)) (fC .none)) (o2 dNotN (oA F_costing_row (three 2 3 8)) (fC .none))
abbrev lastF : FE := fOr (o2 dIsN (fVar 9) (fC .none)) (o2 dLt (oA gLen (ac (oA F_parting_row (three 2 3 8)) a0)) (oA gLen (ac (fVar 9) a0)))
abbrev w5 : WS := wRet (wP lastF)
abbrev w4 : WS := wSeq (wSet 9 (wP (oA F_costing_row (three 2 3 8)))) w5
abbrev w3 : WS := wSeq (wIfS (wPT bothF) retF wNext) w4
abbrev w2 : WS := wSeq (wIfS (wPT (o2 dIsN (oA F_costing_row (three 2 3 8)) (fC .none))) (wSeq (wIfS (wPT leadF) retF wNext) (wIfS (wPT costF) retF wNext)) wNext) w3
abbrev w1 : WS := wSeq (wSet 8 (wCall 1 W_endless (wAc (wO2 dAddI (wP (fC (.int 2))) (wCall 1 W_draw (wAc (wP (fC (.int 2))) wA0))) wA0))) w2
abbrev w0 : WS := wSeq (wIfS (wPT (o2 dNeD (keysF 5) (keysF 6))) retF wNext) w1
abbrev wb : WS := wSeq (wPar2 5 6 (wAc (wP (oA F_shapes_along (two 2 4))) (wAc (wP (oA F_shapes_along (two 3 4))) wA0))) w0
abbrev wa : WS := wSeq (wSet 4 (wCall 2 W_row (wAc (wP (fC (.int 6))) (wAc (wP (fC (.int 30))) wA0)))) wb
abbrev wLaw : WS := wSeq (wPar2 2 3 (wAc (wCall 0 W_rule wA0) (wAc (wCall 0 W_rule wA0) wA0))) wa
theorem nb_law (T : Txt K mg) {fa : Addr} {cdv : Value} {A : Around} {outer : List Env} {s : Shared} {H : Hp} {C : Tn} (h63 : C.ns.length ≤ 63) (hr : Room 23 (A.deeper (envOfC "law" (defScope s_law) s.heap.objs.size fa cdv))) :
    NB (cxOf CX0 P w K mg base N_law "law" (defScope s_law) fa cdv A outer s H E0).nox C (defBody s_law).tail wLaw := by
  refine nb_cons (ns_par2 (i := 2) (j := 3) (by decide) (by decide) rfl sc_law.nd rfl rfl (by decide) rfl rfl (na_cons (ne_callO (ok_law_rule T) hr (by decide) rfl h63 (pv 0) (pv 1) na_nil) (na_cons (ne_callO (ok_law_rule T) hr (by decide) rfl h63 (pv 0) (pv 1) na_nil) na_nil)) (by rfl)) ?_
  refine nb_cons (ns_set (i := 4) (ne_callO (ok_law_row T) hr (by decide) rfl h63 (pv 0) (pv 1) (na_cons (ne_pure pv_int) (na_cons (ne_pure pv_int) na_nil))) (by decide) sc_law.nd rfl (.inl rfl)) ?_
  refine nb_cons (ns_par2 (i := 5) (j := 6) (by decide) (by decide) rfl sc_law.nd rfl rfl (by decide) rfl rfl (na_cons (ne_pure (pv_callO (ok_shapes_along T) hr (by decide) rfl (pva_cons (pv_name 2 (pv 2)) (pva_cons (pv_name 4 (pv 4)) pva_nil)) (.cons (.cons .nil)))) (na_cons (ne_pure (pv_callO (ok_shapes_along T) hr (by decide) rfl (pva_cons (pv_name 3 (pv 3)) (pva_cons (pv_name 4 (pv 4)) pva_nil)) (.cons (.cons .nil)))) na_nil)) (by rfl)) ?_
  refine nb_cons (ns_if (nt_pure (pvt_cmp (op_neD hr.units) g_neD
      (pv_comp (own := [("_law_shape", 7)]) rfl sc_law.nd (piv_list (pv_name 5 (pv 5))) (blkOk_by (own := [("_law_shape", 7)]) (N := N_law) (sc := defScope s_law) (by decide +kernel)) (fun _ _ _ _ _ => (pgv_name (pg_name (i := 7) sc_law.nd rfl (.inl rfl)))) (fun _ _ _ _ _ => ptv_nil) (fun _ _ _ _ _ => (pv_callO (ok_law_keys T 8) hr (by decide) rfl (pva_cons (pv_name 7 (pv 7)) pva_nil) (.cons .nil))) (by decide))
      (pv_comp (own := [("_law_shape", 7)]) rfl sc_law.nd (piv_list (pv_name 6 (pv 6))) (blkOk_by (own := [("_law_shape", 7)]) (N := N_law) (sc := defScope s_law) (by decide +kernel)) (fun _ _ _ _ _ => (pgv_name (pg_name (i := 7) sc_law.nd rfl (.inl rfl)))) (fun _ _ _ _ _ => ptv_nil) (fun _ _ _ _ _ => (pv_callO (ok_law_keys T 8) hr (by decide) rfl (pva_cons (pv_name 7 (pv 7)) pva_nil) (.cons .nil))) (by decide))
      (nomark _))) (nb_one (ns_ret (ne_pure pv_bl))) nb_nil) ?_
  refine nb_cons (ns_set (i := 8) (ne_callO (ok_law_endless_load T) hr (by decide) rfl h63 (pv 0) (pv 1) (na_cons (ne_bin op_add g_addI (ne_pure pv_int) (ne_callO (ok_law_draw T) hr (by decide) rfl h63 (pv 0) (pv 1) (na_cons (ne_pure pv_int) na_nil))) na_nil)) (by decide) sc_law.nd rfl (.inl rfl)) ?_
  refine nb_cons (ns_if ?_ (nb_cons (ns_if ?_ (nb_one (ns_ret (ne_pure pv_bl))) nb_nil) (nb_one (ns_if ?_ (nb_one (ns_ret (ne_pure pv_bl))) nb_nil))) nb_nil) ?_
  · exact nt_pure (pvt_cmp op_isN g_isN (pv_callO (ok_costing_row T) hr (by decide) rfl (pva_cons (pv_name 2 (pv 2)) (pva_cons (pv_name 3 (pv 3)) (pva_cons (pv_name 8 (pv 8)) pva_nil))) (.cons (.cons (.cons .nil)))) pv_non (nomark _))
  · exact nt_pure (PW.pt (pvw_or (pvt_cmp (op_neD hr.units) g_neD (pv_callO (ok_greatest_lead T) hr (by decide) rfl (pva_cons (pv_name 2 (pv 2)) (pva_cons (pv_name 3 (pv 3)) (pva_cons (pv_name 8 (pv 8)) pva_nil))) (.cons (.cons (.cons .nil)))) (pv_tup (pva_cons pv_int (pva_cons pv_int pva_nil)) (.cons (.cons .nil))) (nomark _)) (pvw_one_or (pvt_cmp (op_neD hr.units) g_neD (pv_callO (ok_greatest_lead T) hr (by decide) rfl (pva_cons (pv_name 3 (pv 3)) (pva_cons (pv_name 2 (pv 2)) (pva_cons (pv_name 8 (pv 8)) pva_nil))) (.cons (.cons (.cons .nil)))) (pv_tup (pva_cons pv_int (pva_cons pv_int pva_nil)) (.cons (.cons .nil))) (nomark _)))))
  · exact nt_pure (PW.pt (pvw_and (pvt_val (pv_callO (ok_is_of T) hr (by decide) rfl (pva_cons (pv_name 8 (pv 8)) (pva_cons (pv_name 4 (pv 4)) pva_nil)) (.cons (.cons .nil)))) (pvw_one_and (pvt_cmp (op_neD hr.units) g_neD (pv_callO (ok_costs_along T) hr (by decide) rfl (pva_cons (pv_name 2 (pv 2)) (pva_cons (pv_name 4 (pv 4)) pva_nil)) (.cons (.cons .nil))) (pv_callO (ok_costs_along T) hr (by decide) rfl (pva_cons (pv_name 3 (pv 3)) (pva_cons (pv_name 4 (pv 4)) pva_nil)) (.cons (.cons .nil))) (nomark _)))))
  refine nb_cons (ns_if ?_ (nb_one (ns_ret (ne_pure pv_bl))) nb_nil) ?_
  · exact nt_pure (PW.pt (pvw_and (pvt_cmp op_isN g_isN (pv_callO (ok_parting_row T) hr (by decide) rfl (pva_cons (pv_name 2 (pv 2)) (pva_cons (pv_name 3 (pv 3)) (pva_cons (pv_name 8 (pv 8)) pva_nil))) (.cons (.cons (.cons .nil)))) pv_non (nomark _)) (pvw_one_and (pvt_cmp op_notN g_notN (pv_callO (ok_costing_row T) hr (by decide) rfl (pva_cons (pv_name 2 (pv 2)) (pva_cons (pv_name 3 (pv 3)) (pva_cons (pv_name 8 (pv 8)) pva_nil))) (.cons (.cons (.cons .nil)))) pv_non (nomark _)))))
  refine nb_cons (ns_set (i := 9) (ne_pure (pv_callO (ok_costing_row T) hr (by decide) rfl (pva_cons (pv_name 2 (pv 2)) (pva_cons (pv_name 3 (pv 3)) (pva_cons (pv_name 8 (pv 8)) pva_nil))) (.cons (.cons (.cons .nil))))) (by decide) sc_law.nd rfl (.inl rfl)) ?_
  exact nb_one (ns_ret (ne_pure (pv_or (pv_cmp op_isN g_isN (pv_name 9 (pv 9)) pv_non (nomark _)) (pv_one (pv_cmp op_lt g_lt (pv_bi call_len_seq gv_len rfl T.bi.len boot_len (pva_cons (pv_callO (ok_parting_row T) hr (by decide) rfl (pva_cons (pv_name 2 (pv 2)) (pva_cons (pv_name 3 (pv 3)) (pva_cons (pv_name 8 (pv 8)) pva_nil))) (.cons (.cons (.cons .nil)))) pva_nil)) (pv_bi call_len_seq gv_len rfl T.bi.len boot_len (pva_cons (pv_name 9 (pv 9)) pva_nil)) (nomark _))))))
end
theorem wif_f {f : FE} {ρ : PEnv} {a b : WS} {N : PEnv → Prop} {R : PyData → PEnv → Prop} (h : f ρ = some (.bool false)) (q : b ρ N R) : wIfS (wPT f) a b ρ N R := ⟨false, h, by
  show if false = true then _ else _
  rw [if_neg (by simp)]
  exact q⟩
theorem wif_t {f : FE} {ρ : PEnv} {a b : WS} {N : PEnv → Prop} {R : PyData → PEnv → Prop} (h : f ρ = some (.bool true)) (q : a ρ N R) : wIfS (wPT f) a b ρ N R := ⟨true, h, by
  show if true = true then _ else _
  rw [if_pos rfl]
  exact q⟩
theorem wset_p {i : Nat} {f : FE} {ρ : PEnv} {d : PyData} {b : WS} {N : PEnv → Prop} {R : PyData → PEnv → Prop} (h : f ρ = some d) (q : b (ρ.set i (some (.val d))) N R) : wSeq (wSet i (wP f)) b ρ N R := ⟨d, h, q⟩
theorem wret_p {f : FE} {ρ : PEnv} {d : PyData} {N : PEnv → Prop} {R : PyData → PEnv → Prop} (h : f ρ = some d) (q : R d ρ) : wRet (wP f) ρ N R := ⟨d, h, q⟩
theorem wseq_i {a b : WS} {ρ : PEnv} {N : PEnv → Prop} {R : PyData → PEnv → Prop} (q : a ρ (fun ρ1 => b ρ1 N R) R) : wSeq a b ρ N R := q
theorem wnext_i {ρ : PEnv} {N : PEnv → Prop} {R : PyData → PEnv → Prop} (q : N ρ) : wNext ρ N R := q
abbrev EL (p q : Int) (r1 r2 : PyData) (row : Row) (f s : PyData) (ld u9 : Option EV) : PEnv := [none, some (townE p q), some (.val r1), some (.val r2), some (.val (rowE row)), some (.val f), some (.val s), none, ld, u9]
section
variable {p q : Int} {r1 r2 f s : PyData} {row : Row} {l v : PyData} {ld u9 : Option EV}
theorem e_three (i : Unit) {g : List PyData → Option PyData} : oA g (three 2 3 8) (EL p q r1 r2 row f s (some (.val l)) u9) = g [r1, r2, l] := by
  simp -implicitDefEqProofs only [m_oA, m_ac, m_fVarS, m_fVar0, m_a0, Option.bind_some]
theorem e_three' {g : List PyData → Option PyData} : oA g (three 3 2 8) (EL p q r1 r2 row f s (some (.val l)) u9) = g [r2, r1, l] := by
  simp -implicitDefEqProofs only [m_oA, m_ac, m_fVarS, m_fVar0, m_a0, Option.bind_some]
theorem e_two1 {g : List PyData → Option PyData} : oA g (two 2 4) (EL p q r1 r2 row f s ld u9) = g [r1, rowE row] := by
  simp -implicitDefEqProofs only [m_oA, m_ac, m_fVarS, m_fVar0, m_a0, Option.bind_some]
theorem e_two2 {g : List PyData → Option PyData} : oA g (two 3 4) (EL p q r1 r2 row f s ld u9) = g [r2, rowE row] := by
  simp -implicitDefEqProofs only [m_oA, m_ac, m_fVarS, m_fVar0, m_a0, Option.bind_some]
theorem e_two3 {g : List PyData → Option PyData} : oA g (two 8 4) (EL p q r1 r2 row f s (some (.val l)) u9) = g [l, rowE row] := by
  simp -implicitDefEqProofs only [m_oA, m_ac, m_fVarS, m_fVar0, m_a0, Option.bind_some]
theorem o2_of {g : PyData → PyData → Option PyData} {a b : FE} {ρ : PEnv} {x y : PyData} (h1 : a ρ = some x) (h2 : b ρ = some y) : o2 g a b ρ = g x y := by
  unfold o2
  rw [h1, h2]
  rfl
theorem or_ff {a b : FE} {ρ : PEnv} (h1 : a ρ = some (.bool false)) (h2 : b ρ = some (.bool false)) : fOr a b ρ = some (.bool false) := by
  rw [m_or, h1, m_orF, h2]
theorem or_f {a b : FE} {ρ : PEnv} {x : PyData} (h1 : a ρ = some (.bool false)) (h2 : b ρ = some x) : fOr a b ρ = some x := by
  rw [m_or, h1, m_orF, h2]
theorem or_t {a b : FE} {ρ : PEnv} (h1 : a ρ = some (.bool true)) : fOr a b ρ = some (.bool true) := by
  rw [m_or, h1, m_orT]
theorem and_f {a b : FE} {ρ : PEnv} (h1 : a ρ = some (.bool false)) : fAnd a b ρ = some (.bool false) := by
  rw [m_and, h1, m_andF]
theorem and_t {a b : FE} {ρ : PEnv} {x : PyData} (h1 : a ρ = some (.bool true)) (h2 : b ρ = some x) : fAnd a b ρ = some x := by
  rw [m_and, h1, m_andT, h2]
end
theorem keysF_eq (i : Nat) {ρ : PEnv} {ts : List Tree} (h : fVar i ρ = some (.list (ts.map enc))) (h10 : ρ.length = 10) (hl : ts.length ≤ 40) (ht : ∀ t ∈ ts, t.ht ≤ 6 ∧ t.size ≤ 6) : keysF i ρ = some (.list ((ts.map Tree.keys).map iL0)) := by
  have h7 : ∀ v : Option EV, fVar 7 ((ρ.set 7 none).set 7 v) = match v with | some (.val d) => some d | _ => none := by
    intro v
    have : ((ρ.set 7 none).set 7 v)[7]? = some v := by
      rw [List.getElem?_set_self (by simp; omega)]
    unfold fVar
    rw [this]
    cases v with
    | none => rfl
    | some e => cases e <;> rfl
  have := comp_map (g := gN 7) (ft := fC (.bool true)) (fe := oA (F_law_keys 8) (ac (fVar 7) a0)) (ρ := ρ.set 7 none) enc (fun _ => true) (fun t => iL0 t.keys) ts fun t htt => ⟨_, rfl, rfl, fun _ => by
    obtain ⟨h1, h2⟩ := ht t htt
    have h8 := h7 (some (.val (enc t)))
    simp only at h8
    simp only [m_oA, m_ac, m_a0, h8, Option.bind_some, F_law_keys_eq 8 t (by omega) (by omega)]⟩
  rw [keysF, m_comp, m_iL h, Option.bind_some, if_pos (by simp; omega)]
  simp only [m_wipeC, m_wipe0]
  rw [this, filter_t]
  simp
theorem trees_size {r : PyData} (hr : RuleOk r) : ∀ {row : Row} {t : Tree} {ks : List Int}, Good t ks → Rg ks → RowOk ks row → ∀ x ∈ trees r t row, x.ht ≤ 6 ∧ x.size ≤ 6
  | [], _, _, _, _, _ => fun x hx => by cases hx
  | (w, k) :: row, t, ks, g, hg, ⟨d, ho⟩ => by
    obtain ⟨_, g2, hg2⟩ := nxt_ok hr g hg d
    intro x hx
    rcases List.mem_cons.mp hx with rfl | hx
    · exact ⟨g2.ht, g2.size⟩
    · exact trees_size hr g2 hg2 ho x hx
theorem isN_row (r : Row) : dIsN (rowE r) .none = some (.bool false) := rfl
theorem notN_row (r : Row) : dNotN (rowE r) .none = some (.bool true) := rfl
theorem notN_none : dNotN .none .none = some (.bool false) := rfl
theorem len_row (r : Row) : gLen [rowE r] = some (.int r.length) := by simp [rowE, dds]
def orow : Option Row → PyData
  | none => .none
  | some r => rowE r
abbrev Fin : WS → PEnv → Prop := fun b ρ => b ρ (fun _ => False) fun d _ => d = .bool true
theorem end_law {c : Cfg} (hc : c.Ok) {p q : Int} {row : Row} {f s : PyData} {u9 : Option EV} {o o' : Option Row} (ho : c.find true = some o) (ho' : c.find false = some o')
    (ec : F_costing_row [c.r1, c.r2, ldE c.m c.most c.ws] = some (orow o)) (ep : F_parting_row [c.r1, c.r2, ldE c.m c.most c.ws] = some (orow o')) :
    Fin w3 (EL p q c.r1 c.r2 row f s (some (.val (ldE c.m c.most c.ws))) u9) := by
  have ec' : ∀ u9 : Option EV, oA F_costing_row (three 2 3 8) (EL p q c.r1 c.r2 row f s (some (.val (ldE c.m c.most c.ws))) u9) = some (orow o) := fun u9 => (e_three ()).trans ec
  have ep' : ∀ u9 : Option EV, oA F_parting_row (three 2 3 8) (EL p q c.r1 c.r2 row f s (some (.val (ldE c.m c.most c.ws))) u9) = some (orow o') := fun u9 => (e_three ()).trans ep
  have hboth : bothF (EL p q c.r1 c.r2 row f s (some (.val (ldE c.m c.most c.ws))) u9) = some (.bool false) := by
    cases o' with
    | some r' => exact and_f ((o2_of (ep' u9) m_fC).trans (isN_row r'))
    | none =>
      cases o with
      | some r => exact absurd ho (parting_costing ho')
      | none => exact and_t ((o2_of (ep' u9) m_fC).trans isN_none) ((o2_of (ec' u9) m_fC).trans notN_none)
  refine wseq_i (wif_f hboth (wnext_i ?_))
  refine wset_p (ec' u9) ?_
  show Fin w5 (EL p q c.r1 c.r2 row f s (some (.val (ldE c.m c.most c.ws))) (some (.val (orow o))))
  have h9 : ∀ v : PyData, fVar 9 (EL p q c.r1 c.r2 row f s (some (.val (ldE c.m c.most c.ws))) (some (.val v))) = some v := fun v => by
    simp only [EL, m_fVarS, m_fVar0]
  cases o with
  | none => exact wret_p (or_t ((o2_of (h9 _) m_fC).trans isN_none)) rfl
  | some r =>
    obtain ⟨r', e, hlt⟩ := parting_shorter ho ho'
    subst e
    have g1 : oA gLen (ac (oA F_parting_row (three 2 3 8)) a0) (EL p q c.r1 c.r2 row f s (some (.val (ldE c.m c.most c.ws))) (some (.val (rowE r)))) = some (.int r'.length) := by
      rw [m_oA, m_ac, ep' (some (.val (rowE r))), Option.bind_some, m_a0, Option.bind_some, Option.bind_some]
      exact len_row r'
    have g2 : oA gLen (ac (fVar 9) a0) (EL p q c.r1 c.r2 row f s (some (.val (ldE c.m c.most c.ws))) (some (.val (rowE r)))) = some (.int r.length) := by
      rw [m_oA, m_ac, h9, Option.bind_some, m_a0, Option.bind_some, Option.bind_some]
      exact len_row r
    refine wret_p (d := .bool true) (or_f ((o2_of (h9 _) m_fC).trans (isN_row r)) ((o2_of g1 g2).trans ?_)) rfl
    rw [m_lt, decide_eq_true (by omega)]
theorem mid_law {c : Cfg} (hc : c.Ok) {p q : Int} {row : Row} (hrow : RowOk [] row) (hl : row.length ≤ 40) {f s : PyData} {u9 : Option EV} : Fin w2 (EL p q c.r1 c.r2 row f s (some (.val (ldE c.m c.most c.ws))) u9) := by
  obtain ⟨o, ho, ec0⟩ := F_costing_row_eq hc
  obtain ⟨o', ho', ep0⟩ := F_parting_row_eq hc
  have ec : F_costing_row [c.r1, c.r2, ldE c.m c.most c.ws] = some (orow o) := by
    rw [ec0]
    cases o <;> rfl
  have ep : F_parting_row [c.r1, c.r2, ldE c.m c.most c.ws] = some (orow o') := by
    rw [ep0]
    cases o' <;> rfl
  have hend : Fin w3 (EL p q c.r1 c.r2 row f s (some (.val (ldE c.m c.most c.ws))) u9) := end_law hc ho ho' ec ep
  have ec' : oA F_costing_row (three 2 3 8) (EL p q c.r1 c.r2 row f s (some (.val (ldE c.m c.most c.ws))) u9) = some (orow o) := (e_three ()).trans ec
  cases o with
  | some r => exact wseq_i (wif_f ((o2_of ec' m_fC).trans (isN_row r)) (wnext_i hend))
  | none =>
    refine wseq_i (wif_t ((o2_of ec' m_fC).trans isN_none) ?_)
    have hz := costs_alike ho
    have hz2 := zero_swap hc hz
    have g1 := F_greatest_lead_eq hc hz
    have g2 := F_greatest_lead_eq hc.swap hz2
    have g2' : F_greatest_lead [c.r2, c.r1, ldE c.m c.most c.ws] = some (.tuple [.int 0, .int 1]) := g2
    have hone : oneT (EL p q c.r1 c.r2 row f s (some (.val (ldE c.m c.most c.ws))) u9) = some (.tuple [.int 0, .int 1]) := by
      simp only [m_fTup, m_ac, m_fC, m_a0, Option.bind_some]
    have hlead : leadF (EL p q c.r1 c.r2 row f s (some (.val (ldE c.m c.most c.ws))) u9) = some (.bool false) :=
      or_ff ((o2_of ((e_three ()).trans g1) hone).trans neD_one) ((o2_of (e_three'.trans g2') hone).trans neD_one)
    obtain ⟨b, e1, e2⟩ := F_is_of_ok hc.ld hrow hl
    have c1 := F_costs_along_eq hc.one hrow hl
    have c2 := F_costs_along_eq hc.other hrow hl
    have hcost : costF (EL p q c.r1 c.r2 row f s (some (.val (ldE c.m c.most c.ws))) u9) = some (.bool false) := by
      cases b with
      | false => exact and_f (e_two3.trans e1)
      | true =>
        obtain ⟨h1, h2⟩ := e2 rfl
        have heq := row_costs hc hz row 0 P0 .start hrow (fun d hd => h1 d hd) h2
        refine and_t (e_two3.trans e1) ((o2_of (e_two1.trans c1) (e_two2.trans c2)).trans ?_)
        have heq' : costs c.r1 .nil row = costs c.r2 .nil row := heq
        rw [heq']
        exact neD_ints _
    exact wseq_i (wif_f hlead (wnext_i (wif_f hcost (wnext_i hend))))
theorem law_pure (p q : Int) : Fin wLaw [none, some (townE p q), none, none, none, none, none, none, none, none] := by
  refine ⟨rfl, rfl, fun r1 hr1 p q _ _ => ⟨rfl, rfl, fun r2 hr2 p q _ _ => ⟨_, _, rfl, ?_⟩⟩⟩
  refine ⟨_, rfl, _, rfl, rfl, rfl, fun row ho hl p q _ _ => ?_⟩
  have hrg : Rg [] := fun k hk => by cases hk
  obtain ⟨k1, _⟩ := trees_keys hr1 good_nil hrg ho
  obtain ⟨k2, _⟩ := trees_keys hr2 good_nil hrg ho
  have t1 := trees_size hr1 good_nil hrg ho
  have t2 := trees_size hr2 good_nil hrg ho
  have l1 := (costs_len (r := r1) (row := row) (t := .nil)).2
  have l2 := (costs_len (r := r2) (row := row) (t := .nil)).2
  have e1 := F_shapes_along_eq hr1 ho hl
  have e2 := F_shapes_along_eq hr2 ho hl
  refine ⟨.list ((trees r1 .nil row).map enc), ?_, .list ((trees r2 .nil row).map enc), ?_, _, _, rfl, ?_⟩
  · refine Eq.trans ?_ e1
    show oA F_shapes_along (two 2 4) [none, some (townE p q), some (.val r1), some (.val r2), some (.val (rowE row)), none, none, none, none, none] = _
    simp -implicitDefEqProofs only [m_oA, m_ac, m_fVarS, m_fVar0, m_a0, Option.bind_some]
  · refine Eq.trans ?_ e2
    show oA F_shapes_along (two 3 4) [none, some (townE p q), some (.val r1), some (.val r2), some (.val (rowE row)), none, none, none, none, none] = _
    simp -implicitDefEqProofs only [m_oA, m_ac, m_fVarS, m_fVar0, m_a0, Option.bind_some]
  show Fin w0 (EL p q r1 r2 row (.list ((trees r1 .nil row).map enc)) (.list ((trees r2 .nil row).map enc)) none none)
  have q1 := keysF_eq 5 (ρ := EL p q r1 r2 row (.list ((trees r1 .nil row).map enc)) (.list ((trees r2 .nil row).map enc)) none none) (ts := trees r1 .nil row) (by simp only [EL, m_fVarS, m_fVar0]) rfl (by omega) t1
  have q2 := keysF_eq 6 (ρ := EL p q r1 r2 row (.list ((trees r1 .nil row).map enc)) (.list ((trees r2 .nil row).map enc)) none none) (ts := trees r2 .nil row) (by simp only [EL, m_fVarS, m_fVar0]) rfl (by omega) t2
  rw [k1] at q1
  rw [k2] at q2
  refine wseq_i (wif_f ((o2_of q1 q2).trans (neD_lists _)) (wnext_i ?_))
  refine ⟨.int 2, rfl, ⟨.int 2, rfl, ⟨rfl, 2, rfl, by decide, by decide, fun i h0 h1 p q _ _ => ⟨.int (2 + i), rfl, rfl, 2 + i, rfl, by omega, by omega, fun m most ws hld p q _ _ => ?_⟩⟩⟩⟩
  exact mid_law (c := ⟨m, most, ws, r1, r2⟩) ⟨hld, hr1, hr2⟩ ho hl
end L3

/-! N5: the law's promise. -/
namespace L3
open PySem PySem.Spec PyProof.Rows L2
def spLaw (K : PySem.W.Frag) : Sp := fun vs H Q _ => ∃ (s : Addr) (ns : List Int), vs = [V.ref s] ∧ SqL K H s (ns.map V.int) ∧ ns.length ≤ 63 ∧ ∀ H', Q (.bl true) H'
theorem pss_ex {X : Cx} {sts : List Stmt} {ws : WS} (h : ∀ C : Tn, C.ns.length ≤ 63 → NB X C sts ws) : PSs X sts (fun D σ H => ∃ C : Tn, C.ns.length ≤ 63 ∧ tNS X C ws D σ H) := ⟨fun pins s σ H D I ⟨C, h63, q⟩ => (h C h63).pe.run pins s σ H D I q⟩
section
variable {P : Program} {w : World} {K : PySem.W.Frag} {mg : Str → Option Value} {base : Heap}
theorem ok_law (T : Txt K mg) {fa : Addr} {fd : FuncData} (F : FunD K "law" "law" (defArgs s_law) (defBody s_law) (defScope s_law) [] [] fa fd) : FnOk P w K mg base CX0 24 fa fd ["_law_script"] (spLaw K) := by
  refine FunD.ok F sc_law (fun vs H Q E h => ?_) (fun cdv A outer sh H vs Q E hr h => ?_)
  · obtain ⟨s, ns, rfl, _⟩ := h
    rfl
  · obtain ⟨s, ns, rfl, hS, h63, fin⟩ := h
    have hnb : ∀ C : Tn, C.ns.length ≤ 63 → NB (cxOf CX0 P w K mg base N_law "law" (defScope s_law) fa cdv A outer sh H E0).nox C (defBody s_law).tail wLaw := fun C hC => nb_law T hC hr
    refine ⟨_, PSs.nox (X := cxOf CX0 P w K mg base N_law "law" (defScope s_law) fa cdv A outer sh H E)
      (show PSs (cxOf CX0 P w K mg base N_law "law" (defScope s_law) fa cdv A outer sh H E0).nox (defBody s_law) _ from
        pss_cons (ps_set (i := 1) sc_law.nd rfl (.inl rfl) (pe_lst (pa_cons pe_int (pa_cons pe_int pa_nil)))) (pss_ex hnb)), ?_⟩
    refine ⟨by decide, fun t ht => ?_⟩
    have et : upd H t (.lst [.int 0, .int 0]) t = some (.lst [.int 0, .int 0]) := upd_same
    have sub : Sub (fun a => a = t) (upd H t (.lst [.int 0, .int 0])) := fun a e => by
      rw [e, et]
      exact fun z => by cases z
    obtain ⟨ok, one⟩ := startN_ok (P := P) (w := w) (K := K) (N := N_law) (s := s) (t := t) (p := 0) (q := 0) (vs := []) (ds := []) sub .nil rfl et
    refine ⟨⟨s, t, ns, H, fun _ => False⟩, h63, fun a => a = t, startN N_law.length [] 0 0, ok, ⟨⟨same_upd ht, fun a z => z.elim, fun a z _ => z ▸ ht, fun _ _ _ _ z => z⟩, rfl, rfl, ?_, 0, 0, rfl, by decide, by decide⟩, ?_⟩
    · rcases hS with h | h
      · refine .inl ⟨?_, fun e => ?_⟩
        · rcases h with h | ⟨o, h⟩
          · exact .inl (same_upd ht _ _ h)
          · exact .inr ⟨o, same_upd ht _ _ h⟩
        · have e : s = t := e
          rcases h with h | ⟨o, h⟩
          · rw [e, ht] at h
            cases h
          · rw [e, ht] at h
            cases h
      · exact .inr fun H' => .inr h
    · refine (hnb ⟨s, t, ns, H, fun _ => False⟩ h63).mo _ _ _ _ _ (fun ρ' (z : False) => z.elim) (fun d ρ' z => ?_) (law_pure 0 0)
      intro v O' σ' H' _ _ _ r
      have z : d = .bool true := z
      subst z
      have ev : v = .bl true := rp_bl r
      subst ev
      exact fin H'
end
end L3

/-! E1 (printed by genend.py): the head's facts. -/
namespace L3
open PySem PySem.Spec PyProof.Rows L2
def d_is_number : He.DefD := ⟨("is_number", none), "is_number", "is_number", defArgs s_is_number, defBody s_is_number, defScope s_is_number, [], []⟩
def d_keys_of : He.DefD := ⟨("keys_of", none), "keys_of", "keys_of", defArgs s_keys_of, defBody s_keys_of, defScope s_keys_of, [], []⟩
def d_size_of : He.DefD := ⟨("size_of", none), "size_of", "size_of", defArgs s_size_of, defBody s_size_of, defScope s_size_of, [], []⟩
def d_height_of : He.DefD := ⟨("height_of", none), "height_of", "height_of", defArgs s_height_of, defBody s_height_of, defScope s_height_of, [], []⟩
def d_way_to : He.DefD := ⟨("way_to", none), "way_to", "way_to", defArgs s_way_to, defBody s_way_to, defScope s_way_to, [], []⟩
def d_left_up : He.DefD := ⟨("left_up", none), "left_up", "left_up", defArgs s_left_up, defBody s_left_up, defScope s_left_up, [], []⟩
def d_right_up : He.DefD := ⟨("right_up", none), "right_up", "right_up", defArgs s_right_up, defBody s_right_up, defScope s_right_up, [], []⟩
def d_turned : He.DefD := ⟨("turned", none), "turned", "turned", defArgs s_turned, defBody s_turned, defScope s_turned, [], []⟩
def d_with_leaf : He.DefD := ⟨("with_leaf", none), "with_leaf", "with_leaf", defArgs s_with_leaf, defBody s_with_leaf, defScope s_with_leaf, [], []⟩
def d_least : He.DefD := ⟨("least", none), "least", "least", defArgs s_least, defBody s_least, defScope s_least, [], []⟩
def d_greatest : He.DefD := ⟨("greatest", none), "greatest", "greatest", defArgs s_greatest, defBody s_greatest, defScope s_greatest, [], []⟩
def d_without : He.DefD := ⟨("without", none), "without", "without", defArgs s_without, defBody s_without, defScope s_without, [], []⟩
def d_once_up : He.DefD := ⟨("once_up", none), "once_up", "once_up", defArgs s_once_up, defBody s_once_up, defScope s_once_up, [], []⟩
def d_to_top : He.DefD := ⟨("to_top", none), "to_top", "to_top", defArgs s_to_top, defBody s_to_top, defScope s_to_top, [], []⟩
def d_way_down : He.DefD := ⟨("way_down", none), "way_down", "way_down", defArgs s_way_down, defBody s_way_down, defScope s_way_down, [], []⟩
def d_splayed : He.DefD := ⟨("splayed", none), "splayed", "splayed", defArgs s_splayed, defBody s_splayed, defScope s_splayed, [], []⟩
def d_without_splayed : He.DefD := ⟨("without_splayed", none), "without_splayed", "without_splayed", defArgs s_without_splayed, defBody s_without_splayed, defScope s_without_splayed, [], []⟩
def d_weight_of : He.DefD := ⟨("weight_of", none), "weight_of", "weight_of", defArgs s_weight_of, defBody s_weight_of, defScope s_weight_of, [], []⟩
def d_is_greater : He.DefD := ⟨("is_greater", none), "is_greater", "is_greater", defArgs s_is_greater, defBody s_is_greater, defScope s_is_greater, [], []⟩
def d_is_inner : He.DefD := ⟨("is_inner", none), "is_inner", "is_inner", defArgs s_is_inner, defBody s_is_inner, defScope s_is_inner, [], []⟩
def d_set_right : He.DefD := ⟨("set_right", none), "set_right", "set_right", defArgs s_set_right, defBody s_set_right, defScope s_set_right, [], []⟩
def d_put_right : He.DefD := ⟨("put_right", none), "put_right", "put_right", defArgs s_put_right, defBody s_put_right, defScope s_put_right, [], []⟩
def d_take_right : He.DefD := ⟨("take_right", none), "take_right", "take_right", defArgs s_take_right, defBody s_take_right, defScope s_take_right, [], []⟩
def d_is_even : He.DefD := ⟨("is_even", none), "is_even", "is_even", defArgs s_is_even, defBody s_is_even, defScope s_is_even, [], []⟩
def d_built : He.DefD := ⟨("built", none), "built", "built", defArgs s_built, defBody s_built, defScope s_built, [], []⟩
def d_rebuilt : He.DefD := ⟨("rebuilt", none), "rebuilt", "rebuilt", defArgs s_rebuilt, defBody s_rebuilt, defScope s_rebuilt, [], []⟩
def d_put_rebuilt : He.DefD := ⟨("put_rebuilt", none), "put_rebuilt", "put_rebuilt", defArgs s_put_rebuilt, defBody s_put_rebuilt, defScope s_put_rebuilt, [], []⟩
def d_take_rebuilt : He.DefD := ⟨("take_rebuilt", none), "take_rebuilt", "take_rebuilt", defArgs s_take_rebuilt, defBody s_take_rebuilt, defScope s_take_rebuilt, [], []⟩
def d_rank_of : He.DefD := ⟨("rank_of", none), "rank_of", "rank_of", defArgs s_rank_of, defBody s_rank_of, defScope s_rank_of, [], []⟩
def d_ranked : He.DefD := ⟨("ranked", none), "ranked", "ranked", defArgs s_ranked, defBody s_ranked, defScope s_ranked, [], []⟩
def d_bare : He.DefD := ⟨("bare", none), "bare", "bare", defArgs s_bare, defBody s_bare, defScope s_bare, [], []⟩
def d_skew : He.DefD := ⟨("skew", none), "skew", "skew", defArgs s_skew, defBody s_skew, defScope s_skew, [], []⟩
def d_split : He.DefD := ⟨("split", none), "split", "split", defArgs s_split, defBody s_split, defScope s_split, [], []⟩
def d_put_in : He.DefD := ⟨("put_in", none), "put_in", "put_in", defArgs s_put_in, defBody s_put_in, defScope s_put_in, [], []⟩
def d_with_right : He.DefD := ⟨("with_right", none), "with_right", "with_right", defArgs s_with_right, defBody s_with_right, defScope s_with_right, [], []⟩
def d_set_back : He.DefD := ⟨("set_back", none), "set_back", "set_back", defArgs s_set_back, defBody s_set_back, defScope s_set_back, [], []⟩
def d_take_out : He.DefD := ⟨("take_out", none), "take_out", "take_out", defArgs s_take_out, defBody s_take_out, defScope s_take_out, [], []⟩
def d_is_rule : He.DefD := ⟨("is_rule", none), "is_rule", "is_rule", defArgs s_is_rule, defBody s_is_rule, defScope s_is_rule, [], []⟩
def d_need_rule : He.DefD := ⟨("need_rule", none), "need_rule", "need_rule", defArgs s_need_rule, defBody s_need_rule, defScope s_need_rule, [], []⟩
def d_by_order : He.DefD := ⟨("by_order", none), "by_order", "by_order", defArgs s_by_order, defBody s_by_order, defScope s_by_order, [], []⟩
def d_moved : He.DefD := ⟨("moved", none), "moved", "moved", defArgs s_moved, defBody s_moved, defScope s_moved, [], []⟩
def d_with_key : He.DefD := ⟨("with_key", none), "with_key", "with_key", defArgs s_with_key, defBody s_with_key, defScope s_with_key, [], []⟩
def d_without_key : He.DefD := ⟨("without_key", none), "without_key", "without_key", defArgs s_without_key, defBody s_without_key, defScope s_without_key, [], []⟩
def d_behind : He.DefD := ⟨("behind", none), "behind", "behind", defArgs s_behind, defBody s_behind, defScope s_behind, [], []⟩
def d_cost_of : He.DefD := ⟨("cost_of", none), "cost_of", "cost_of", defArgs s_cost_of, defBody s_cost_of, defScope s_cost_of, [], []⟩
def d_is_deed : He.DefD := ⟨("is_deed", none), "is_deed", "is_deed", defArgs s_is_deed, defBody s_is_deed, defScope s_is_deed, [], []⟩
def d_is_load : He.DefD := ⟨("is_load", none), "is_load", "is_load", defArgs s_is_load, defBody s_is_load, defScope s_is_load, [], []⟩
def d_need_load : He.DefD := ⟨("need_load", none), "need_load", "need_load", defArgs s_need_load, defBody s_need_load, defScope s_need_load, [], []⟩
def d_keys_along : He.DefD := ⟨("keys_along", none), "keys_along", "keys_along", defArgs s_keys_along, defBody s_keys_along, defScope s_keys_along, [], []⟩
def d_is_row : He.DefD := ⟨("is_row", none), "is_row", "is_row", defArgs s_is_row, defBody s_is_row, defScope s_is_row, [], []⟩
def d_need_row : He.DefD := ⟨("need_row", none), "need_row", "need_row", defArgs s_need_row, defBody s_need_row, defScope s_need_row, [], []⟩
def d_is_row_of : He.DefD := ⟨("is_row_of", none), "is_row_of", "is_row_of", defArgs s_is_row_of, defBody s_is_row_of, defScope s_is_row_of, [], []⟩
def d_is_of : He.DefD := ⟨("is_of", none), "is_of", "is_of", defArgs s_is_of, defBody s_is_of, defScope s_is_of, [], []⟩
def d_run : He.DefD := ⟨("run", none), "run", "run", defArgs s_run, defBody s_run, defScope s_run, [], []⟩
def d_need_run : He.DefD := ⟨("need_run", none), "need_run", "need_run", defArgs s_need_run, defBody s_need_run, defScope s_need_run, [], []⟩
def d_shapes_along : He.DefD := ⟨("shapes_along", none), "shapes_along", "shapes_along", defArgs s_shapes_along, defBody s_shapes_along, defScope s_shapes_along, [], []⟩
def d_costs_along : He.DefD := ⟨("costs_along", none), "costs_along", "costs_along", defArgs s_costs_along, defBody s_costs_along, defScope s_costs_along, [], []⟩
def d_deeds_at : He.DefD := ⟨("deeds_at", none), "deeds_at", "deeds_at", defArgs s_deeds_at, defBody s_deeds_at, defScope s_deeds_at, [], []⟩
def d_parted : He.DefD := ⟨("parted", none), "parted", "parted", defArgs s_parted, defBody s_parted, defScope s_parted, [], []⟩
def d_need_two : He.DefD := ⟨("need_two", none), "need_two", "need_two", defArgs s_need_two, defBody s_need_two, defScope s_need_two, [], []⟩
def d_parting_row : He.DefD := ⟨("parting_row", none), "parting_row", "parting_row", defArgs s_parting_row, defBody s_parting_row, defScope s_parting_row, [], []⟩
def d_costing_row : He.DefD := ⟨("costing_row", none), "costing_row", "costing_row", defArgs s_costing_row, defBody s_costing_row, defScope s_costing_row, [], []⟩
def d_lowest : He.DefD := ⟨("lowest", none), "lowest", "lowest", defArgs s_lowest, defBody s_lowest, defScope s_lowest, [], []⟩
def d_sums_from : He.DefD := ⟨("sums_from", none), "sums_from", "sums_from", defArgs s_sums_from, defBody s_sums_from, defScope s_sums_from, [], []⟩
def d_mean_of : He.DefD := ⟨("mean_of", none), "mean_of", "mean_of", defArgs s_mean_of, defBody s_mean_of, defScope s_mean_of, [], []⟩
def d_need_endless : He.DefD := ⟨("need_endless", none), "need_endless", "need_endless", defArgs s_need_endless, defBody s_need_endless, defScope s_need_endless, [], []⟩
def d_pair_graph : He.DefD := ⟨("pair_graph", none), "pair_graph", "pair_graph", defArgs s_pair_graph, defBody s_pair_graph, defScope s_pair_graph, [], []⟩
def d_need_lead : He.DefD := ⟨("need_lead", none), "need_lead", "need_lead", defArgs s_need_lead, defBody s_need_lead, defScope s_need_lead, [], []⟩
def d_greatest_lead : He.DefD := ⟨("greatest_lead", none), "greatest_lead", "greatest_lead", defArgs s_greatest_lead, defBody s_greatest_lead, defScope s_greatest_lead, [], []⟩
def d_law_keys : He.DefD := ⟨("_law_keys", none), "_law_keys", "_law_keys", defArgs s_law_keys, defBody s_law_keys, defScope s_law_keys, [], []⟩
def d_law_draw : He.DefD := ⟨("_law_draw", none), "_law_draw", "_law_draw", defArgs s_law_draw, defBody s_law_draw, defScope s_law_draw, [], []⟩
def d_law_pick : He.DefD := ⟨("_law_pick", none), "_law_pick", "_law_pick", defArgs s_law_pick, defBody s_law_pick, defScope s_law_pick, [], []⟩
def d_law_ranks : He.DefD := ⟨("_law_ranks", none), "_law_ranks", "_law_ranks", defArgs s_law_ranks, defBody s_law_ranks, defScope s_law_ranks, [], []⟩
def d_law_rule : He.DefD := ⟨("_law_rule", none), "_law_rule", "_law_rule", defArgs s_law_rule, defBody s_law_rule, defScope s_law_rule, [], []⟩
def d_law_deed : He.DefD := ⟨("_law_deed", none), "_law_deed", "_law_deed", defArgs s_law_deed, defBody s_law_deed, defScope s_law_deed, [], []⟩
def d_law_load : He.DefD := ⟨("_law_load", none), "_law_load", "_law_load", defArgs s_law_load, defBody s_law_load, defScope s_law_load, [], []⟩
def d_law_row : He.DefD := ⟨("_law_row", none), "_law_row", "_law_row", defArgs s_law_row, defBody s_law_row, defScope s_law_row, [], []⟩
def d_law_endless_load : He.DefD := ⟨("_law_endless_load", none), "_law_endless_load", "_law_endless_load", defArgs s_law_endless_load, defBody s_law_endless_load, defScope s_law_endless_load, [], []⟩
def d_law : He.DefD := ⟨("law", none), "law", "law", defArgs s_law, defBody s_law, defScope s_law, [], []⟩
def fnA : List He.DefD := [d_is_number, d_keys_of, d_size_of, d_height_of, d_way_to, d_left_up, d_right_up, d_turned, d_with_leaf, d_least, d_greatest, d_without, d_once_up, d_to_top, d_way_down, d_splayed, d_without_splayed, d_weight_of, d_is_greater, d_is_inner, d_set_right, d_put_right, d_take_right, d_is_even, d_built, d_rebuilt, d_put_rebuilt, d_take_rebuilt, d_rank_of, d_ranked, d_bare, d_skew, d_split, d_put_in, d_with_right, d_set_back, d_take_out, d_is_rule, d_need_rule]
def fnB : List He.DefD := [d_by_order, d_moved, d_with_key, d_without_key, d_behind, d_cost_of, d_is_deed, d_is_load, d_need_load, d_keys_along, d_is_row, d_need_row, d_is_row_of, d_is_of, d_run, d_need_run, d_shapes_along, d_costs_along, d_deeds_at, d_parted, d_need_two, d_parting_row, d_costing_row, d_lowest, d_sums_from, d_mean_of, d_need_endless, d_pair_graph, d_need_lead, d_greatest_lead, d_law_keys, d_law_draw, d_law_pick, d_law_ranks, d_law_rule, d_law_deed, d_law_load, d_law_row, d_law_endless_load, d_law]
def fn : List He.DefD := fnA ++ fnB
def faA : List He.Fa := [.glo "is_number", .glo "keys_of", .glo "size_of", .glo "height_of", .glo "way_to", .glo "left_up", .glo "right_up", .glo "turned", .glo "with_leaf", .glo "least", .glo "greatest", .glo "without", .glo "once_up", .glo "to_top", .glo "way_down", .glo "splayed", .glo "without_splayed", .glo "weight_of", .glo "is_greater", .glo "is_inner", .glo "set_right", .glo "put_right", .glo "take_right", .glo "is_even", .glo "built", .glo "rebuilt", .glo "put_rebuilt", .glo "take_rebuilt", .glo "rank_of", .glo "ranked", .glo "bare", .glo "skew", .glo "split", .glo "put_in", .glo "with_right", .glo "set_back", .glo "take_out", .glo "is_rule", .glo "need_rule"]
def faB : List He.Fa := [.glo "by_order", .glo "moved", .glo "with_key", .glo "without_key", .glo "behind", .glo "cost_of", .glo "is_deed", .glo "is_load", .glo "need_load", .glo "keys_along", .glo "is_row", .glo "need_row", .glo "is_row_of", .glo "is_of", .glo "run", .glo "need_run", .glo "shapes_along", .glo "costs_along", .glo "deeds_at", .glo "parted", .glo "need_two", .glo "parting_row", .glo "costing_row", .glo "lowest", .glo "sums_from", .glo "mean_of", .glo "need_endless", .glo "pair_graph", .glo "need_lead", .glo "greatest_lead", .glo "_law_keys", .glo "_law_draw", .glo "_law_pick", .glo "_law_ranks", .glo "_law_rule", .glo "_law_deed", .glo "_law_load", .glo "_law_row", .glo "_law_endless_load", .glo "law"]
def faC : List He.Fa := [.free "isinstance", .free "int", .free "bool", .free "tuple", .free "str", .free "list", .free "len", .free "max", .free "min", .free "abs", .free "all", .free "sorted", .free "range", .int "MOST" 6, .int "DEEDS" 40, .glo "FAMILY", .glo "WORDS"]
def fa : List He.Fa := faA ++ faB ++ faC
def loose0 : List Str := ["__name__", "TreeError", "InvalidRule", "InvalidLoad", "InvalidRow", "MOST", "is_number", "keys_of", "size_of", "height_of", "way_to", "left_up", "right_up", "turned", "with_leaf", "least", "greatest", "without"]
def loose1 : List Str := ["once_up", "to_top", "way_down", "splayed", "without_splayed", "weight_of", "set_right", "is_greater", "is_inner", "put_right", "take_right", "is_even", "built", "rebuilt", "put_rebuilt", "take_rebuilt", "rank_of", "ranked"]
def loose2 : List Str := ["bare", "skew", "split", "put_in", "with_right", "set_back", "take_out", "FAMILY", "is_rule", "need_rule", "by_order", "with_key", "without_key", "moved", "behind", "cost_of", "is_deed", "DEEDS"]
def loose3 : List Str := ["WORDS", "is_load", "need_load", "keys_along", "is_row", "need_row", "is_row_of", "is_of", "run", "need_run", "shapes_along", "costs_along", "deeds_at", "parted", "need_two", "parting_row", "costing_row", "lowest"]
def loose4 : List Str := ["sums_from", "mean_of", "need_endless", "pair_graph", "need_lead", "greatest_lead", "_law_draw", "_law_pick", "_law_keys", "_law_tall", "_law_path", "_law_all", "_law_plant", "_law_order", "_law_ranks", "_law_rule", "_law_deed", "_law_load"]
def loose5 : List Str := ["_law_deeds", "_law_row", "_law_endless_load"]
def loose : List Str := loose0 ++ loose1 ++ loose2 ++ loose3 ++ loose4 ++ loose5
abbrev RR : PySem.W.OpenRow := PySem.W.OpenLaw.row PySem.Challenge.rw_turnedtrees_k51_whole_same_keys
def exB (K : PySem.W.Frag) : Bool := He.tupB K "FAMILY" [.str "heights", .str "levels", .str "once", .str "plain", .str "rebuilt", .str "splayed", .str "top", .str "weights"] && He.tupB K "WORDS" [.str "ask", .str "in", .str "out"]
def obsM (g : Addr → Option Obj) : He.AlD × Bool := (He.obsD fa fn (He.frG g (He.asD g 3)), exB (He.frG g (He.asD g 3)))
def hk : PySem.W.Hook where
  α := He.AlD × Bool
  obs := fun s => obsM s.heap.get?
  val := fun _ => (He.valD fn, true)
  says := fun _ h => ∃ K : PySem.W.Frag, K.In h ∧ He.SaysD fa fn K ∧ exB K = true
  of := fun _ _ e => ⟨_, He.frG_in, congrArg (fun z : He.AlD × Bool => z.1) e, congrArg (fun z : He.AlD × Bool => z.2) e⟩
  keeps := fun _ _ _ ⟨K, hK, c⟩ k => ⟨K, PySem.W.Frag.In.keeps hK k, c⟩
def obH (s : PySem.W.SharedT) : He.AlD × Bool := obsM (HandSHeadRun.getT s)
theorem obH_eq (s : PySem.W.SharedT) : obH s = hk.obs s.abs := by
  have e : HandSHeadRun.getT s = s.abs.heap.get? := funext (HandSHeadRun.getT_eq s)
  show obsM (HandSHeadRun.getT s) = obsM s.abs.heap.get?
  rw [e]
set_option maxHeartbeats 0 in
theorem runH (w : World) : HandSHeadRun.RunEq RR (PySem.W.view RR.prog [104]) hk obH 8000 loose w := by
  intro os
  kernel_rfl
theorem txt_of {K : PySem.W.Frag} {h : Heap} {mg : Str → Option Value} (X : K.In h) (G : h.Ns mainGlobals mg) (c : He.SaysD fa fn K) (ce : exB K = true) : Txt K mg := by
  have hF : He.tupB K "FAMILY" [.str "heights", .str "levels", .str "once", .str "plain", .str "rebuilt", .str "splayed", .str "top", .str "weights"] = true ∧ He.tupB K "WORDS" [.str "ask", .str "in", .str "out"] = true := by
    unfold exB at ce
    exact Bool.and_eq_true_iff.mp ce
  have bi : Bi K mg := {
    isinstance := He.free_ok X G (c.fact 79 (f := .free "isinstance") rfl)
    int := He.free_ok X G (c.fact 80 (f := .free "int") rfl)
    bool := He.free_ok X G (c.fact 81 (f := .free "bool") rfl)
    tuple := He.free_ok X G (c.fact 82 (f := .free "tuple") rfl)
    str := He.free_ok X G (c.fact 83 (f := .free "str") rfl)
    list := He.free_ok X G (c.fact 84 (f := .free "list") rfl)
    len := He.free_ok X G (c.fact 85 (f := .free "len") rfl)
    max := He.free_ok X G (c.fact 86 (f := .free "max") rfl)
    min := He.free_ok X G (c.fact 87 (f := .free "min") rfl)
    abs := He.free_ok X G (c.fact 88 (f := .free "abs") rfl)
    all := He.free_ok X G (c.fact 89 (f := .free "all") rfl)
    sorted := He.free_ok X G (c.fact 90 (f := .free "sorted") rfl)
    range := He.free_ok X G (c.fact 91 (f := .free "range") rfl)
    MOST := He.int_ok X G (c.fact 92 (f := .int "MOST" 6) rfl)
    DEEDS := He.int_ok X G (c.fact 93 (f := .int "DEEDS" 40) rfl)
    FAMILY := ⟨_, He.glo_ok X G (c.fact 94 (f := .glo "FAMILY") rfl), fun H => He.tupB_ok hF.1 H⟩
    WORDS := ⟨_, He.glo_ok X G (c.fact 95 (f := .glo "WORDS") rfl), fun H => He.tupB_ok hF.2 H⟩ }
  exact {
    bi := bi
    is_number := (c.def_ 0 (d := d_is_number) rfl).elim fun fd F => ⟨_, fd, F, He.glo_ok X G (c.fact 0 (f := .glo "is_number") rfl)⟩
    keys_of := (c.def_ 1 (d := d_keys_of) rfl).elim fun fd F => ⟨_, fd, F, He.glo_ok X G (c.fact 1 (f := .glo "keys_of") rfl)⟩
    size_of := (c.def_ 2 (d := d_size_of) rfl).elim fun fd F => ⟨_, fd, F, He.glo_ok X G (c.fact 2 (f := .glo "size_of") rfl)⟩
    height_of := (c.def_ 3 (d := d_height_of) rfl).elim fun fd F => ⟨_, fd, F, He.glo_ok X G (c.fact 3 (f := .glo "height_of") rfl)⟩
    way_to := (c.def_ 4 (d := d_way_to) rfl).elim fun fd F => ⟨_, fd, F, He.glo_ok X G (c.fact 4 (f := .glo "way_to") rfl)⟩
    left_up := (c.def_ 5 (d := d_left_up) rfl).elim fun fd F => ⟨_, fd, F, He.glo_ok X G (c.fact 5 (f := .glo "left_up") rfl)⟩
    right_up := (c.def_ 6 (d := d_right_up) rfl).elim fun fd F => ⟨_, fd, F, He.glo_ok X G (c.fact 6 (f := .glo "right_up") rfl)⟩
    turned := (c.def_ 7 (d := d_turned) rfl).elim fun fd F => ⟨_, fd, F, He.glo_ok X G (c.fact 7 (f := .glo "turned") rfl)⟩
    with_leaf := (c.def_ 8 (d := d_with_leaf) rfl).elim fun fd F => ⟨_, fd, F, He.glo_ok X G (c.fact 8 (f := .glo "with_leaf") rfl)⟩
    least := (c.def_ 9 (d := d_least) rfl).elim fun fd F => ⟨_, fd, F, He.glo_ok X G (c.fact 9 (f := .glo "least") rfl)⟩
    greatest := (c.def_ 10 (d := d_greatest) rfl).elim fun fd F => ⟨_, fd, F, He.glo_ok X G (c.fact 10 (f := .glo "greatest") rfl)⟩
    without := (c.def_ 11 (d := d_without) rfl).elim fun fd F => ⟨_, fd, F, He.glo_ok X G (c.fact 11 (f := .glo "without") rfl)⟩
    once_up := (c.def_ 12 (d := d_once_up) rfl).elim fun fd F => ⟨_, fd, F, He.glo_ok X G (c.fact 12 (f := .glo "once_up") rfl)⟩
    to_top := (c.def_ 13 (d := d_to_top) rfl).elim fun fd F => ⟨_, fd, F, He.glo_ok X G (c.fact 13 (f := .glo "to_top") rfl)⟩
    way_down := (c.def_ 14 (d := d_way_down) rfl).elim fun fd F => ⟨_, fd, F, He.glo_ok X G (c.fact 14 (f := .glo "way_down") rfl)⟩
    splayed := (c.def_ 15 (d := d_splayed) rfl).elim fun fd F => ⟨_, fd, F, He.glo_ok X G (c.fact 15 (f := .glo "splayed") rfl)⟩
    without_splayed := (c.def_ 16 (d := d_without_splayed) rfl).elim fun fd F => ⟨_, fd, F, He.glo_ok X G (c.fact 16 (f := .glo "without_splayed") rfl)⟩
    weight_of := (c.def_ 17 (d := d_weight_of) rfl).elim fun fd F => ⟨_, fd, F, He.glo_ok X G (c.fact 17 (f := .glo "weight_of") rfl)⟩
    is_greater := (c.def_ 18 (d := d_is_greater) rfl).elim fun fd F => ⟨_, fd, F, He.glo_ok X G (c.fact 18 (f := .glo "is_greater") rfl)⟩
    is_inner := (c.def_ 19 (d := d_is_inner) rfl).elim fun fd F => ⟨_, fd, F, He.glo_ok X G (c.fact 19 (f := .glo "is_inner") rfl)⟩
    set_right := (c.def_ 20 (d := d_set_right) rfl).elim fun fd F => ⟨_, fd, F, He.glo_ok X G (c.fact 20 (f := .glo "set_right") rfl)⟩
    put_right := (c.def_ 21 (d := d_put_right) rfl).elim fun fd F => ⟨_, fd, F, He.glo_ok X G (c.fact 21 (f := .glo "put_right") rfl)⟩
    take_right := (c.def_ 22 (d := d_take_right) rfl).elim fun fd F => ⟨_, fd, F, He.glo_ok X G (c.fact 22 (f := .glo "take_right") rfl)⟩
    is_even := (c.def_ 23 (d := d_is_even) rfl).elim fun fd F => ⟨_, fd, F, He.glo_ok X G (c.fact 23 (f := .glo "is_even") rfl)⟩
    built := (c.def_ 24 (d := d_built) rfl).elim fun fd F => ⟨_, fd, F, He.glo_ok X G (c.fact 24 (f := .glo "built") rfl)⟩
    rebuilt := (c.def_ 25 (d := d_rebuilt) rfl).elim fun fd F => ⟨_, fd, F, He.glo_ok X G (c.fact 25 (f := .glo "rebuilt") rfl)⟩
    put_rebuilt := (c.def_ 26 (d := d_put_rebuilt) rfl).elim fun fd F => ⟨_, fd, F, He.glo_ok X G (c.fact 26 (f := .glo "put_rebuilt") rfl)⟩
    take_rebuilt := (c.def_ 27 (d := d_take_rebuilt) rfl).elim fun fd F => ⟨_, fd, F, He.glo_ok X G (c.fact 27 (f := .glo "take_rebuilt") rfl)⟩
    rank_of := (c.def_ 28 (d := d_rank_of) rfl).elim fun fd F => ⟨_, fd, F, He.glo_ok X G (c.fact 28 (f := .glo "rank_of") rfl)⟩
    ranked := (c.def_ 29 (d := d_ranked) rfl).elim fun fd F => ⟨_, fd, F, He.glo_ok X G (c.fact 29 (f := .glo "ranked") rfl)⟩
    bare := (c.def_ 30 (d := d_bare) rfl).elim fun fd F => ⟨_, fd, F, He.glo_ok X G (c.fact 30 (f := .glo "bare") rfl)⟩
    skew := (c.def_ 31 (d := d_skew) rfl).elim fun fd F => ⟨_, fd, F, He.glo_ok X G (c.fact 31 (f := .glo "skew") rfl)⟩
    split := (c.def_ 32 (d := d_split) rfl).elim fun fd F => ⟨_, fd, F, He.glo_ok X G (c.fact 32 (f := .glo "split") rfl)⟩
    put_in := (c.def_ 33 (d := d_put_in) rfl).elim fun fd F => ⟨_, fd, F, He.glo_ok X G (c.fact 33 (f := .glo "put_in") rfl)⟩
    with_right := (c.def_ 34 (d := d_with_right) rfl).elim fun fd F => ⟨_, fd, F, He.glo_ok X G (c.fact 34 (f := .glo "with_right") rfl)⟩
    set_back := (c.def_ 35 (d := d_set_back) rfl).elim fun fd F => ⟨_, fd, F, He.glo_ok X G (c.fact 35 (f := .glo "set_back") rfl)⟩
    take_out := (c.def_ 36 (d := d_take_out) rfl).elim fun fd F => ⟨_, fd, F, He.glo_ok X G (c.fact 36 (f := .glo "take_out") rfl)⟩
    is_rule := (c.def_ 37 (d := d_is_rule) rfl).elim fun fd F => ⟨_, fd, F, He.glo_ok X G (c.fact 37 (f := .glo "is_rule") rfl)⟩
    need_rule := (c.def_ 38 (d := d_need_rule) rfl).elim fun fd F => ⟨_, fd, F, He.glo_ok X G (c.fact 38 (f := .glo "need_rule") rfl)⟩
    by_order := (c.def_ 39 (d := d_by_order) rfl).elim fun fd F => ⟨_, fd, F, He.glo_ok X G (c.fact 39 (f := .glo "by_order") rfl)⟩
    moved := (c.def_ 40 (d := d_moved) rfl).elim fun fd F => ⟨_, fd, F, He.glo_ok X G (c.fact 40 (f := .glo "moved") rfl)⟩
    with_key := (c.def_ 41 (d := d_with_key) rfl).elim fun fd F => ⟨_, fd, F, He.glo_ok X G (c.fact 41 (f := .glo "with_key") rfl)⟩
    without_key := (c.def_ 42 (d := d_without_key) rfl).elim fun fd F => ⟨_, fd, F, He.glo_ok X G (c.fact 42 (f := .glo "without_key") rfl)⟩
    behind := (c.def_ 43 (d := d_behind) rfl).elim fun fd F => ⟨_, fd, F, He.glo_ok X G (c.fact 43 (f := .glo "behind") rfl)⟩
    cost_of := (c.def_ 44 (d := d_cost_of) rfl).elim fun fd F => ⟨_, fd, F, He.glo_ok X G (c.fact 44 (f := .glo "cost_of") rfl)⟩
    is_deed := (c.def_ 45 (d := d_is_deed) rfl).elim fun fd F => ⟨_, fd, F, He.glo_ok X G (c.fact 45 (f := .glo "is_deed") rfl)⟩
    is_load := (c.def_ 46 (d := d_is_load) rfl).elim fun fd F => ⟨_, fd, F, He.glo_ok X G (c.fact 46 (f := .glo "is_load") rfl)⟩
    need_load := (c.def_ 47 (d := d_need_load) rfl).elim fun fd F => ⟨_, fd, F, He.glo_ok X G (c.fact 47 (f := .glo "need_load") rfl)⟩
    keys_along := (c.def_ 48 (d := d_keys_along) rfl).elim fun fd F => ⟨_, fd, F, He.glo_ok X G (c.fact 48 (f := .glo "keys_along") rfl)⟩
    is_row := (c.def_ 49 (d := d_is_row) rfl).elim fun fd F => ⟨_, fd, F, He.glo_ok X G (c.fact 49 (f := .glo "is_row") rfl)⟩
    need_row := (c.def_ 50 (d := d_need_row) rfl).elim fun fd F => ⟨_, fd, F, He.glo_ok X G (c.fact 50 (f := .glo "need_row") rfl)⟩
    is_row_of := (c.def_ 51 (d := d_is_row_of) rfl).elim fun fd F => ⟨_, fd, F, He.glo_ok X G (c.fact 51 (f := .glo "is_row_of") rfl)⟩
    is_of := (c.def_ 52 (d := d_is_of) rfl).elim fun fd F => ⟨_, fd, F, He.glo_ok X G (c.fact 52 (f := .glo "is_of") rfl)⟩
    run := (c.def_ 53 (d := d_run) rfl).elim fun fd F => ⟨_, fd, F, He.glo_ok X G (c.fact 53 (f := .glo "run") rfl)⟩
    need_run := (c.def_ 54 (d := d_need_run) rfl).elim fun fd F => ⟨_, fd, F, He.glo_ok X G (c.fact 54 (f := .glo "need_run") rfl)⟩
    shapes_along := (c.def_ 55 (d := d_shapes_along) rfl).elim fun fd F => ⟨_, fd, F, He.glo_ok X G (c.fact 55 (f := .glo "shapes_along") rfl)⟩
    costs_along := (c.def_ 56 (d := d_costs_along) rfl).elim fun fd F => ⟨_, fd, F, He.glo_ok X G (c.fact 56 (f := .glo "costs_along") rfl)⟩
    deeds_at := (c.def_ 57 (d := d_deeds_at) rfl).elim fun fd F => ⟨_, fd, F, He.glo_ok X G (c.fact 57 (f := .glo "deeds_at") rfl)⟩
    parted := (c.def_ 58 (d := d_parted) rfl).elim fun fd F => ⟨_, fd, F, He.glo_ok X G (c.fact 58 (f := .glo "parted") rfl)⟩
    need_two := (c.def_ 59 (d := d_need_two) rfl).elim fun fd F => ⟨_, fd, F, He.glo_ok X G (c.fact 59 (f := .glo "need_two") rfl)⟩
    parting_row := (c.def_ 60 (d := d_parting_row) rfl).elim fun fd F => ⟨_, fd, F, He.glo_ok X G (c.fact 60 (f := .glo "parting_row") rfl)⟩
    costing_row := (c.def_ 61 (d := d_costing_row) rfl).elim fun fd F => ⟨_, fd, F, He.glo_ok X G (c.fact 61 (f := .glo "costing_row") rfl)⟩
    lowest := (c.def_ 62 (d := d_lowest) rfl).elim fun fd F => ⟨_, fd, F, He.glo_ok X G (c.fact 62 (f := .glo "lowest") rfl)⟩
    sums_from := (c.def_ 63 (d := d_sums_from) rfl).elim fun fd F => ⟨_, fd, F, He.glo_ok X G (c.fact 63 (f := .glo "sums_from") rfl)⟩
    mean_of := (c.def_ 64 (d := d_mean_of) rfl).elim fun fd F => ⟨_, fd, F, He.glo_ok X G (c.fact 64 (f := .glo "mean_of") rfl)⟩
    need_endless := (c.def_ 65 (d := d_need_endless) rfl).elim fun fd F => ⟨_, fd, F, He.glo_ok X G (c.fact 65 (f := .glo "need_endless") rfl)⟩
    pair_graph := (c.def_ 66 (d := d_pair_graph) rfl).elim fun fd F => ⟨_, fd, F, He.glo_ok X G (c.fact 66 (f := .glo "pair_graph") rfl)⟩
    need_lead := (c.def_ 67 (d := d_need_lead) rfl).elim fun fd F => ⟨_, fd, F, He.glo_ok X G (c.fact 67 (f := .glo "need_lead") rfl)⟩
    greatest_lead := (c.def_ 68 (d := d_greatest_lead) rfl).elim fun fd F => ⟨_, fd, F, He.glo_ok X G (c.fact 68 (f := .glo "greatest_lead") rfl)⟩
    law_keys := (c.def_ 69 (d := d_law_keys) rfl).elim fun fd F => ⟨_, fd, F, He.glo_ok X G (c.fact 69 (f := .glo "_law_keys") rfl)⟩
    law_draw := (c.def_ 70 (d := d_law_draw) rfl).elim fun fd F => ⟨_, fd, F, He.glo_ok X G (c.fact 70 (f := .glo "_law_draw") rfl)⟩
    law_pick := (c.def_ 71 (d := d_law_pick) rfl).elim fun fd F => ⟨_, fd, F, He.glo_ok X G (c.fact 71 (f := .glo "_law_pick") rfl)⟩
    law_ranks := (c.def_ 72 (d := d_law_ranks) rfl).elim fun fd F => ⟨_, fd, F, He.glo_ok X G (c.fact 72 (f := .glo "_law_ranks") rfl)⟩
    law_rule := (c.def_ 73 (d := d_law_rule) rfl).elim fun fd F => ⟨_, fd, F, He.glo_ok X G (c.fact 73 (f := .glo "_law_rule") rfl)⟩
    law_deed := (c.def_ 74 (d := d_law_deed) rfl).elim fun fd F => ⟨_, fd, F, He.glo_ok X G (c.fact 74 (f := .glo "_law_deed") rfl)⟩
    law_load := (c.def_ 75 (d := d_law_load) rfl).elim fun fd F => ⟨_, fd, F, He.glo_ok X G (c.fact 75 (f := .glo "_law_load") rfl)⟩
    law_row := (c.def_ 76 (d := d_law_row) rfl).elim fun fd F => ⟨_, fd, F, He.glo_ok X G (c.fact 76 (f := .glo "_law_row") rfl)⟩
    law_endless_load := (c.def_ 77 (d := d_law_endless_load) rfl).elim fun fd F => ⟨_, fd, F, He.glo_ok X G (c.fact 77 (f := .glo "_law_endless_load") rfl)⟩
    law := (c.def_ 78 (d := d_law) rfl).elim fun fd F => ⟨_, fd, F, He.glo_ok X G (c.fact 78 (f := .glo "law") rfl)⟩ }
end L3
open PySem PySem.W PySem.Calls PyProof.Rows
set_option maxHeartbeats 0 in
theorem PySem.Challenge.cw_turnedtrees_k51_whole_same_keys_holds : PySem.Challenge.rw_turnedtrees_k51_whole_same_keys.Holds := by
  w_on; o_law
  refine HandSHeadRun.head_any (r := OpenLaw.row PySem.Challenge.rw_turnedtrees_k51_whole_same_keys) (q := view (OpenLaw.row PySem.Challenge.rw_turnedtrees_k51_whole_same_keys).prog [104]) (H := L3.hk) (ob := L3.obH) (M := 8000) (loose := L3.loose) (d := HandSHeadRun.topDef (OpenLaw.row PySem.Challenge.rw_turnedtrees_k51_whole_same_keys).prog 104) (kwd := []) L3.obH_eq
    (by kernel_rfl) (fun s => by kernel_rfl) L3.runH (by kernel_rfl) (by kernel_rfl) (by kernel_rfl) (by rfl) (by first | assumption | decide +kernel) (by decide +kernel) ⟨rfl, rfl, rfl, rfl, rfl, by decide +kernel⟩ ?hw ?hc
  case hw => w_witness2
  case hc =>
    refine L2.walk_ofE (l := PySem.Challenge.rw_turnedtrees_k51_whole_same_keys) (n := 63) (k := 24) (x := "_law_script") (CX := L2.CX0) rfl (by decide) (by kernel_rfl) ⟨rfl, by decide, by decide⟩ ?F (fun _ _ _ _ z => z)
    intro w mg fa h Y G hmg0
    obtain ⟨K, KX, c, ce⟩ := Y
    have hmg : mg ("law" : PySem.Str) = some (.ref fa) := by
      have e : (HandSHeadRun.topDef (OpenLaw.row PySem.Challenge.rw_turnedtrees_k51_whole_same_keys).prog 104).name = ("law" : PySem.Str) := by kernel_rfl
      rw [← e]
      exact hmg0
    have T := L3.txt_of KX G c ce
    obtain ⟨f, fd, F, hf⟩ := T.law
    have e := hf.symm.trans hmg
    cases e
    exact ⟨K, fd, L3.spLaw K, KX, fun s u => L2.FunD.bindsA (ps := ["_law_script"]) F (fun _ _ _ _ _ _ us hl => match us, hl with | [_], _ => rfl) s [u] rfl, fun H a ns hl _ hS => ⟨a, ns, rfl, hS, hl, fun _ => rfl⟩, fun base _ _ => L3.ok_law T F⟩

