import PyProof.Rows.All
import Wide.All
import OpenK.AllK
import Wide.FinOn
import HandS.ForMost
import HandS.Wide
import HandS.WideBits
import HandS.Strs
import HandS.IsInst
import HandS.TupAny
import HandS.Style
import HandS.SetFor
import HandS.Deep
import HandS.Conv
import HandS.Ends
import HandS.Words
import HandS.Comp
import HandS.Star
import KE.KDictKeyed
import HandS.SortRule
import PySem.Challenge.RW_placeworths_k02_whole_draws_told
set_option Elab.async false
set_option linter.all false
set_option maxRecDepth 100000
set_option autoImplicit false
set_option exponentiation.threshold 2000
/-! Ek0: plain data and a small store over the hand layer's abstract heap -/
namespace Ek
open PySem PySem.Spec PyProof.Rows L2
abbrev PD := PyData
mutual
/-- data as a key of a dict: numbers, None, and tuples of such (no texts) -/
def nk : PD → Option NestedKey
  | .none => some .none
  | .int i => some (.num i)
  | .bool b => some (.num (if b = true then 1 else 0))
  | .tuple ds => match nks ds with
    | some ks => some (.tup ks)
    | none => none
  | _ => none
def nks : List PD → Option (List NestedKey)
  | [] => some []
  | d :: ds => match nk d, nks ds with
    | some k, some ks => some (k :: ks)
    | _, _ => none
end
/-- the dict at a has these entries: keys, where they stand, values -/
def DtO (a : Addr) (xs : List (NestedKey × Addr × Value)) : Heap → Prop := fun h => (xs.map (·.1)).Nodup ∧ xs.length ≤ sizeLine ∧ (a == sysModules) = false ∧
  ∃ (P : Program) (w : World) (o : Obj) (es : Array DictEntry) (ep : Nat), h.get? a = some o ∧ o.ExactDict ∧ o.data = .dict es ep ∧ es.toList = xs.map (entryOfKey (nestedKind P w))

/-- a mutable thing of the store -/
inductive MO where
  | lst (t : Bool) (xs : List PD)
  | dT (kvs : List (PD × PD))
  | fzn (t : Bool) (xs : List PD)
  | fdT (kvs : List (PD × PD))
  | dead
def MO.live : MO → Bool
  | .lst _ _ => true
  | .dT _ => true
  | _ => false
/-- a value: plain data (t: no tuple of the written part is in it), or a place of the store -/
inductive W where
  | d (t : Bool) (x : PD)
  | loc (n : Nat)
  /-- the script -/
  | s (xs : List PD)
  /-- the def of this global name -/
  | fn (x : Str)
/-- the written part, or nothing of it -/
def kk (t : Bool) (K : PySem.W.Frag) : PySem.W.Frag := match t with
  | true => []
  | false => K
abbrev MS := List MO
abbrev Sl := List (Option W)
abbrev Sm (α : Type) := Sl → MS → Option (α × MS)

/-! ### plain data in the heap: as Dp, but lists are never of the written part -/
def TupR (K : PySem.W.Frag) (H : Hp) (a : Addr) (xs : List V) : Prop :=
  H a = some (.tup xs) ∨ ∃ (o : Obj) (its : Array Value) (n : Nat), K.lookup a = some o ∧ o.cls = .type "tuple" ∧ o.data = .seq its n ∧ its.size ≤ sizeLine ∧ Vals xs its.toList
theorem TupR.sq {K : PySem.W.Frag} {H : Hp} {a : Addr} {xs : List V} (h : TupR K H a xs) : SqT K H a xs := h.imp .inl id
theorem TupR.own {H : Hp} {a : Addr} {xs : List V} (h : TupR [] H a xs) : H a = some (.tup xs) := h.elim id fun ⟨o, its, n, e, _⟩ => by cases e
mutual
inductive Dq (K : PySem.W.Frag) (H : Hp) : V → PyData → Prop
  | non : Dq K H .non .none
  | bl (b : Bool) : Dq K H (.bl b) (.bool b)
  | int (i : Int) : Dq K H (.int i) (.int i)
  | str (x : Str) : Dq K H (.str x) (.str x)
  | lst {a : Addr} {xs : List V} {ds : List PyData} : H a = some (.lst xs) → DqAll K H xs ds → Dq K H (.ref a) (.list ds)
  | tup {a : Addr} {xs : List V} {ds : List PyData} : TupR K H a xs → DqAll K H xs ds → Dq K H (.ref a) (.tuple ds)
inductive DqAll (K : PySem.W.Frag) (H : Hp) : List V → List PyData → Prop
  | nil : DqAll K H [] []
  | cons {v : V} {vs : List V} {d : PyData} {ds : List PyData} : Dq K H v d → DqAll K H vs ds → DqAll K H (v :: vs) (d :: ds)
end
mutual
theorem dq_dp {K : PySem.W.Frag} {H : Hp} : ∀ {v : V} (d : PD), Dq K H v d → Dp K H v d
  | _, .none, h => by cases h; exact .non
  | _, .bool _, h => by cases h; exact .bl _
  | _, .int _, h => by cases h; exact .int _
  | _, .str _, h => by cases h; exact .str _
  | _, .list ds, h => by
    cases h with
    | lst hs ha => exact .lst (.inl (.inl hs)) (dqa_dpa ds ha)
  | _, .tuple ds, h => by
    cases h with
    | tup hs ha => exact .tup hs.sq (dqa_dpa ds ha)
  | _, .dict _, h => by cases h
theorem dqa_dpa {K : PySem.W.Frag} {H : Hp} : ∀ {vs : List V} (ds : List PD), DqAll K H vs ds → DpAll K H vs ds
  | _, [], h => by cases h; exact .nil
  | _, d :: ds, h => by
    cases h with
    | cons h1 h2 => exact .cons (dq_dp d h1) (dqa_dpa ds h2)
end
/-! ### under more known -/
theorem sq_l {K : PySem.W.Frag} {H H' : Hp} {a : Addr} {xs : List V} (e : Same H H') (h : SqL K H a xs) : SqL K H' a xs := by
  rcases h with (h | ⟨o, h⟩) | h
  · exact .inl (.inl (e _ _ h))
  · exact .inl (.inr ⟨o, e _ _ h⟩)
  · exact .inr h
theorem sq_t {K : PySem.W.Frag} {H H' : Hp} {a : Addr} {xs : List V} (e : Same H H') (h : TupR K H a xs) : TupR K H' a xs := h.imp (fun h => e _ _ h) id
mutual
theorem dp_mono {K : PySem.W.Frag} {H H' : Hp} (e : Same H H') : ∀ {v : V} (d : PD), Dq K H v d → Dq K H' v d
  | _, .none, h => by cases h; exact .non
  | _, .bool _, h => by cases h; exact .bl _
  | _, .int _, h => by cases h; exact .int _
  | _, .str _, h => by cases h; exact .str _
  | _, .list ds, h => by
    cases h with
    | lst hs ha => exact .lst (e _ _ hs) (dpa_mono e ds ha)
  | _, .tuple ds, h => by
    cases h with
    | tup hs ha => exact .tup (sq_t e hs) (dpa_mono e ds ha)
  | _, .dict _, h => by cases h
theorem dpa_mono {K : PySem.W.Frag} {H H' : Hp} (e : Same H H') : ∀ {vs : List V} (ds : List PD), DqAll K H vs ds → DqAll K H' vs ds
  | _, [], h => by cases h; exact .nil
  | _, d :: ds, h => by
    cases h with
    | cons h1 h2 => exact .cons (dp_mono e d h1) (dpa_mono e ds h2)
end
mutual
theorem dq_up {K : PySem.W.Frag} {H : Hp} : ∀ {v : V} (d : PD), Dq [] H v d → Dq K H v d
  | _, .none, h => by cases h; exact .non
  | _, .bool _, h => by cases h; exact .bl _
  | _, .int _, h => by cases h; exact .int _
  | _, .str _, h => by cases h; exact .str _
  | _, .list ds, h => by
    cases h with
    | lst hs ha => exact .lst hs (dqa_up ds ha)
  | _, .tuple ds, h => by
    cases h with
    | tup hs ha => exact .tup (.inl hs.own) (dqa_up ds ha)
  | _, .dict _, h => by cases h
theorem dqa_up {K : PySem.W.Frag} {H : Hp} : ∀ {vs : List V} (ds : List PD), DqAll [] H vs ds → DqAll K H vs ds
  | _, [], h => by cases h; exact .nil
  | _, d :: ds, h => by
    cases h with
    | cons h1 h2 => exact .cons (dq_up d h1) (dqa_up ds h2)
end
/-- fewer promises -/
theorem kkU {t : Bool} {K : PySem.W.Frag} {H : Hp} {v : V} {d : PD} (h : Dq (kk t K) H v d) : Dq K H v d := by
  cases t with
  | true => exact dq_up d h
  | false => exact h
theorem kkUs {t : Bool} {K : PySem.W.Frag} {H : Hp} {v : List V} {d : List PD} (h : DqAll (kk t K) H v d) : DqAll K H v d := by
  cases t with
  | true => exact dqa_up d h
  | false => exact h
theorem kkL {t : Bool} (s : Bool) {K : PySem.W.Frag} {H : Hp} {v : V} {d : PD} (h : Dq (kk t K) H v d) : Dq (kk (t && s) K) H v d := by
  cases s with
  | true => rw [Bool.and_true]; exact h
  | false => rw [Bool.and_false]; exact kkU h
theorem kkR {t : Bool} (s : Bool) {K : PySem.W.Frag} {H : Hp} {v : V} {d : PD} (h : Dq (kk t K) H v d) : Dq (kk (s && t) K) H v d := by
  rw [Bool.and_comm]
  exact kkL s h
theorem kkLs {t : Bool} (s : Bool) {K : PySem.W.Frag} {H : Hp} {v : List V} {d : List PD} (h : DqAll (kk t K) H v d) : DqAll (kk (t && s) K) H v d := by
  cases s with
  | true => rw [Bool.and_true]; exact h
  | false => rw [Bool.and_false]; exact kkUs h
theorem kkRs {t : Bool} (s : Bool) {K : PySem.W.Frag} {H : Hp} {v : List V} {d : List PD} (h : DqAll (kk t K) H v d) : DqAll (kk (s && t) K) H v d := by
  rw [Bool.and_comm]
  exact kkLs s h
/-- of things that are no tuples and no lists nothing is to be promised -/
def nf (t : Bool) : PD → Bool
  | .list _ => t
  | .tuple _ => t
  | _ => true
theorem dq_nf {t : Bool} {K : PySem.W.Frag} {H : Hp} {v : V} {x : PD} (h : Dq (kk t K) H v x) : Dq (kk (nf t x) K) H v x := by
  cases h with
  | non => exact .non
  | bl b => exact .bl b
  | int i => exact .int i
  | str x => exact .str x
  | lst h1 h2 => exact .lst h1 h2
  | tup h1 h2 => exact .tup h1 h2
theorem dpa_length {K : PySem.W.Frag} {H : Hp} : ∀ {vs : List V} {ds : List PD}, DqAll K H vs ds → vs.length = ds.length
  | _, [], h => by cases h; rfl
  | _, d :: ds, h => by
    cases h with
    | cons h1 h2 => simp [dpa_length h2]
theorem dpa_get {K : PySem.W.Frag} {H : Hp} : ∀ {vs : List V} {ds : List PD} {i : Nat} {v : V}, DqAll K H vs ds → vs[i]? = some v → ∃ d, ds[i]? = some d ∧ Dq K H v d
  | _, [], _, _, h, e => by cases h; simp at e
  | _, d :: ds, 0, _, h, e => by
    cases h with
    | cons h1 h2 => simp at e; subst e; exact ⟨d, rfl, h1⟩
  | _, d :: ds, i + 1, v, h, e => by
    cases h with
    | cons h1 h2 => simpa using dpa_get (i := i) h2 (by simpa using e)
theorem dpa_getD {K : PySem.W.Frag} {H : Hp} : ∀ {vs : List V} {ds : List PD} {i : Nat} {d : PD}, DqAll K H vs ds → ds[i]? = some d → ∃ v, vs[i]? = some v ∧ Dq K H v d
  | _, [], _, _, h, e => by simp at e
  | _, d :: ds, 0, _, h, e => by
    cases h with
    | cons h1 h2 => simp at e; subst e; exact ⟨_, rfl, h1⟩
  | _, d :: ds, i + 1, v, h, e => by
    cases h with
    | cons h1 h2 => simpa using dpa_getD (i := i) h2 (by simpa using e)
theorem dpa_append {K : PySem.W.Frag} {H : Hp} : ∀ {vs us : List V} {ds es : List PD}, DqAll K H vs ds → DqAll K H us es → DqAll K H (vs ++ us) (ds ++ es)
  | _, _, [], _, h, h' => by cases h; exact h'
  | _, _, d :: ds, _, h, h' => by
    cases h with
    | cons h1 h2 => exact .cons h1 (dpa_append h2 h')
theorem dpa_take {K : PySem.W.Frag} {H : Hp} : ∀ {vs : List V} {ds : List PD} (n : Nat), DqAll K H vs ds → DqAll K H (vs.take n) (ds.take n)
  | _, [], n, h => by cases h; simpa using DqAll.nil
  | _, d :: ds, 0, h => by simpa using DqAll.nil
  | _, d :: ds, n + 1, h => by
    cases h with
    | cons h1 h2 => exact .cons h1 (dpa_take n h2)
theorem dpa_drop {K : PySem.W.Frag} {H : Hp} : ∀ {vs : List V} {ds : List PD} (n : Nat), DqAll K H vs ds → DqAll K H (vs.drop n) (ds.drop n)
  | _, [], n, h => by cases h; simpa using DqAll.nil
  | _, d :: ds, 0, h => h
  | _, d :: ds, n + 1, h => by
    cases h with
    | cons h1 h2 => exact dpa_drop n h2
theorem dpa_set {K : PySem.W.Frag} {H : Hp} {v : V} {d : PD} (hd : Dq K H v d) : ∀ {vs : List V} {ds : List PD} (n : Nat), DqAll K H vs ds → DqAll K H (vs.set n v) (ds.set n d)
  | _, [], n, h => by cases h; simpa using DqAll.nil
  | _, e :: ds, 0, h => by
    cases h with
    | cons h1 h2 => exact .cons hd h2
  | _, e :: ds, n + 1, h => by
    cases h with
    | cons h1 h2 => exact .cons h1 (dpa_set hd n h2)
theorem dpa_one {K : PySem.W.Frag} {H : Hp} {v : V} {d : PD} (hd : Dq K H v d) : DqAll K H [v] [d] := .cons hd .nil
theorem dpa_rep {K : PySem.W.Frag} {H : Hp} {v : V} {d : PD} (hd : Dq K H v d) : ∀ n, DqAll K H (List.replicate n v) (List.replicate n d)
  | 0 => .nil
  | n + 1 => .cons hd (dpa_rep hd n)

theorem paired_imp {α β : Type} {R S : α → β → Prop} (h : ∀ a b, R a b → S a b) : ∀ {xs : List α} {ys : List β}, Paired R xs ys → Paired S xs ys
  | _, _, .nil => .nil
  | _, _, .cons r t => .cons (h _ _ r) (paired_imp h t)
/-! ### the store in the heap -/
def Lv (φ : List Addr) (M : MS) (b : Addr) : Prop := ∃ (i : Nat) (o : MO), φ[i]? = some b ∧ M[i]? = some o ∧ o.live = true
open Classical in
/-- what stands still: all that is known but the hidden and the live ones -/
noncomputable def Fz (Z : Addr → Prop) (φ : List Addr) (M : MS) (H : Hp) : Hp := fun b => if Z b ∨ Lv φ M b then none else H b
theorem fz_some {Z : Addr → Prop} {φ : List Addr} {M : MS} {H : Hp} {b : Addr} {o : HO} (h : Fz Z φ M H b = some o) : ¬ Z b ∧ ¬ Lv φ M b ∧ H b = some o := by
  unfold Fz at h
  split at h
  · cases h
  · rename_i hn
    exact ⟨fun z => hn (.inl z), fun z => hn (.inr z), h⟩
theorem fz_mk {Z : Addr → Prop} {φ : List Addr} {M : MS} {H : Hp} {b : Addr} (hz : ¬ Z b) (hl : ¬ Lv φ M b) : Fz Z φ M H b = H b := by
  unfold Fz
  rw [if_neg]
  rintro (h | h)
  · exact hz h
  · exact hl h
theorem fz_sub {Z : Addr → Prop} {φ : List Addr} {M : MS} {H : Hp} : Same (Fz Z φ M H) H := fun b o h => (fz_some h).2.2

/-- an entry and its data -/
abbrev PX1 (K : PySem.W.Frag) (F : Hp) (p : NestedKey × Addr × Value) (q : PD × PD) : Prop := nk q.1 = some p.1 ∧ p.1.depth ≤ 8 ∧ Dq K F (.ref p.2.1) q.1 ∧ ∃ v, RelV v p.2.2 ∧ Dq K F v q.2
abbrev PX (K : PySem.W.Frag) (F : Hp) : List (NestedKey × Addr × Value) → List (PD × PD) → Prop := Paired (PX1 K F)
def ObjR (K : PySem.W.Frag) (F H : Hp) (a : Addr) : MO → Prop
  | .lst t xs => ∃ vs, H a = some (.lst vs) ∧ DqAll (kk t K) F vs xs
  | .dT kvs => ∃ us, H a = some (.ext (DtO a us)) ∧ PX K F us kvs
  | .fzn t xs => ∃ vs, F a = some (.lst vs) ∧ DqAll (kk t K) F vs xs
  | .fdT kvs => ∃ us od, F a = some (.frz od (.ext (DtO a us))) ∧ PX K F us kvs
  | .dead => ∃ o, H a = some o
structure Mem (K : PySem.W.Frag) (Z : Addr → Prop) (H : Hp) (φ : List Addr) (M : MS) : Prop where
  len : φ.length = M.length
  nd : φ.Nodup
  zk : ∀ z, Z z → ∃ vs, H z = some (.lst vs)
  zl : ∀ z, Z z → ¬ Lv φ M z
  obj : ∀ (i : Nat) (a : Addr) (o : MO), φ[i]? = some a → M[i]? = some o → ObjR K (Fz Z φ M H) H a o
def RW (K : PySem.W.Frag) (F : Hp) (φ : List Addr) (v : V) : W → Prop
  | .d t x => Dq (kk t K) F v x
  | .loc n => ∃ a, φ[n]? = some a ∧ v = .ref a
  | .s xs => ∃ a vs, v = .ref a ∧ SqL K F a vs ∧ DqAll [] F vs xs
  | .fn x => ∃ a, PySem.W.nsIn K mainGlobals x = some (some (.ref a)) ∧ v = .ref a
inductive RWs (K : PySem.W.Frag) (F : Hp) (φ : List Addr) : List V → List W → Prop
  | nil : RWs K F φ [] []
  | cons {v : V} {vs : List V} {w : W} {ws : List W} : RW K F φ v w → RWs K F φ vs ws → RWs K F φ (v :: vs) (w :: ws)
structure Rep (K : PySem.W.Frag) (Z : Addr → Prop) (σ : L2.St) (H : Hp) (φ : List Addr) (Δ : Sl) (M : MS) : Prop where
  mem : Mem K Z H φ M
  len : Δ.length = σ.length
  sl : ∀ (i : Nat) (w : W), Δ[i]? = some (some w) → ∃ v, σ[i]? = some (some v) ∧ RW K (Fz Z φ M H) φ v w
structure Ext (Z : Addr → Prop) (φ : List Addr) (M : MS) (H : Hp) (φ' : List Addr) (M' : MS) (H' : Hp) : Prop where
  fz : Same (Fz Z φ M H) (Fz Z φ' M' H')
  z : ∀ b, Z b → H' b = H b
  pre : ∃ t, φ' = φ ++ t
  nz : ∀ a, a ∈ φ' → a ∈ φ ∨ ¬ Z a
section
variable {K : PySem.W.Frag} {Z : Addr → Prop} {σ : L2.St} {H H' H1 H2 : Hp} {φ φ' φ1 φ2 : List Addr} {Δ : Sl} {M M' M1 M2 : MS}
theorem same_refl (H : Hp) : Same H H := fun _ _ h => h
theorem same_tr {H H1 H2 : Hp} (a : Same H H1) (b : Same H1 H2) : Same H H2 := fun x o h => b x o (a x o h)
theorem Ext.refl : Ext Z φ M H φ M H := ⟨same_refl _, fun _ _ => rfl, ⟨[], by simp⟩, fun _ h => .inl h⟩
theorem Ext.trans (a : Ext Z φ M H φ1 M1 H1) (b : Ext Z φ1 M1 H1 φ2 M2 H2) : Ext Z φ M H φ2 M2 H2 := by
  obtain ⟨t, rfl⟩ := a.pre
  obtain ⟨u, rfl⟩ := b.pre
  exact ⟨same_tr a.fz b.fz, fun x z => (b.z x z).trans (a.z x z), ⟨t ++ u, by simp⟩, fun x h => (b.nz x h).elim (a.nz x) .inr⟩
theorem rw_mono {F F' : Hp} {v : V} {w : W} (e : Same F F') (p : ∃ t, φ' = φ ++ t) (h : RW K F φ v w) : RW K F' φ' v w := by
  cases w with
  | d t x => exact dp_mono e x h
  | loc n =>
    obtain ⟨a, ha, rfl⟩ := h
    obtain ⟨t, rfl⟩ := p
    have hn : n < φ.length := (List.getElem?_eq_some_iff.mp ha).1
    exact ⟨a, by rw [List.getElem?_append_left hn]; exact ha, rfl⟩
  | s xs =>
    obtain ⟨a, vs, rfl, h1, h2⟩ := h
    exact ⟨a, vs, rfl, sq_l e h1, dpa_mono e _ h2⟩
  | fn n => exact h
theorem RW.ext {v : V} {w : W} (h : RW K (Fz Z φ M H) φ v w) (e : Ext Z φ M H φ' M' H') : RW K (Fz Z φ' M' H') φ' v w := rw_mono e.fz e.pre h
theorem RWs.ext : ∀ {vs : List V} {ws : List W}, RWs K (Fz Z φ M H) φ vs ws → Ext Z φ M H φ' M' H' → RWs K (Fz Z φ' M' H') φ' vs ws
  | _, _, .nil, _ => .nil
  | _, _, .cons h t, e => .cons (h.ext e) (RWs.ext t e)
theorem RWs.length : ∀ {vs : List V} {ws : List W}, RWs K H φ vs ws → vs.length = ws.length
  | _, _, .nil => rfl
  | _, _, .cons _ t => by simp [RWs.length t]
theorem Rep.step (R : Rep K Z σ H φ Δ M) (e : Ext Z φ M H φ' M' H') (m : Mem K Z H' φ' M') : Rep K Z σ H' φ' Δ M' :=
  ⟨m, R.len, fun i w h => let ⟨v, a, b⟩ := R.sl i w h; ⟨v, a, b.ext e⟩⟩

/-! ### what is fresh -/
theorem Mem.known (m : Mem K Z H φ M) {i : Nat} {a : Addr} (h : φ[i]? = some a) : ∃ o, H a = some o := by
  have hi : i < M.length := by rw [← m.len]; exact (List.getElem?_eq_some_iff.mp h).1
  have hm : M[i]? = some M[i] := List.getElem?_eq_getElem hi
  have := m.obj i a _ h hm
  revert this
  cases M[i] with
  | lst t xs => rintro ⟨vs, h, _⟩; exact ⟨_, h⟩
  | dT kvs => rintro ⟨vs, h, _⟩; exact ⟨_, h⟩
  | fzn t xs => rintro ⟨vs, h, _⟩; exact ⟨_, fz_sub _ _ h⟩
  | fdT kvs => rintro ⟨us, od, h, _⟩; exact ⟨_, fz_sub _ _ h⟩
  | dead => exact id
theorem Mem.fresh (m : Mem K Z H φ M) {p : Addr} (h : H p = none) : p ∉ φ ∧ ¬ Z p ∧ ¬ Lv φ M p := by
  have h1 : p ∉ φ := fun hp => by
    obtain ⟨i, hi⟩ := List.getElem?_of_mem hp
    obtain ⟨o, ho⟩ := m.known hi
    rw [h] at ho
    cases ho
  refine ⟨h1, fun z => ?_, fun ⟨i, o, hi, _⟩ => h1 (List.mem_of_getElem? hi)⟩
  obtain ⟨o, ho⟩ := m.zk p z
  rw [h] at ho
  cases ho
theorem objr_mono {F F' : Hp} {a : Addr} {o : MO} (e : Same F F') (hh : o.live = true ∨ o = .dead → H' a = H a) (h : ObjR K F H a o) : ObjR K F' H' a o := by
  cases o with
  | lst t xs =>
    obtain ⟨vs, h1, h2⟩ := h
    exact ⟨vs, by rw [hh (.inl rfl)]; exact h1, dpa_mono e _ h2⟩
  | dT kvs =>
    obtain ⟨vs, h1, h2⟩ := h
    refine ⟨vs, by rw [hh (.inl rfl)]; exact h1, ?_⟩
    exact paired_imp (fun _ _ ⟨a, b, c, v, r, d⟩ => ⟨a, b, dp_mono e _ c, v, r, dp_mono e _ d⟩) h2
  | fzn t xs =>
    obtain ⟨vs, h1, h2⟩ := h
    exact ⟨vs, e _ _ h1, dpa_mono e _ h2⟩
  | fdT kvs =>
    obtain ⟨us, od, h1, h2⟩ := h
    refine ⟨us, od, e _ _ h1, ?_⟩
    exact paired_imp (fun _ _ ⟨a, b, c, v, r, d⟩ => ⟨a, b, dp_mono e _ c, v, r, dp_mono e _ d⟩) h2
  | dead =>
    obtain ⟨o, h⟩ := h
    exact ⟨o, by rw [hh (.inr rfl)]; exact h⟩
/-- a new thing that stands still -/
theorem Mem.new (m : Mem K Z H φ M) {p : Addr} (hp : H p = none) (o : HO) : Ext Z φ M H φ M (upd H p o) ∧ Mem K Z (upd H p o) φ M ∧ Fz Z φ M (upd H p o) p = some o := by
  obtain ⟨f1, f2, f3⟩ := m.fresh hp
  have hs : Same (Fz Z φ M H) (Fz Z φ M (upd H p o)) := fun b u h => by
    obtain ⟨a1, a2, a3⟩ := fz_some h
    rw [fz_mk a1 a2, upd_ne (ne_of_none a3 hp)]
    exact a3
  refine ⟨⟨hs, fun b z => upd_ne fun e => f2 (e ▸ z), ⟨[], by simp⟩, fun _ h => .inl h⟩, ⟨m.len, m.nd, fun z hz => ?_, m.zl, fun i a o' h1 h2 => ?_⟩, ?_⟩
  · obtain ⟨u, hu⟩ := m.zk z hz
    exact ⟨u, by rw [upd_ne (ne_of_none hu hp)]; exact hu⟩
  · exact objr_mono hs (fun _ => upd_ne fun e => f1 (e ▸ List.mem_of_getElem? h1)) (m.obj i a o' h1 h2)
  · rw [fz_mk f2 f3, upd_same]
end
end Ek

/-! Ek1: readings by plain functions -/
namespace Ek
open PySem PySem.Spec PyProof.Rows L2

def PostE (K : PySem.W.Frag) (Z : Addr → Prop) (φ : List Addr) (M : MS) (H : Hp) (w : W) (M' : MS) (Q : VK) : Prop :=
  ∀ v φ' H', Ext Z φ M H φ' M' H' → Mem K Z H' φ' M' → RW K (Fz Z φ' M' H') φ' v w → Q v H'
def PostA (K : PySem.W.Frag) (Z : Addr → Prop) (φ : List Addr) (M : MS) (H : Hp) (ws : List W) (M' : MS) (Q : List V → Hp → Prop) : Prop :=
  ∀ vs φ' H', Ext Z φ M H φ' M' H' → Mem K Z H' φ' M' → RWs K (Fz Z φ' M' H') φ' vs ws → Q vs H'
def PostT (K : PySem.W.Frag) (Z : Addr → Prop) (φ : List Addr) (M : MS) (H : Hp) (b : Bool) (M' : MS) (Q : Bool → Hp → Prop) : Prop :=
  ∀ φ' H', Ext Z φ M H φ' M' H' → Mem K Z H' φ' M' → Q b H'
def tOf (K : PySem.W.Frag) (m : Sm W) : TE := fun σ H Q => ∃ Z φ Δ M w M', Rep K Z σ H φ Δ M ∧ m Δ M = some (w, M') ∧ PostE K Z φ M H w M' Q
def tOfT (K : PySem.W.Frag) (m : Sm Bool) : TT := fun σ H Q => ∃ Z φ Δ M b M', Rep K Z σ H φ Δ M ∧ m Δ M = some (b, M') ∧ PostT K Z φ M H b M' Q
def tOfA (K : PySem.W.Frag) (m : Sm (List W)) : TA := fun σ H Q => ∃ Z φ Δ M ws M', Rep K Z σ H φ Δ M ∧ m Δ M = some (ws, M') ∧ PostA K Z φ M H ws M' Q

section
variable {X : Cx} {a b e : Expr} {es : List Expr} {ta tb : TE}
theorem pe_imp {t t' : TE} (h : PE X e t) (i : ∀ σ H Q, t' σ H Q → t σ H Q) : PE X e t' := ⟨fun pins s σ H Q I q => h.run pins s σ H Q I (i σ H Q q)⟩
theorem pt_imp {t t' : TT} (h : PT X e t) (i : ∀ σ H Q, t' σ H Q → t σ H Q) : PT X e t' := ⟨fun pins s σ H Q I q => h.run pins s σ H Q I (i σ H Q q)⟩
theorem pw_imp {t t' : TT} (h : PW X e t) (i : ∀ σ H Q, t' σ H Q → t σ H Q) : PW X e t' := ⟨fun whole pins s σ H Q I q => h.run whole pins s σ H Q I (i σ H Q q)⟩
theorem pa_imp {t t' : TA} (h : PA X es t) (i : ∀ σ H Q, t' σ H Q → t σ H Q) : PA X es t' := ⟨fun pos pins s σ H Q I q => h.run pos pins s σ H Q I (i σ H Q q)⟩
theorem pe_no {m : Sm W} (h : ∀ Δ M, m Δ M = none) : PE X e (tOf X.K m) := ⟨fun pins s σ H Q I ⟨_, _, Δ, M, _, _, _, q, _⟩ => by rw [h] at q; cases q⟩
theorem pt_no {m : Sm Bool} (h : ∀ Δ M, m Δ M = none) : PT X e (tOfT X.K m) := ⟨fun pins s σ H Q I ⟨_, _, Δ, M, _, _, _, q, _⟩ => by rw [h] at q; cases q⟩
end

/-! ### the data side -/
def mNo {α : Type} : Sm α := fun _ _ => none
def mVar (i : Nat) : Sm W := fun Δ M => match Δ[i]? with
  | some (some w) => some (w, M)
  | _ => none
def mD (t : Bool) (x : PD) : Sm W := fun _ M => some (.d t x, M)
def mBin (g : W → W → MS → Option (W × MS)) (a b : Sm W) : Sm W := fun Δ M => match a Δ M with
  | some (x, M1) => (match b Δ M1 with
    | some (y, M2) => g x y M2
    | none => none)
  | none => none
def mUn (g : W → MS → Option (W × MS)) (a : Sm W) : Sm W := fun Δ M => match a Δ M with
  | some (x, M1) => g x M1
  | none => none
def mArgs : List (Sm W) → Sm (List W)
  | [] => fun _ M => some ([], M)
  | a :: r => fun Δ M => match a Δ M with
    | some (x, M1) => (match mArgs r Δ M1 with
      | some (xs, M2) => some (x :: xs, M2)
      | none => none)
    | none => none
def mFn (f : List W → MS → Option (W × MS)) (a : Sm (List W)) : Sm W := fun Δ M => match a Δ M with
  | some (ws, M1) => f ws M1
  | none => none
def mIf (c : Sm Bool) (a b : Sm W) : Sm W := fun Δ M => match c Δ M with
  | some (k, M1) => if k = true then a Δ M1 else b Δ M1
  | none => none
def tB1 (a : Sm W) : Sm Bool := fun Δ M => match a Δ M with
  | some (.d _ (.bool k), M1) => some (k, M1)
  | _ => none
def tAnd' (a b : Sm Bool) : Sm Bool := fun Δ M => match a Δ M with
  | some (k, M1) => if k = true then b Δ M1 else some (false, M1)
  | none => none
def tOr' (a b : Sm Bool) : Sm Bool := fun Δ M => match a Δ M with
  | some (k, M1) => if k = true then some (true, M1) else b Δ M1
  | none => none
def tNot' (a : Sm Bool) : Sm Bool := fun Δ M => match a Δ M with
  | some (k, M1) => some (!k, M1)
  | none => none
/-- and, or as values: the left ones bools -/
def mAnd (a b : Sm W) : Sm W := fun Δ M => match a Δ M with
  | some (.d _ (.bool k), M1) => if k = true then b Δ M1 else some (.d true (.bool false), M1)
  | _ => none
def mOr (a b : Sm W) : Sm W := fun Δ M => match a Δ M with
  | some (.d _ (.bool k), M1) => if k = true then some (.d true (.bool true), M1) else b Δ M1
  | _ => none

section
variable {X : Cx} {a b c e : Expr} {es : List Expr} {ta tb : TE} {pos : Pos}
/-! ### names, constants -/
theorem pe_mvar {i : Nat} {x : Str} (hN : X.N[i]? = some x) (hv : Vis X.env.scope x) (hd : (x == ("__debug__" : Str)) = false) (hcd : (x == ("__classdict__" : Str)) = false) : PE X (.Name x pos) (tOf X.K (mVar i)) := by
  refine pe_imp (pe_var hN hv hd hcd) fun σ H Q ⟨Z, φ, Δ, M, w, M', R, h, q⟩ => ?_
  unfold mVar at h
  split at h
  · rename_i w' hw
    cases h
    obtain ⟨v, h1, h2⟩ := R.sl i _ hw
    exact ⟨v, h1, q v φ H Ext.refl R.mem h2⟩
  · cases h
theorem pe_md {t : Bool} {x : PD} {v : V} (h : PE X e (tC v)) (hd : ∀ H, Dq (kk t X.K) H v x) : PE X e (tOf X.K (mD t x)) := by
  refine pe_imp h fun σ H Q ⟨Z, φ, Δ, M, w, M', R, h, q⟩ => ?_
  cases h
  exact q v φ H Ext.refl R.mem (hd _)

/-! ### operators -/
def OpD (K : PySem.W.Frag) (r : R2) (g : W → W → MS → Option (W × MS)) : Prop :=
  ∀ (Z : Addr → Prop) (φ : List Addr) (M : MS) (H : Hp) (x y : V) (wx wy w : W) (M' : MS) (Q : VK), Mem K Z H φ M → RW K (Fz Z φ M H) φ x wx → RW K (Fz Z φ M H) φ y wy → g wx wy M = some (w, M') → PostE K Z φ M H w M' Q → r x y H Q
def UnD (K : PySem.W.Frag) (r : V → Hp → VK → Prop) (g : W → MS → Option (W × MS)) : Prop :=
  ∀ (Z : Addr → Prop) (φ : List Addr) (M : MS) (H : Hp) (x : V) (wx w : W) (M' : MS) (Q : VK), Mem K Z H φ M → RW K (Fz Z φ M H) φ x wx → g wx M = some (w, M') → PostE K Z φ M H w M' Q → r x H Q
def FnD (K : PySem.W.Frag) (r : List V → Hp → VK → Prop) (g : List W → MS → Option (W × MS)) : Prop :=
  ∀ (Z : Addr → Prop) (φ : List Addr) (M : MS) (H : Hp) (xs : List V) (ws : List W) (w : W) (M' : MS) (Q : VK), Mem K Z H φ M → RWs K (Fz Z φ M H) φ xs ws → g ws M = some (w, M') → PostE K Z φ M H w M' Q → r xs H Q
theorem PostE.step {K : PySem.W.Frag} {Z : Addr → Prop} {φ φ1 : List Addr} {M M1 M' : MS} {H H1 : Hp} {w : W} {Q : VK} (q : PostE K Z φ M H w M' Q) (e : Ext Z φ M H φ1 M1 H1) : PostE K Z φ1 M1 H1 w M' Q :=
  fun v φ' H' e' m' r' => q v φ' H' (e.trans e') m' r'
theorem PostT.step {K : PySem.W.Frag} {Z : Addr → Prop} {φ φ1 : List Addr} {M M1 M' : MS} {H H1 : Hp} {w : Bool} {Q : Bool → Hp → Prop} (q : PostT K Z φ M H w M' Q) (e : Ext Z φ M H φ1 M1 H1) : PostT K Z φ1 M1 H1 w M' Q :=
  fun φ' H' e' m' => q φ' H' (e.trans e') m'
theorem tOp_of {r : R2} {g : W → W → MS → Option (W × MS)} {ma mb : Sm W} {K : PySem.W.Frag} (hr : OpD K r g) : ∀ σ H Q, tOf K (mBin g ma mb) σ H Q → tOp r (tOf K ma) (tOf K mb) σ H Q := by
  intro σ H Q ⟨Z, φ, Δ, M, w, M', R, h, q⟩
  unfold mBin at h
  split at h
  · rename_i x M1 hx
    split at h
    · rename_i y M2 hy
      refine ⟨Z, φ, Δ, M, x, M1, R, hx, fun v φ1 H1 e1 m1 r1 => ?_⟩
      refine ⟨Z, φ1, Δ, M1, y, M2, R.step e1 m1, hy, fun u φ2 H2 e2 m2 r2 => ?_⟩
      exact hr Z φ2 M2 H2 v u x y w M' Q m2 (r1.ext e2) r2 h (q.step (e1.trans e2))
    · cases h
  · cases h
theorem pe_mbin {op : Operator} {r : R2} {g : W → W → MS → Option (W × MS)} {ma mb : Sm W} (ho : OpR X (binaryOp op) r) (hd : OpD X.K r g) (ha : PE X a (tOf X.K ma)) (hb : PE X b (tOf X.K mb)) :
    PE X (.BinOp a op b pos) (tOf X.K (mBin g ma mb)) := pe_imp (pe_op ho ha hb) (tOp_of hd)
theorem pe_mcmp {op : CmpOp} {r : R2} {g : W → W → MS → Option (W × MS)} {ma mb : Sm W} (ho : OpR X (compareOp op) r) (hd : OpD X.K r g) (ha : PE X a (tOf X.K ma)) (hb : PE X b (tOf X.K mb)) (hm : behindInMarks op b = false) :
    PE X (.Compare a [op] [b] pos) (tOf X.K (mBin g ma mb)) := pe_imp (pe_cmpR ho ha hb hm) (tOp_of hd)
theorem pe_mix {r : R2} {g : W → W → MS → Option (W × MS)} {ma mb : Sm W} (ho : IxR X r) (hd : OpD X.K r g) (ha : PE X a (tOf X.K ma)) (hb : PE X b (tOf X.K mb)) (hs : PlainIx b) :
    PE X (.Subscript a b pos) (tOf X.K (mBin g ma mb)) := pe_imp (pe_ix ho ha hb hs) (tOp_of hd)
theorem pe_mun {op : UnaryOp} {r : V → Hp → VK → Prop} {g : W → MS → Option (W × MS)} {ma : Sm W} (ho : UnR X (unaryOp op) r) (hd : UnD X.K r g) (ha : PE X a (tOf X.K ma)) : PE X (.UnaryOp op a pos) (tOf X.K (mUn g ma)) := by
  refine pe_imp (pe_un ho ha) fun σ H Q ⟨Z, φ, Δ, M, w, M', R, h, q⟩ => ?_
  unfold mUn at h
  split at h
  · rename_i x M1 hx
    exact ⟨Z, φ, Δ, M, x, M1, R, hx, fun v φ1 H1 e1 m1 r1 => hd Z φ1 M1 H1 v x w M' Q m1 r1 h (q.step e1)⟩
  · cases h

/-! ### tests -/
theorem pt_mval {m : Sm W} (h : PE X e (tOf X.K m)) (he : ∀ whole, isTrue e X.env whole = (do let v ← whole; standAt e.pos; holding [v] (truthy v))) : PT X e (tOfT X.K (tB1 m)) := by
  refine pt_imp (pt_val h he) fun σ H Q ⟨Z, φ, Δ, M, b, M', R, h, q⟩ => ?_
  unfold tB1 at h
  split at h
  · rename_i t k M1 hx
    cases h
    refine ⟨Z, φ, Δ, M, _, M', R, hx, fun v φ1 H1 e1 m1 r1 => ?_⟩
    cases r1
    exact ⟨b, rfl, q φ1 H1 e1 m1⟩
  · cases h
theorem tAnd_of {ma mb : Sm Bool} {K : PySem.W.Frag} : ∀ σ H Q, tOfT K (tAnd' ma mb) σ H Q → tAnd (tOfT K ma) (tOfT K mb) σ H Q := by
  intro σ H Q ⟨Z, φ, Δ, M, b, M', R, h, q⟩
  unfold tAnd' at h
  split at h
  · rename_i k M1 hx
    refine ⟨Z, φ, Δ, M, k, M1, R, hx, fun φ1 H1 e1 m1 => ?_⟩
    cases k with
    | true =>
      simp only [if_true] at h ⊢
      exact ⟨Z, φ1, Δ, M1, b, M', R.step e1 m1, h, q.step e1⟩
    | false =>
      simp only [Bool.false_eq_true, if_false] at h ⊢
      cases h
      exact q φ1 H1 e1 m1
  · cases h
theorem tOr_of {ma mb : Sm Bool} {K : PySem.W.Frag} : ∀ σ H Q, tOfT K (tOr' ma mb) σ H Q → tOr (tOfT K ma) (tOfT K mb) σ H Q := by
  intro σ H Q ⟨Z, φ, Δ, M, b, M', R, h, q⟩
  unfold tOr' at h
  split at h
  · rename_i k M1 hx
    refine ⟨Z, φ, Δ, M, k, M1, R, hx, fun φ1 H1 e1 m1 => ?_⟩
    cases k with
    | true =>
      simp only [if_true] at h ⊢
      cases h
      exact q φ1 H1 e1 m1
    | false =>
      simp only [Bool.false_eq_true, if_false] at h ⊢
      exact ⟨Z, φ1, Δ, M1, b, M', R.step e1 m1, h, q.step e1⟩
  · cases h
theorem pt_mnot {m : Sm Bool} (h : PT X a (tOfT X.K m)) : PT X (.UnaryOp .Not a pos) (tOfT X.K (tNot' m)) := by
  refine pt_imp (pt_not h) fun σ H Q ⟨Z, φ, Δ, M, b, M', R, h, q⟩ => ?_
  unfold tNot' at h
  split at h
  · rename_i k M1 hx
    cases h
    exact ⟨Z, φ, Δ, M, k, M', R, hx, fun φ1 H1 e1 m1 => q φ1 H1 e1 m1⟩
  · cases h
theorem pe_mand {op} {rest : List Expr} {ma mb : Sm W} (ha : PE X a (tOf X.K ma)) (hb : PE X (.BoolOp .And (b :: rest) pos) (tOf X.K mb)) (ho : op = .And) : PE X (.BoolOp op (a :: b :: rest) pos) (tOf X.K (mAnd ma mb)) := by
  subst ho
  refine pe_imp (pe_and ha hb) fun σ H Q ⟨Z, φ, Δ, M, w, M', R, h, q⟩ => ?_
  unfold mAnd at h
  split at h
  · rename_i t k M1 hx
    refine ⟨Z, φ, Δ, M, _, M1, R, hx, fun v φ1 H1 e1 m1 r1 => ?_⟩
    cases r1
    refine ⟨k, rfl, ?_⟩
    cases k with
    | true =>
      simp only [if_true] at h ⊢
      exact ⟨Z, φ1, Δ, M1, w, M', R.step e1 m1, h, q.step e1⟩
    | false =>
      simp only [Bool.false_eq_true, if_false] at h ⊢
      cases h
      exact q _ φ1 H1 e1 m1 (.bl _)
  · cases h
theorem pe_mor {op} {rest : List Expr} {ma mb : Sm W} (ha : PE X a (tOf X.K ma)) (hb : PE X (.BoolOp .Or (b :: rest) pos) (tOf X.K mb)) (ho : op = .Or) : PE X (.BoolOp op (a :: b :: rest) pos) (tOf X.K (mOr ma mb)) := by
  subst ho
  refine pe_imp (pe_or ha hb) fun σ H Q ⟨Z, φ, Δ, M, w, M', R, h, q⟩ => ?_
  unfold mOr at h
  split at h
  · rename_i t k M1 hx
    refine ⟨Z, φ, Δ, M, _, M1, R, hx, fun v φ1 H1 e1 m1 r1 => ?_⟩
    cases r1
    refine ⟨k, rfl, ?_⟩
    cases k with
    | true =>
      simp only [if_true] at h ⊢
      cases h
      exact q _ φ1 H1 e1 m1 (.bl _)
    | false =>
      simp only [Bool.false_eq_true, if_false] at h ⊢
      exact ⟨Z, φ1, Δ, M1, w, M', R.step e1 m1, h, q.step e1⟩
  · cases h
/-- not as a value -/
def gNot : W → MS → Option (W × MS)
  | .d _ (.bool k), M => some (.d true (.bool (!k)), M)
  | _, _ => none
theorem pe_mnot {m : Sm W} (h : PE X a (tOf X.K m)) : PE X (.UnaryOp .Not a pos) (tOf X.K (mUn gNot m)) := by
  refine pe_imp (pe_not h) fun σ H Q ⟨Z, φ, Δ, M, w, M', R, h, q⟩ => ?_
  unfold mUn at h
  split at h
  · rename_i x M1 hx
    refine ⟨Z, φ, Δ, M, x, M1, R, hx, fun v φ1 H1 e1 m1 r1 => ?_⟩
    unfold gNot at h
    split at h
    · cases h
      cases r1
      exact ⟨_, rfl, q _ φ1 H1 e1 m1 (.bl _)⟩
    · cases h
  · cases h
theorem pe_mif {mc : Sm Bool} {ma mb : Sm W} (hc : PT X c (tOfT X.K mc)) (ha : PE X a (tOf X.K ma)) (hb : PE X b (tOf X.K mb)) : PE X (.IfExp c a b pos) (tOf X.K (mIf mc ma mb)) := by
  refine pe_imp (pe_ifExp hc ha hb) fun σ H Q ⟨Z, φ, Δ, M, w, M', R, h, q⟩ => ?_
  unfold mIf at h
  split at h
  · rename_i k M1 hx
    refine ⟨Z, φ, Δ, M, k, M1, R, hx, fun φ1 H1 e1 m1 => ?_⟩
    cases k with
    | true =>
      simp only [if_true] at h ⊢
      exact ⟨Z, φ1, Δ, M1, w, M', R.step e1 m1, h, q.step e1⟩
    | false =>
      simp only [Bool.false_eq_true, if_false] at h ⊢
      exact ⟨Z, φ1, Δ, M1, w, M', R.step e1 m1, h, q.step e1⟩
  · cases h

/-! ### argument lists -/
theorem pa_mnil : PA X [] (tOfA X.K (mArgs [])) := by
  refine pa_imp pa_nil fun σ H Q ⟨Z, φ, Δ, M, w, M', R, h, q⟩ => ?_
  cases h
  exact q [] φ H Ext.refl R.mem .nil
theorem pa_mcons {m : Sm W} {ms : List (Sm W)} (ha : PE X e (tOf X.K m)) (hr : PA X es (tOfA X.K (mArgs ms))) (hs : starEach (e :: es) X.env = (false, eval e X.env) :: starEach es X.env) : PA X (e :: es) (tOfA X.K (mArgs (m :: ms))) := by
  refine pa_imp (pa_cons ha hr hs) fun σ H Q ⟨Z, φ, Δ, M, w, M', R, h, q⟩ => ?_
  unfold mArgs at h
  split at h
  · rename_i x M1 hx
    split at h
    · rename_i xs M2 hxs
      cases h
      refine ⟨Z, φ, Δ, M, x, M1, R, hx, fun v φ1 H1 e1 m1 r1 => ?_⟩
      exact ⟨Z, φ1, Δ, M1, xs, M', R.step e1 m1, hxs, fun vs φ2 H2 e2 m2 r2 => q _ φ2 H2 (e1.trans e2) m2 (.cons (r1.ext e2) r2)⟩
    · cases h
  · cases h
end
end Ek

/-! Ek2: the store's changes; displays; calls; subscripts -/
namespace Ek
open PySem PySem.Spec PyProof.Rows L2
section
variable {K : PySem.W.Frag} {Z : Addr → Prop} {σ : L2.St} {H H' H1 H2 : Hp} {φ φ' φ1 φ2 : List Addr} {Δ : Sl} {M M' M1 M2 : MS} {n : Nat} {a : Addr} {o o' : MO}
theorem nd_ix (hn : φ.Nodup) {i j : Nat} (h1 : φ[i]? = some a) (h2 : φ[j]? = some a) : i = j := by
  have l1 := (List.getElem?_eq_some_iff.mp h1)
  have l2 := (List.getElem?_eq_some_iff.mp h2)
  obtain ⟨p1, e1⟩ := l1
  obtain ⟨p2, e2⟩ := l2
  exact (List.getElem_inj hn).mp (e1.trans e2.symm)
theorem Mem.at (m : Mem K Z H φ M) (h : M[n]? = some o) : ∃ a, φ[n]? = some a := by
  have : n < φ.length := by rw [m.len]; exact (List.getElem?_eq_some_iff.mp h).1
  exact ⟨_, List.getElem?_eq_getElem this⟩
theorem lv_set (m : Mem K Z H φ M) (hn : φ[n]? = some a) {b : Addr} (hb : b ≠ a) : Lv φ (M.set n o') b ↔ Lv φ M b := by
  constructor
  · rintro ⟨i, u, h1, h2, h3⟩
    have hi : n ≠ i := fun e => hb (by subst e; rw [hn] at h1; exact (Option.some.inj h1).symm)
    rw [List.getElem?_set_ne hi] at h2
    exact ⟨i, u, h1, h2, h3⟩
  · rintro ⟨i, u, h1, h2, h3⟩
    have hi : n ≠ i := fun e => hb (by subst e; rw [hn] at h1; exact (Option.some.inj h1).symm)
    exact ⟨i, u, h1, by rw [List.getElem?_set_ne hi]; exact h2, h3⟩
/-- a live thing is given another content -/
theorem Mem.put (m : Mem K Z H φ M) (hn : φ[n]? = some a) (hm : M[n]? = some o) (hl : o.live = true) (hl' : o'.live = true) {u : HO} (ho : ObjR K (Fz Z φ M H) (upd H a u) a o') :
    Ext Z φ M H φ (M.set n o') (upd H a u) ∧ Mem K Z (upd H a u) φ (M.set n o') ∧ Fz Z φ (M.set n o') (upd H a u) = Fz Z φ M H := by
  have hlt : n < M.length := (List.getElem?_eq_some_iff.mp hm).1
  have la : Lv φ M a := ⟨n, o, hn, hm, hl⟩
  have la' : Lv φ (M.set n o') a := ⟨n, o', hn, by rw [List.getElem?_set_self hlt], hl'⟩
  have hf : Fz Z φ (M.set n o') (upd H a u) = Fz Z φ M H := by
    funext b
    by_cases hb : b = a
    · subst hb
      unfold Fz
      rw [if_pos (.inr la'), if_pos (.inr la)]
    · unfold Fz
      rw [show Lv φ (M.set n o') b = Lv φ M b from propext (lv_set m hn hb), upd_ne hb]
  have nz : ¬ Z a := fun z => m.zl a z la
  refine ⟨⟨by rw [hf]; exact same_refl _, fun b z => upd_ne fun e => nz (e ▸ z), ⟨[], by simp⟩, fun _ h => .inl h⟩, ⟨by simp [m.len], m.nd, fun z hz => ?_, fun z hz => ?_, fun i b x h1 h2 => ?_⟩, hf⟩
  · obtain ⟨y, hy⟩ := m.zk z hz
    have hne : z ≠ a := fun e => nz (e ▸ hz)
    exact ⟨y, (upd_ne hne).trans hy⟩
  · rw [lv_set m hn fun e => nz (e ▸ hz)]
    exact m.zl z hz
  · rw [hf]
    by_cases hi : n = i
    · subst hi
      rw [hn] at h1
      cases h1
      rw [List.getElem?_set_self hlt] at h2
      cases h2
      exact ho
    · rw [List.getElem?_set_ne hi] at h2
      have hb : b ≠ a := fun e => hi (nd_ix m.nd hn (e ▸ h1))
      exact objr_mono (same_refl _) (fun _ => upd_ne hb) (m.obj i b x h1 h2)
/-- a live list stands still from here on -/
theorem Mem.freeze (m : Mem K Z H φ M) {t : Bool} {xs : List PD} (hm : M[n]? = some (.lst t xs)) (hn : φ[n]? = some a) :
    Ext Z φ M H φ (M.set n (.fzn t xs)) H ∧ Mem K Z H φ (M.set n (.fzn t xs)) ∧ Dq (kk t K) (Fz Z φ (M.set n (.fzn t xs)) H) (.ref a) (.list xs) := by
  have hlt : n < M.length := (List.getElem?_eq_some_iff.mp hm).1
  have la : Lv φ M a := ⟨n, _, hn, hm, rfl⟩
  have nz : ¬ Z a := fun z => m.zl a z la
  have la' : ¬ Lv φ (M.set n (.fzn t xs)) a := by
    rintro ⟨i, u, h1, h2, h3⟩
    have hi : n = i := nd_ix m.nd hn h1
    subst hi
    rw [List.getElem?_set_self hlt] at h2
    cases h2
    cases h3
  have hs : Same (Fz Z φ M H) (Fz Z φ (M.set n (.fzn t xs)) H) := fun b u h => by
    obtain ⟨z1, z2, z3⟩ := fz_some h
    have hb : b ≠ a := fun e => z2 (e ▸ la)
    rw [fz_mk z1 (fun z => z2 ((lv_set m hn hb).mp z))]
    exact z3
  obtain ⟨vs, hv, hd⟩ := m.obj n a _ hn hm
  have hF : Fz Z φ (M.set n (.fzn t xs)) H a = some (.lst vs) := by rw [fz_mk nz la']; exact hv
  have hd' := dpa_mono hs _ hd
  refine ⟨⟨hs, fun _ _ => rfl, ⟨[], by simp⟩, fun _ h => .inl h⟩, ⟨by simp [m.len], m.nd, m.zk, fun z hz => ?_, fun i b x h1 h2 => ?_⟩, .lst hF hd'⟩
  · by_cases hb : z = a
    · subst hb; exact la'
    · rw [lv_set m hn hb]; exact m.zl z hz
  · by_cases hi : n = i
    · subst hi
      rw [hn] at h1
      cases h1
      rw [List.getElem?_set_self hlt] at h2
      cases h2
      exact ⟨vs, hF, hd'⟩
    · rw [List.getElem?_set_ne hi] at h2
      exact objr_mono hs (fun _ => rfl) (m.obj i b x h1 h2)
/-- a new live thing -/
theorem Mem.born (m : Mem K Z H φ M) {p : Addr} (hp : H p = none) {u : HO} (hl : o.live = true) (ho : ObjR K (Fz Z φ M H) (upd H p u) p o) :
    Ext Z φ M H (φ ++ [p]) (M ++ [o]) (upd H p u) ∧ Mem K Z (upd H p u) (φ ++ [p]) (M ++ [o]) ∧ Fz Z (φ ++ [p]) (M ++ [o]) (upd H p u) = Fz Z φ M H := by
  obtain ⟨f1, f2, f3⟩ := m.fresh hp
  have lp : Lv (φ ++ [p]) (M ++ [o]) p := ⟨φ.length, o, by simp, by rw [m.len]; simp, hl⟩
  have lo : ∀ b, b ≠ p → (Lv (φ ++ [p]) (M ++ [o]) b ↔ Lv φ M b) := fun b hb => by
    constructor
    · rintro ⟨i, x, h1, h2, h3⟩
      by_cases hi : i < φ.length
      · rw [List.getElem?_append_left hi] at h1
        rw [List.getElem?_append_left (by rw [← m.len]; exact hi)] at h2
        exact ⟨i, x, h1, h2, h3⟩
      · exfalso
        rw [List.getElem?_append_right (Nat.le_of_not_lt hi)] at h1
        cases hk : i - φ.length with
        | zero => rw [hk] at h1; simp at h1; exact hb h1.symm
        | succ k => rw [hk] at h1; simp at h1
    · rintro ⟨i, x, h1, h2, h3⟩
      have hi : i < φ.length := (List.getElem?_eq_some_iff.mp h1).1
      exact ⟨i, x, by rw [List.getElem?_append_left hi]; exact h1, by rw [List.getElem?_append_left (by rw [← m.len]; exact hi)]; exact h2, h3⟩
  have hf : Fz Z (φ ++ [p]) (M ++ [o]) (upd H p u) = Fz Z φ M H := by
    funext b
    by_cases hb : b = p
    · subst hb
      unfold Fz
      rw [if_pos (.inr lp), if_neg (by rintro (z | z); exact f2 z; exact f3 z)]
      exact hp.symm
    · unfold Fz
      rw [show Lv (φ ++ [p]) (M ++ [o]) b = Lv φ M b from propext (lo b hb), upd_ne hb]
  refine ⟨⟨by rw [hf]; exact same_refl _, fun b z => upd_ne fun e => f2 (e ▸ z), ⟨[p], rfl⟩, fun x h => (List.mem_append.mp h).elim .inl fun h => .inr (by rw [List.mem_singleton.mp h]; exact f2)⟩, ⟨by simp [m.len], ?_, fun z hz => ?_, fun z hz => ?_, fun i b x h1 h2 => ?_⟩, hf⟩
  · rw [List.nodup_append]
    refine ⟨m.nd, by simp, fun x hx y hy e => ?_⟩
    rw [List.mem_singleton] at hy
    subst hy
    subst e
    exact f1 hx
  · obtain ⟨y, hy⟩ := m.zk z hz
    have hne : z ≠ p := fun e => f2 (e ▸ hz)
    exact ⟨y, (upd_ne hne).trans hy⟩
  · rw [lo z fun e => f2 (e ▸ hz)]
    exact m.zl z hz
  · rw [hf]
    by_cases hi : i < φ.length
    · rw [List.getElem?_append_left hi] at h1
      rw [List.getElem?_append_left (by rw [← m.len]; exact hi)] at h2
      have hb : b ≠ p := fun e => f1 (e ▸ List.mem_of_getElem? h1)
      exact objr_mono (same_refl _) (fun _ => upd_ne hb) (m.obj i b x h1 h2)
    · rw [List.getElem?_append_right (Nat.le_of_not_lt hi)] at h1
      rw [List.getElem?_append_right (by rw [← m.len]; exact Nat.le_of_not_lt hi), ← m.len] at h2
      cases hk : i - φ.length with
      | zero =>
        rw [hk] at h1 h2
        simp at h1 h2
        subst h1
        subst h2
        exact ho
      | succ k => rw [hk] at h1; simp at h1
/-- the last thing of the store, a list, is let go: it stands still, without a place -/
theorem Mem.unlast {p : Addr} {t : Bool} {xs : List PD} (m : Mem K Z H (φ ++ [p]) (M ++ [.lst t xs])) :
    Same (Fz Z (φ ++ [p]) (M ++ [.lst t xs]) H) (Fz Z φ M H) ∧ Mem K Z H φ M ∧ Dq (kk t K) (Fz Z φ M H) (.ref p) (.list xs) := by
  have hlen : φ.length = M.length := by have := m.len; simp at this; exact this
  have hmM : (M ++ [MO.lst t xs])[φ.length]? = some (.lst t xs) := by rw [hlen]; simp
  have hmφ : (φ ++ [p])[φ.length]? = some p := by simp
  have np : p ∉ φ := by
    have := m.nd
    rw [List.nodup_append] at this
    exact fun h => this.2.2 p h p (by simp) rfl
  have lup : ∀ b, Lv φ M b → Lv (φ ++ [p]) (M ++ [.lst t xs]) b := fun b ⟨i, x, h1, h2, h3⟩ => by
    have hi : i < φ.length := (List.getElem?_eq_some_iff.mp h1).1
    exact ⟨i, x, by rw [List.getElem?_append_left hi]; exact h1, by rw [List.getElem?_append_left (by rw [← hlen]; exact hi)]; exact h2, h3⟩
  have hs : Same (Fz Z (φ ++ [p]) (M ++ [.lst t xs]) H) (Fz Z φ M H) := fun b u h => by
    obtain ⟨z1, z2, z3⟩ := fz_some h
    rw [fz_mk z1 fun z => z2 (lup b z)]
    exact z3
  have nlp : ¬ Lv φ M p := fun ⟨i, x, h1, _⟩ => np (List.mem_of_getElem? h1)
  have lp : Lv (φ ++ [p]) (M ++ [.lst t xs]) p := ⟨φ.length, _, hmφ, hmM, rfl⟩
  have nz : ¬ Z p := fun z => m.zl p z lp
  obtain ⟨vs, hv, hd⟩ := m.obj _ _ _ hmφ hmM
  refine ⟨hs, ⟨hlen, ?_, m.zk, fun z hz l => m.zl z hz (lup z l), fun i b x h1 h2 => ?_⟩, .lst (by rw [fz_mk nz nlp]; exact hv) (dpa_mono hs _ hd)⟩
  · have := m.nd
    rw [List.nodup_append] at this
    exact this.1
  · have hi : i < φ.length := (List.getElem?_eq_some_iff.mp h1).1
    exact objr_mono hs (fun _ => rfl) (m.obj i b x (by rw [List.getElem?_append_left hi]; exact h1) (by rw [List.getElem?_append_left (by rw [← hlen]; exact hi)]; exact h2))

/-! ### values that are let go -/
def fz1 : W → MS → Option (Bool × PD × MS)
  | .d t x, M => some (t, x, M)
  | .loc n, M => match M[n]? with
    | some (.lst t xs) => some (t, .list xs, M.set n (.fzn t xs))
    | some (.fzn t xs) => some (t, .list xs, M)
    | _ => none
  | .s _, _ => none
  | .fn _, _ => none
def fzAll : List W → MS → Option (Bool × List PD × MS)
  | [], M => some (true, [], M)
  | w :: ws, M => match fz1 w M with
    | some (t, x, M1) => (match fzAll ws M1 with
      | some (s, xs, M2) => some (t && s, x :: xs, M2)
      | none => none)
    | none => none
theorem fz1_ok {v : V} {w : W} {t : Bool} {x : PD} (m : Mem K Z H φ M) (r : RW K (Fz Z φ M H) φ v w) (h : fz1 w M = some (t, x, M')) : Ext Z φ M H φ M' H ∧ Mem K Z H φ M' ∧ Dq (kk t K) (Fz Z φ M' H) v x := by
  cases w with
  | d s y =>
    cases h
    exact ⟨Ext.refl, m, r⟩
  | loc n =>
    obtain ⟨a, ha, rfl⟩ := r
    simp only [fz1] at h
    split at h
    · rename_i s xs hx
      cases h
      exact m.freeze hx ha
    · rename_i s xs hx
      cases h
      obtain ⟨vs, hv, hd⟩ := m.obj n a _ ha hx
      exact ⟨Ext.refl, m, .lst hv hd⟩
    · cases h
  | s ys => cases h
  | fn n => cases h
theorem fzAll_ok : ∀ {vs : List V} {ws : List W} {t : Bool} {xs : List PD} {M M' : MS}, Mem K Z H φ M → RWs K (Fz Z φ M H) φ vs ws → fzAll ws M = some (t, xs, M') → Ext Z φ M H φ M' H ∧ Mem K Z H φ M' ∧ DqAll (kk t K) (Fz Z φ M' H) vs xs
  | _, _, _, _, _, _, m, .nil, h => by cases h; exact ⟨Ext.refl, m, .nil⟩
  | _, w :: ws, _, _, M, _, m, .cons r q, h => by
    unfold fzAll at h
    split at h
    · rename_i t x M1 hx
      split at h
      · rename_i s xs M2 hxs
        cases h
        obtain ⟨e1, m1, d1⟩ := fz1_ok m r hx
        obtain ⟨e2, m2, d2⟩ := fzAll_ok m1 (q.ext e1) hxs
        exact ⟨e1.trans e2, m2, .cons (kkL s (dp_mono e2.fz _ d1)) (kkRs t d2)⟩
      · cases h
    · cases h
end

/-! ### displays -/
def mTup (a : Sm (List W)) : Sm W := fun Δ M => match a Δ M with
  | some (ws, M1) => (match fzAll ws M1 with
    | some (t, xs, M2) => if xs.length ≤ 1000 then some (.d t (.tuple xs), M2) else none
    | none => none)
  | none => none
/-- what a new list holds -/
def mLst (a : Sm (List W)) : Sm (Bool × List PD) := fun Δ M => match a Δ M with
  | some (ws, M1) => (match fzAll ws M1 with
    | some (t, xs, M2) => if xs.length ≤ 1000 then some ((t, xs), M2) else none
    | none => none)
  | none => none
/-- a new list, at a place | standing still -/
def mNew (m : Sm (Bool × List PD)) : Sm W := fun Δ M => match m Δ M with
  | some ((t, xs), M1) => some (.loc M1.length, M1 ++ [.lst t xs])
  | none => none
def mOld (m : Sm (Bool × List PD)) : Sm W := fun Δ M => match m Δ M with
  | some ((t, xs), M1) => some (.d t (.list xs), M1)
  | none => none
section
variable {X : Cx} {a b c e : Expr} {es : List Expr} {pos : Pos}
theorem small_of {n : Nat} (h : n ≤ 1000) : n ≤ sizeLine := Nat.le_trans h (by decide)
theorem pe_mtup {x1} {ms : Sm (List W)} (h : PA X es (tOfA X.K ms)) : PE X (.Tuple es x1 pos) (tOf X.K (mTup ms)) := by
  refine pe_imp (pe_tup h) fun σ H Q ⟨Z, φ, Δ, M, w, M', R, h, q⟩ => ?_
  unfold mTup at h
  split at h
  · rename_i ws M1 hx
    split at h
    · rename_i t xs M2 hxs
      split at h
      · rename_i hl
        cases h
        refine ⟨Z, φ, Δ, M, ws, M1, R, hx, fun vs φ1 H1 e1 m1 r1 => ?_⟩
        obtain ⟨e2, m2, d2⟩ := fzAll_ok m1 r1 hxs
        refine ⟨by rw [dpa_length d2]; exact small_of hl, fun p hp => ?_⟩
        obtain ⟨e3, m3, f3⟩ := m2.new hp (.tup vs)
        exact q _ φ1 _ ((e1.trans e2).trans e3) m3 (.tup (.inl f3) (dpa_mono e3.fz _ d2))
      · cases h
    · cases h
  · cases h
def PostN (K : PySem.W.Frag) (Z : Addr → Prop) (φ : List Addr) (M : MS) (H : Hp) (t : Bool) (xs : List PD) (M' : MS) (Q : VK) : Prop :=
  ∀ p φ' H', (∃ t, φ' = φ ++ t) → Ext Z φ M H (φ' ++ [p]) (M' ++ [.lst t xs]) H' → Mem K Z H' (φ' ++ [p]) (M' ++ [.lst t xs]) → Q (.ref p) H'
def tOfN (K : PySem.W.Frag) (m : Sm (Bool × List PD)) : TE := fun σ H Q => ∃ Z φ Δ M t xs M', Rep K Z σ H φ Δ M ∧ m Δ M = some ((t, xs), M') ∧ PostN K Z φ M H t xs M' Q
theorem pe_mnew {m : Sm (Bool × List PD)} (h : PE X e (tOfN X.K m)) : PE X e (tOf X.K (mNew m)) := by
  refine pe_imp h fun σ H Q ⟨Z, φ, Δ, M, w, M', R, h, q⟩ => ?_
  unfold mNew at h
  split at h
  · rename_i t xs M1 hx
    cases h
    refine ⟨Z, φ, Δ, M, t, xs, M1, R, hx, fun p φ1 H1 _ e1 m1 => q _ (φ1 ++ [p]) H1 e1 m1 ⟨p, ?_, rfl⟩⟩
    have hl : φ1.length = M1.length := by have := m1.len; simp at this; exact this
    rw [← hl]
    simp
  · cases h
theorem pe_mold {m : Sm (Bool × List PD)} (h : PE X e (tOfN X.K m)) : PE X e (tOf X.K (mOld m)) := by
  refine pe_imp h fun σ H Q ⟨Z, φ, Δ, M, w, M', R, h, q⟩ => ?_
  unfold mOld at h
  split at h
  · rename_i t xs M1 hx
    cases h
    refine ⟨Z, φ, Δ, M, t, xs, M', R, hx, fun p φ1 H1 t1 e1 m1 => ?_⟩
    obtain ⟨s, m2, d2⟩ := m1.unlast
    exact q _ φ1 H1 ⟨same_tr e1.fz s, e1.z, t1, fun x h => e1.nz x (List.mem_append_left _ h)⟩ m2 d2
  · cases h
theorem pe_mlst {ms : Sm (List W)} (h : PA X es (tOfA X.K ms)) : PE X (.List es pos) (tOfN X.K (mLst ms)) := by
  refine pe_imp (pe_lst h) fun σ H Q ⟨Z, φ, Δ, M, s, ys, M', R, hy, q⟩ => ?_
  unfold mLst at hy
  split at hy
  · rename_i ws M1 hx
    split at hy
    · rename_i t xs M2 hxs
      split at hy
      · rename_i hl
        cases hy
        refine ⟨Z, φ, Δ, M, ws, M1, R, hx, fun vs φ1 H1 e1 m1 r1 => ?_⟩
        obtain ⟨e2, m2, d2⟩ := fzAll_ok m1 r1 hxs
        refine ⟨by rw [dpa_length d2]; exact small_of hl, fun p hp => ?_⟩
        obtain ⟨e3, m3, f3⟩ := m2.born (o := .lst s ys) hp (u := .lst vs) rfl ⟨vs, upd_same, d2⟩
        exact q _ φ1 _ e1.pre ((e1.trans e2).trans e3) m3
      · cases hy
    · cases hy
  · cases hy
end
end Ek

/-! Ek3: operations -/
namespace Ek
open PySem PySem.Spec PyProof.Rows L2
section
variable {K : PySem.W.Frag} {Z : Addr → Prop} {H : Hp} {φ : List Addr} {M M' : MS} {v : V} {w : W}
/-! ### reading lists -/
/-- a list that is no script -/
def rdM : W → MS → Option (Bool × List PD)
  | .d t (.list xs), _ => some (t, xs)
  | .loc n, M => match M[n]? with
    | some (.lst t xs) => some (t, xs)
    | some (.fzn t xs) => some (t, xs)
    | _ => none
  | _, _ => none
theorem rdM_ok {t : Bool} {xs : List PD} (m : Mem K Z H φ M) (r : RW K (Fz Z φ M H) φ v w) (h : rdM w M = some (t, xs)) : ∃ a vs, v = .ref a ∧ Rd H a (.lst vs) ∧ DqAll (kk t K) (Fz Z φ M H) vs xs := by
  cases w with
  | d s y =>
    cases y with
    | list ys =>
      cases h
      cases r with
      | lst h1 h2 => exact ⟨_, _, rfl, .inl (fz_sub _ _ h1), h2⟩
    | _ => cases h
  | loc n =>
    obtain ⟨a, ha, rfl⟩ := r
    simp only [rdM] at h
    split at h
    · rename_i s ys hx
      cases h
      obtain ⟨vs, hv, hd⟩ := m.obj n a _ ha hx
      exact ⟨a, vs, rfl, .inl hv, hd⟩
    · rename_i s ys hx
      cases h
      obtain ⟨vs, hv, hd⟩ := m.obj n a _ ha hx
      exact ⟨a, vs, rfl, .inl (fz_sub _ _ hv), hd⟩
    · cases h
  | s ys => cases h
  | fn n => cases h
def rdL : W → MS → Option (Bool × List PD)
  | .s xs, _ => some (true, xs)
  | w, M => rdM w M
theorem rdL_ok {t : Bool} {xs : List PD} (m : Mem K Z H φ M) (r : RW K (Fz Z φ M H) φ v w) (h : rdL w M = some (t, xs)) : ∃ a vs, v = .ref a ∧ SqL K H a vs ∧ DqAll (kk t K) (Fz Z φ M H) vs xs := by
  unfold rdL at h
  split at h
  · cases h
    obtain ⟨a, vs, rfl, h1, h2⟩ := r
    exact ⟨a, vs, rfl, sq_l fz_sub h1, h2⟩
  · obtain ⟨a, vs, e, h1, h2⟩ := rdM_ok m r h
    exact ⟨a, vs, e, .inl h1, h2⟩
/-- data as it reads now (a list at a place too) -/
def rdD : W → MS → Option PD
  | .d _ x, _ => some x
  | .loc n, M => match M[n]? with
    | some (.lst _ xs) => some (.list xs)
    | some (.fzn _ xs) => some (.list xs)
    | _ => none
  | .s _, _ => none
  | .fn _, _ => none
theorem rdD_ok {x : PD} (m : Mem K Z H φ M) (r : RW K (Fz Z φ M H) φ v w) (h : rdD w M = some x) : Dq K H v x := by
  cases w with
  | d t y =>
    cases h
    exact dp_mono fz_sub _ (kkU r)
  | loc n =>
    obtain ⟨a, ha, rfl⟩ := r
    simp only [rdD] at h
    split at h
    · rename_i s ys hx
      cases h
      obtain ⟨vs, hv, hd⟩ := m.obj n a _ ha hx
      exact .lst hv (dpa_mono fz_sub _ (kkUs hd))
    · rename_i s ys hx
      cases h
      obtain ⟨vs, hv, hd⟩ := m.obj n a _ ha hx
      exact .lst (fz_sub _ _ hv) (dpa_mono fz_sub _ (kkUs hd))
    · cases h
  | s ys => cases h
  | fn n => cases h
/-- items of a list or a tuple -/
def rdQ : W → MS → Option (Bool × List PD)
  | .d t (.tuple xs), _ => some (t, xs)
  | w, M => rdL w M
theorem rdQ_ok {t : Bool} {xs : List PD} (m : Mem K Z H φ M) (r : RW K (Fz Z φ M H) φ v w) (h : rdQ w M = some (t, xs)) : ∃ a vs, v = .ref a ∧ (SqL K H a vs ∨ TupR (kk t K) H a vs) ∧ DqAll (kk t K) (Fz Z φ M H) vs xs := by
  unfold rdQ at h
  split at h
  · cases h
    cases r with
    | tup h1 h2 => exact ⟨_, _, rfl, .inr (sq_t fz_sub h1), h2⟩
  · obtain ⟨a, vs, e, h1, h2⟩ := rdL_ok m r h
    exact ⟨a, vs, e, .inl h1, h2⟩
theorem tupU {t : Bool} {H : Hp} {a : Addr} {xs : List V} (h : TupR (kk t K) H a xs) : TupR K H a xs := by
  cases t with
  | true => exact .inl h.own
  | false => exact h

/-! ### a value that is the same store | new -/
theorem PostE.same {t : Bool} {x : PD} {Q : VK} (q : PostE K Z φ M H (.d t x) M Q) (m : Mem K Z H φ M) (h : Dq (kk t K) (Fz Z φ M H) v x) : Q v H := q v φ H Ext.refl m h
theorem PostE.newL {t : Bool} {xs : List PD} {vs : List V} {Q : VK} (q : PostE K Z φ M H (.d t (.list xs)) M Q) (m : Mem K Z H φ M) (h : DqAll (kk t K) (Fz Z φ M H) vs xs) : ∀ p, H p = none → Q (.ref p) (upd H p (.lst vs)) := fun p hp => by
  obtain ⟨e, m', f⟩ := m.new hp (.lst vs)
  exact q _ φ _ e m' (.lst f (dpa_mono e.fz _ h))
theorem PostE.newT {t : Bool} {xs : List PD} {vs : List V} {Q : VK} (q : PostE K Z φ M H (.d t (.tuple xs)) M Q) (m : Mem K Z H φ M) (h : DqAll (kk t K) (Fz Z φ M H) vs xs) : ∀ p, H p = none → Q (.ref p) (upd H p (.tup vs)) := fun p hp => by
  obtain ⟨e, m', f⟩ := m.new hp (.tup vs)
  exact q _ φ _ e m' (.tup (.inl f) (dpa_mono e.fz _ h))
end

/-! ### ints -/
def gI (f : Int → Int → PD) : W → W → MS → Option (W × MS)
  | .d _ (.int i), .d _ (.int j), M => some (.d true (f i j), M)
  | _, _, _ => none
theorem gI_ok {K : PySem.W.Frag} {f : Int → Int → PD} {g : Int → Int → V} (h : ∀ H i j, Dq [] H (g i j) (f i j)) : OpD K (rI0 g) (gI f) := by
  intro Z φ M H x y wx wy w M' Q m rx ry hg q
  unfold gI at hg
  split at hg
  · cases hg
    cases rx
    cases ry
    exact ⟨_, _, rfl, rfl, q.same m (h _ _ _)⟩
  · cases hg
def gIC (C : Int → Int → Prop) [∀ i j, Decidable (C i j)] (f : Int → Int → PD) : W → W → MS → Option (W × MS)
  | .d _ (.int i), .d _ (.int j), M => if C i j then some (.d true (f i j), M) else none
  | _, _, _ => none
theorem gIC_ok {K : PySem.W.Frag} {C : Int → Int → Prop} [∀ i j, Decidable (C i j)] {f : Int → Int → PD} {g : Int → Int → V} (h : ∀ H i j, Dq [] H (g i j) (f i j)) : OpD K (rI C g) (gIC C f) := by
  intro Z φ M H x y wx wy w M' Q m rx ry hg q
  unfold gIC at hg
  split at hg
  · split at hg
    · cases hg
      cases rx
      cases ry
      exact ⟨_, _, rfl, rfl, by assumption, q.same m (h _ _ _)⟩
    · cases hg
  · cases hg
section
variable {X : Cx}
theorem opr_imp {f : Value → Value → Sem Value} {r r' : R2} (h : OpR X f r) (i : ∀ x y H Q, r' x y H Q → r x y H Q) : OpR X f r' := fun pins s σ H x y v u Q I rx ry q => h pins s σ H x y v u Q I rx ry (i _ _ _ _ q)
theorem callr_imp {f : Value} {r r' : List V → Hp → VK → Prop} (h : CallR X f r) (i : ∀ xs H Q, r' xs H Q → r xs H Q) : CallR X f r' := fun pins s σ H xs us Q I rx q => h pins s σ H xs us Q I rx (i _ _ _ q)
theorem callr_or {f : Value} {r r' : List V → Hp → VK → Prop} (h : CallR X f r) (h' : CallR X f r') : CallR X f (fun xs H Q => r xs H Q ∨ r' xs H Q) := fun pins s σ H xs us Q I rx q => q.elim (fun q => h pins s σ H xs us Q I rx q) (fun q => h' pins s σ H xs us Q I rx q)
/-! ### + -/
def rCatR : R2 := fun x y H Q => ∃ l b xs zs, x = .ref l ∧ y = .ref b ∧ Rd H l (.lst xs) ∧ Rd H b (.lst zs) ∧ xs.length + zs.length ≤ sizeLine ∧ ∀ p, H p = none → Q (.ref p) (upd H p (.lst (xs ++ zs)))
theorem lstR {pins : List (Addr × Obj)} {σ : L2.St} {H : Hp} {s : Shared} {l : Addr} {xs : List V} (I : L2.Inv X pins σ H s) (hH : Rd H l (.lst xs)) : xs.length ≤ sizeLine ∧ ∃ (its : List Value) (n : Nat), Vals xs its ∧ xs.length = its.length ∧ s.heap.get? l = some { cls := .type "list", data := .seq its.toArray n } := by
  obtain ⟨z, its, n, r, e⟩ := hH.ok I.hok
  exact ⟨z, its, n, r, r.length, e⟩
theorem op_catR : OpR X (binaryOp .Add) rCatR := by
  intro pins s σ H x y v u Q I rx ry h
  obtain ⟨l, b, xs, zs, rfl, rfl, hH, hB, hz, q⟩ := h
  cases rx
  cases ry
  obtain ⟨z, its, n, r, hl, e⟩ := lstR I hH
  obtain ⟨z2, its2, n2, r2, hl2, e2⟩ := lstR I hB
  refine PySem.P.add_list e e2 ?_ (by rw [List.size_toArray, List.size_toArray]; omega)
  have ea : its.toArray ++ its2.toArray = (its ++ its2).toArray := by simp
  rw [ea]
  exact ⟨.ref _, _, I.lnew (t' := s.toks) (r.append r2) (by rw [List.length_append]; omega), rfl, q _ I.fresh⟩
def rAddR (K : PySem.W.Frag) : R2 := fun x y H Q => rI0 (fun i j => .int (i + j)) x y H Q ∨ (∃ i j, x = .str i ∧ y = .str j ∧ i.length + j.length ≤ sizeLine ∧ Q (.str (i ++ j)) H) ∨ rCatA K x y H Q ∨ rCatR x y H Q
theorem op_addR : OpR X (binaryOp .Add) (rAddR X.K) := op_add.or (op_add_str.or (op_catA.or op_catR))
def gAdd : W → W → MS → Option (W × MS)
  | .d _ (.int i), .d _ (.int j), M => some (.d true (.int (i + j)), M)
  | .d _ (.str a), .d _ (.str b), M => if a.length + b.length ≤ 1000000 then some (.d true (.str (a ++ b)), M) else none
  | .d _ (.tuple []), .d s (.tuple ys), M => if ys.length ≤ 10000 then some (.d s (.tuple ys), M) else none
  | .d t (.tuple (x :: xs)), .d s (.tuple ys), M => if (x :: xs).length + ys.length ≤ 10000 then some (.d (t && s) (.tuple (x :: xs ++ ys)), M) else none
  | x, y, M => match rdM x M, rdM y M with
    | some (t, xs), some (s, ys) => if xs.length + ys.length ≤ 10000 then some (.d (t && s) (.list (xs ++ ys)), M) else none
    | _, _ => none
theorem gAdd_ok {K : PySem.W.Frag} : OpD K (rAddR K) gAdd := by
  intro Z φ M H x y wx wy w M' Q m rx ry hg q
  unfold gAdd at hg
  split at hg
  · cases hg
    cases rx
    cases ry
    exact .inl ⟨_, _, rfl, rfl, q.same m (.int _)⟩
  · split at hg
    · rename_i hl
      cases hg
      cases rx
      cases ry
      exact .inr (.inl ⟨_, _, rfl, rfl, Nat.le_trans hl (by decide), q.same m (.str _)⟩)
    · cases hg
  · split at hg
    · rename_i hl
      cases hg
      cases rx with
      | tup hs ha =>
        cases ry with
        | tup hs2 ha2 =>
          have l2 := dpa_length ha2
          cases ha
          refine .inr (.inr (.inl ⟨_, _, _, _, rfl, rfl, (tupU (sq_t fz_sub hs)).sq, (tupU (sq_t fz_sub hs2)).sq, ?_, ?_, ?_, ?_⟩))
          · rw [List.length_nil, Nat.zero_add, l2]
            exact Nat.le_trans hl (by decide : (10000 : Nat) ≤ sizeLine)
          · intro _
            exact q.same m (.tup hs2 ha2)
          · intro e
            exact absurd rfl e
          · intro e
            exact absurd rfl e
    · cases hg
  · split at hg
    · rename_i hl
      cases hg
      cases rx with
      | tup hs ha =>
        cases ry with
        | tup hs2 ha2 =>
          have l1 := dpa_length ha
          have l2 := dpa_length ha2
          refine .inr (.inr (.inl ⟨_, _, _, _, rfl, rfl, (tupU (sq_t fz_sub hs)).sq, (tupU (sq_t fz_sub hs2)).sq, ?_, ?_, ?_, ?_⟩))
          · exact Nat.le_trans (by rw [l1, l2]; exact hl) (by decide : (10000 : Nat) ≤ sizeLine)
          · intro e
            rw [e] at l1
            simp at l1
          · intro _ e
            subst e
            cases ha2
            exact q.same m (by rw [List.append_nil]; exact kkL _ (.tup hs ha))
          · intro _ _
            exact q.newT m (dpa_append (kkLs _ ha) (kkRs _ ha2))
    · cases hg
  · split at hg
    · rename_i t xs s ys h1 h2
      split at hg
      · rename_i hl
        cases hg
        obtain ⟨a, vs, rfl, ra, da⟩ := rdM_ok m rx h1
        obtain ⟨b, us, rfl, rb, db⟩ := rdM_ok m ry h2
        exact .inr (.inr (.inr ⟨a, b, vs, us, rfl, rfl, ra, rb, Nat.le_trans (by rw [dpa_length da, dpa_length db]; exact hl) (by decide : (10000 : Nat) ≤ sizeLine), q.newL m (dpa_append (kkLs s da) (kkRs t db))⟩))
      · cases hg
    · cases hg
def gSub : W → W → MS → Option (W × MS) := gI fun i j => .int (i - j)
theorem gSub_ok {K : PySem.W.Frag} : OpD K (rI0 fun i j => .int (i - j)) gSub := gI_ok fun _ _ _ => .int _
/-! ### * -/
def CMulE (i j : Int) : Prop := CMul i j ∨ CMulW i j
instance (i j : Int) : Decidable (CMulE i j) := by unfold CMulE CMul CMulW; exact inferInstance
def rMulR : R2 := fun x y H Q => rI CMul (fun i j => .int (i * j)) x y H Q ∨ rI CMulW (fun i j => .int (i * j)) x y H Q ∨ rRep x y H Q
theorem op_mulR : OpR X (binaryOp .Mult) rMulR := op_mul.or (op_mulW.or op_rep)
def gMul : W → W → MS → Option (W × MS)
  | .d _ (.int i), .d _ (.int j), M => if CMulE i j then some (.d true (.int (i * j)), M) else none
  | .d t (.list xs), .d _ (.int k), M => if 0 ≤ k ∧ k ≤ 1000 ∧ xs.length ≤ 1000 then some (.d t (.list (List.replicate k.toNat xs).flatten), M) else none
  | _, _, _ => none
theorem dpa_flat {K : PySem.W.Frag} {H : Hp} {vs : List V} {ds : List PD} (h : DqAll K H vs ds) : ∀ n, DqAll K H (List.replicate n vs).flatten (List.replicate n ds).flatten
  | 0 => .nil
  | n + 1 => by
    rw [List.replicate_succ, List.replicate_succ, List.flatten_cons, List.flatten_cons]
    exact dpa_append h (dpa_flat h n)
theorem gMul_ok {K : PySem.W.Frag} : OpD K rMulR gMul := by
  intro Z φ M H x y wx wy w M' Q m rx ry hg q
  unfold gMul at hg
  split at hg
  · split at hg
    · rename_i hc
      cases hg
      cases rx
      cases ry
      rcases hc with hc | hc
      · exact .inl ⟨_, _, rfl, rfl, hc, q.same m (.int _)⟩
      · exact .inr (.inl ⟨_, _, rfl, rfl, hc, q.same m (.int _)⟩)
    · cases hg
  · split at hg
    · rename_i hc
      obtain ⟨h0, h1, h2⟩ := hc
      cases hg
      cases ry
      cases rx with
      | lst hs ha =>
        refine .inr (.inr ⟨_, _, _, rfl, rfl, fz_sub _ _ hs, by omega, by omega, ?_, q.newL m (dpa_flat ha _)⟩)
        rw [dpa_length ha]
        exact Nat.le_trans (Nat.mul_le_mul h2 (by omega : _ ≤ 1000)) (by decide : 1000 * 1000 ≤ sizeLine)
    · cases hg
  · cases hg
/-! ### //, %, ** -/
instance (i j : Int) : Decidable (CDivW i j) := by unfold CDivW; exact inferInstance
instance (i j : Int) : Decidable (CPow i j) := by unfold CPow; exact inferInstance
def gFdiv : W → W → MS → Option (W × MS) := gIC CDivW fun i j => .int (i / j)
theorem gFdiv_ok {K : PySem.W.Frag} : OpD K (rI CDivW fun i j => .int (i / j)) gFdiv := gIC_ok fun _ _ _ => .int _
def gMod : W → W → MS → Option (W × MS) := gIC (fun _ j => 0 < j) fun i j => .int (i % j)
theorem gMod_ok {K : PySem.W.Frag} : OpD K (rI (fun _ j => 0 < j) fun i j => .int (i % j)) gMod := gIC_ok fun _ _ _ => .int _
def gPow : W → W → MS → Option (W × MS) := gIC CPow fun i j => .int (i ^ j.toNat)
theorem gPow_ok {K : PySem.W.Frag} : OpD K (rI CPow fun i j => .int (i ^ j.toNat)) gPow := gIC_ok fun _ _ _ => .int _
def gNeg : W → MS → Option (W × MS)
  | .d _ (.int i), M => some (.d true (.int (-i)), M)
  | _, _ => none
theorem gNeg_ok {K : PySem.W.Frag} : UnD K (rU fun i => .int (-i)) gNeg := by
  intro Z φ M H x wx w M' Q m rx hg q
  unfold gNeg at hg
  split at hg
  · cases hg
    cases rx
    exact ⟨_, rfl, q.same m (.int _)⟩
  · cases hg
/-! ### comparisons -/
def gLt : W → W → MS → Option (W × MS) := gI fun i j => .bool (decide (i < j))
def gLe : W → W → MS → Option (W × MS) := gI fun i j => .bool (decide (i ≤ j))
def gGt : W → W → MS → Option (W × MS) := gI fun i j => .bool (decide (j < i))
def gGe : W → W → MS → Option (W × MS) := gI fun i j => .bool (decide (j ≤ i))
def gEq : W → W → MS → Option (W × MS) := fun x y M => match rdD x M, rdD y M with
  | some d, some e => if SeqAt.shaped d = true ∧ SeqAt.shaped e = true then some (.d true (.bool (PyData.eqv d e)), M) else none
  | _, _ => none
def gNe : W → W → MS → Option (W × MS) := fun x y M => match rdD x M, rdD y M with
  | some d, some e => if SeqAt.shaped d = true ∧ SeqAt.shaped e = true then some (.d true (.bool (!PyData.eqv d e)), M) else none
  | _, _ => none
theorem gEq_ok {K : PySem.W.Frag} : OpD K (rEqD K) gEq := by
  intro Z φ M H x y wx wy w M' Q m rx ry hg q
  unfold gEq at hg
  split at hg
  · rename_i d e h1 h2
    split at hg
    · rename_i hc
      cases hg
      exact ⟨d, e, dq_dp _ (rdD_ok m rx h1), dq_dp _ (rdD_ok m ry h2), hc.1, hc.2, q.same m (.bl _)⟩
    · cases hg
  · cases hg
theorem gNe_ok {K : PySem.W.Frag} : OpD K (rNeD K) gNe := by
  intro Z φ M H x y wx wy w M' Q m rx ry hg q
  unfold gNe at hg
  split at hg
  · rename_i d e h1 h2
    split at hg
    · rename_i hc
      cases hg
      exact ⟨d, e, dq_dp _ (rdD_ok m rx h1), dq_dp _ (rdD_ok m ry h2), hc.1, hc.2, q.same m (.bl _)⟩
    · cases hg
  · cases hg
def gIn0 (neg : Bool) : W → W → MS → Option (W × MS) := fun x y M => match rdD x M, rdD y M with
  | some d, some (.list ds) => if SeqAt.shaped d = true ∧ SeqAt.shaped (.list ds) = true then some (.d true (.bool (neg != ds.any fun z => PyData.eqv z d)), M) else none
  | _, _ => none
/-- is None, is not None -/
def isNon : W → Bool
  | .d _ .none => true
  | _ => false
def gIs : W → MS → Option (W × MS) := fun x M => some (.d true (.bool (isNon x)), M)
def gIsN : W → MS → Option (W × MS) := fun x M => some (.d true (.bool (!isNon x)), M)
theorem isNon_ok {K : PySem.W.Frag} {F : Hp} {φ : List Addr} {v : V} {w : W} (r : RW K F φ v w) : decide (v = .non) = isNon w := by
  cases w with
  | d t x =>
    cases x <;> cases r <;> rfl
  | loc n =>
    obtain ⟨a, _, rfl⟩ := r
    rfl
  | s ys =>
    obtain ⟨a, _, rfl, _⟩ := r
    rfl
  | fn n =>
    obtain ⟨a, _, rfl⟩ := r
    rfl
/-! ### items -/
def gIx0 : W → W → MS → Option (W × MS)
  | x, .d _ (.int i), M => match rdQ x M with
    | some (t, xs) => (match atI xs i with
      | some y => some (.d (nf t y) y, M)
      | none => none)
    | none => none
  | _, _, _ => none
theorem atI_dq {K : PySem.W.Frag} {H : Hp} {vs : List V} {ds : List PD} {i : Int} {d : PD} (h : DqAll K H vs ds) (e : atI ds i = some d) : ∃ v, atI vs i = some v ∧ Dq K H v d := by
  unfold atI at e ⊢
  rw [dpa_length h]
  cases hj : ixN ds.length i with
  | none => rw [hj] at e; cases e
  | some j =>
    rw [hj] at e
    exact dpa_getD (i := j) h e
theorem gIx0_ok {K : PySem.W.Frag} : OpD K (rIx K) gIx0 := by
  intro Z φ M H x y wx wy w M' Q m rx ry hg q
  unfold gIx0 at hg
  split at hg
  · split at hg
    · rename_i t xs hx
      split at hg
      · rename_i z hz
        cases hg
        cases ry
        obtain ⟨a, vs, rfl, ha, hd⟩ := rdQ_ok m rx hx
        obtain ⟨v, hv, dv⟩ := atI_dq hd hz
        rcases ha with ha | ha
        · exact .inl ⟨a, vs, _, v, rfl, rfl, ha, hv, q.same m (dq_nf dv)⟩
        · exact .inr (.inl ⟨a, vs, _, v, rfl, rfl, (tupU ha).sq, hv, q.same m (dq_nf dv)⟩)
      · cases hg
    · cases hg
  · cases hg
end
end Ek

/-! EkG: promises of defs that are called while no text of a list or tuple is being made -/
namespace Ek
open PySem PySem.Spec PyProof.Rows L2
/-- no list's, no tuple's text is under way -/
def Quiet (A : Around) : Prop := A.guards = some []
structure FnG (P : Program) (w : World) (K : PySem.W.Frag) (mg : Str → Option Value) (base : Heap) (k : Nat) (f : Addr) (fd : FuncData) (ps : List Str) (sp : Sp) : Prop where
  size : ∀ {ws : List V} {G : Hp} {R : VK} {X : XK}, sp ws G R X → ws.length = ps.length
  does : ∀ {A : Around} {up : List Env} {s : Shared} {G : Hp} {al : Args} {us : List Value} {ws : List V} {R : VK} {X : XK}, Room k A → Quiet A → Env0 P w K mg base A up s G → BindsTo s fd al (ps.zip us) → Vals ws us → sp ws G R X →
    codeAny (model P w) A (.call (.ref f) al) (CR CX0 up P w G s R X) s
theorem FnG.more {P : Program} {w : World} {K : PySem.W.Frag} {mg : Str → Option Value} {base : Heap} {j k : Nat} {f : Addr} {fd : FuncData} {ps : List Str} {sp : Sp} (F : FnG P w K mg base j f fd ps sp) (le : j ≤ k) : FnG P w K mg base k f fd ps sp :=
  ⟨F.size, fun r q e b v h => F.does (r.mono le) q e b v h⟩
section
variable {X : Cx} {k : Nat} {f : Addr} {fd : FuncData} {ps ks : List Str} {sp : Sp} {x : Str} {p pos : Pos} {e : Expr} {es : List Expr} {kws : List Keyword} {t tk : TA}
/-- what comes back of a call -/
theorem back {pins : List (Addr × Obj)} {σ : L2.St} {G : Hp} {s : Shared} {R : VK} {c : Code} (I : Inv X pins σ G s) (h : codeAny (model X.prog X.w) X.A c (CR CX0 X.stack X.prog X.w G s R E0) s) : codeAny (model X.prog X.w) X.A c (fun r s' => match r with
    | .ok (.ret u) => EP X pins σ R u s'
    | .ok _ => False
    | .error e => X.xe e s') s := codeAny_mono h fun r s' hq => by
  cases r with
  | ok fl =>
    cases fl with
    | ret u => exact I.after hq
    | next => cases hq
    | cont => cases hq
    | brk => cases hq
  | error u => cases hq
theorem goG {pins : List (Addr × Obj)} {σ : L2.St} {G : Hp} {s : Shared} {R : VK} {us : List Value} {ws : List V} (F : FnG X.prog X.w X.K X.mg X.base k f fd ps sp) (r : Room k X.A) (q : Quiet X.A) (b : Binds X.K fd ps []) (I : Inv X pins σ G s) (v : Vals ws us) (h : sp ws G R E0) :
    wpAny (model X.prog X.w) X.A (call (.ref f) us) (EP X pins σ R) X.xe s := by
  have n : (us ++ []).length = ps.length := by rw [List.append_nil, ← v.length]; exact F.size h
  have bt := b s us I.kIn n
  rw [List.append_nil] at bt
  refine wpAny_call (codeAny_mono (back I (F.does r q I.env0 bt v h)) fun z s' hz => ?_)
  cases z with
  | ok fl => cases fl <;> first | exact hz | cases hz
  | error u => exact hz
theorem goGk {pins : List (Addr × Obj)} {σ : L2.St} {G : Hp} {s : Shared} {R : VK} {us zs : List Value} {vs ys : List V} {g : List Value → List Value → List Value} {gV : List V → List V → List V} (F : FnG X.prog X.w X.K X.mg X.base k f fd ps sp) (r : Room k X.A) (q : Quiet X.A) (b : KBinds X.K fd ps ks g gV) (I : Inv X pins σ G s) (v : Vals vs us) (y : Vals ys zs) (h : sp (gV vs ys) G R E0) :
    wpAny (model X.prog X.w) X.A (call (.ref f) us (ks.zip zs)) (EP X pins σ R) X.xe s := by
  have rel := b.rel v y
  have n : (g us zs).length = ps.length := by rw [← rel.length]; exact F.size h
  refine wpAny_call (codeAny_mono (back I (F.does r q I.env0 (b.to s us zs I.kIn n) rel h)) fun z s' hz => ?_)
  cases z with
  | ok fl => cases fl <;> first | exact hz | cases hz
  | error u => exact hz
/-- a call with written arguments -/
theorem peG (F : FnG X.prog X.w X.K X.mg X.base k f fd ps sp) (r : Room k X.A) (q : Quiet X.A) (gl : Gl X x) (m : X.mg x = some (.ref f)) (kp : PySem.W.keepIn X.K (.ref f) = true) (b : Binds X.K fd ps []) (a : PA X (e :: es) t)
    (nd : (x == ("__debug__" : Str)) = false) (st : starEach (e :: es) X.env = (false, eval e X.env) :: starEach es X.env) (ns : (backTo pos (starEach es X.env)).any (·.1) = false) : PE X (.Call (.Name x p) (e :: es) [] pos) (fun σ H Q => t σ H fun vs H1 => sp vs H1 Q E0) :=
  ⟨fun pins s σ H Q I h => wpAny_Call_Name_kw (ld_glob I gl m (PySem.W.callWith_K (h₀ := X.base) I.ok.mod.kin kp (thn (a.run pos pins s σ H _ I h) fun us s1 ⟨vs, H1, I1, v, h1⟩ => ⟨I1.kIn, goG F r q b I1 v h1⟩) st ns) nd)⟩
theorem peG0 (F : FnG X.prog X.w X.K X.mg X.base k f fd ps sp) (r : Room k X.A) (q : Quiet X.A) (gl : Gl X x) (m : X.mg x = some (.ref f)) (kp : PySem.W.keepIn X.K (.ref f) = true) (b : Binds X.K fd ps []) (nd : (x == ("__debug__" : Str)) = false) : PE X (.Call (.Name x p) [] [] pos) (fun σ H Q => sp [] H Q E0) :=
  ⟨fun pins s σ H Q I h => wpAny_Call_Name_kw (ld_glob I gl m (PySem.W.callWith_K0 I.kIn kp (goG (us := []) F r q b I .nil h)) nd)⟩
theorem peGk {g : List Value → List Value → List Value} {gV : List V → List V → List V} (F : FnG X.prog X.w X.K X.mg X.base k f fd ps sp) (r : Room k X.A) (q : Quiet X.A) (gl : Gl X x) (m : X.mg x = some (.ref f)) (kp : PySem.W.keepIn X.K (.ref f) = true) (b : KBinds X.K fd ps ks g gV) (a : PA X (e :: es) t) (kw : PK X kws tk)
    (all : (backToKw pos (keywordEach kws X.env)).all (·.1.isSome) = true) (nm : (backToKw pos (keywordEach kws X.env)).filterMap (·.1) = ks) (nd : (x == ("__debug__" : Str)) = false) (st : starEach (e :: es) X.env = (false, eval e X.env) :: starEach es X.env)
    (ns : ((backTo pos (starEach (e :: es) X.env)).any (·.1) || (backToKw pos (keywordEach kws X.env)).any (·.1.isNone)) = false) : PE X (.Call (.Name x p) (e :: es) kws pos) (tCallK sp gV E0 t tk) :=
  ⟨fun pins s σ H Q I h => wpAny_Call_Name_kw (ld_glob I gl m (PySem.W.callWith_KW (h₀ := X.base) I.ok.mod.kin kp all (thn (a.run pos pins s σ H _ I h) fun us s1 ⟨vs, H1, I1, v, h1⟩ =>
    thn (kw.run pos pins s1 σ H1 _ I1 h1) fun zs s2 ⟨ys, H2, I2, y, h2⟩ => ⟨I2.kIn, by rw [nm]; exact goGk F r q b I2 v y h2⟩) ns st) nd)⟩
theorem peGk0 {g : List Value → List Value → List Value} {gV : List V → List V → List V} (F : FnG X.prog X.w X.K X.mg X.base k f fd ps sp) (r : Room k X.A) (q : Quiet X.A) (gl : Gl X x) (m : X.mg x = some (.ref f)) (kp : PySem.W.keepIn X.K (.ref f) = true) (b : KBinds X.K fd ps ks g gV) (kw : PK X kws tk)
    (all : (backToKw pos (keywordEach kws X.env)).all (·.1.isSome) = true) (nm : (backToKw pos (keywordEach kws X.env)).filterMap (·.1) = ks) (nd : (x == ("__debug__" : Str)) = false)
    (ns : ((backTo pos (starEach [] X.env)).any (·.1) || (backToKw pos (keywordEach kws X.env)).any (·.1.isNone)) = false) : PE X (.Call (.Name x p) [] kws pos) (tCallK sp gV E0 tNil tk) :=
  ⟨fun pins s σ H Q I h => wpAny_Call_Name_kw (ld_glob I gl m (PySem.W.callWith_KW0 (h₀ := X.base) I.ok.mod.kin kp all (thn (kw.run pos pins s σ H _ I h) fun zs s2 ⟨ys, H2, I2, y, h2⟩ => ⟨I2.kIn, by rw [nm]; exact goGk F r q b I2 .nil y h2⟩) ns) nd)⟩
end
/-- a def of the text keeps what its body keeps -/
theorem defG {P : Program} {w : World} {K : PySem.W.Frag} {mg : Str → Option Value} {base : Heap} {x qual : Str} {st : Stmt} {f : Addr} {fd : FuncData} {N ps : List Str} {k : Nat} {sp : Sp} (F : Fun K x qual st f fd) (S : FnScope N ps (defScope st)) (size : ∀ {vs : List V} {H : Hp} {Q : VK} {E : XK}, sp vs H Q E → vs.length = ps.length)
    (body : ∀ (cdv : Value) (A : Around) (up : List Env) (s : Shared) (H : Hp) (vs : List V) (Q : VK) (E : XK), Room k (A.deeper (envOfC qual (defScope st) s.heap.objs.size f cdv)) → Quiet (A.deeper (envOfC qual (defScope st) s.heap.objs.size f cdv)) → sp vs H Q E →
      ∃ t, PSs (cxOf CX0 P w K mg base N qual (defScope st) f cdv A up s H E).nox (defBody st) t ∧ t { nx := fun _ H' => Q .non H', rt := Q } (start N vs) H) : FnG P w K mg base (k + 1) f fd ps sp := by
  obtain ⟨oc, od, kV, doc, pm, an, cdv, ct, osl, rfl, lk, hcd⟩ := F.ex
  refine ⟨size, fun {A up s H al us vs Q E} hr hq e0 hb r hsp => ?_⟩
  have hl := size hsp
  have KX : K.In s.heap := e0.mod.kin.keeps fun b o e => (e0.bs b o e).1
  have nolim : s.heap.NoLimit := e0.mod.nolimit.keeps fun b o e => (e0.bs b o e).1
  have kinds : ∀ y ∈ ps.zip us, (defScope st).names.lookup y.1 = some .local ∨ ((defScope st).names.lookup y.1 = some .cell ∧ ((cellsFrom (s.heap.objs.size + 1) (defScope st).names []).lookup y.1).isSome = true) := by
    rintro ⟨nm, v⟩ hy
    exact (S.par nm (List.of_mem_zip hy).1).imp id fun c => ⟨c, PySem.W.cellsFrom_some _ _ _ (.inl c)⟩
  refine codeAny_call_function hr.depth (KX _ _ lk) rfl S.co S.gen rfl (PySem.W.codeRec_of KX hcd) (hb _ _ _ _ (wpAny_newFunctionEnv_cells S.kind kinds fun env he s1 c => ?_))
  subst he
  refine ⟨nolim.keeps c.toInCall.keep, codeAny_func ?_⟩
  obtain ⟨t, ht, hq2⟩ := body cdv A up s H vs Q E (hr.deeper _) hq hsp
  have J0 := inv_start (CX := CX0) (E := E) S hr.hd e0 hl r c
  refine wpAny_mono (ht.nox.run [] s1 (start N vs) H _ J0 hq2) (fun fl s' hs => ?_) fun e s' hs => hs
  cases fl with
  | ret u =>
    obtain ⟨v, σ', H', J, rv, z⟩ := hs
    exact ⟨v, H', J.os, J.bare, J.base, J.hok, rv, z⟩
  | next =>
    obtain ⟨σ', H', J, z⟩ := hs
    exact ⟨V.non, H', J.os, J.bare, J.base, J.hok, rfl, z⟩
  | cont =>
    obtain ⟨_, _, _, z⟩ := hs
    exact False.elim z
  | brk =>
    obtain ⟨_, _, _, z⟩ := hs
    exact False.elim z
end Ek

/-! EkH: the law's call, from the promise of its def -/
namespace Ek
open PySem PySem.Spec PyProof.Rows L2
theorem lawG {P : Program} {w : World} {K : PySem.W.Frag} {mg mb : Str → Option Value} {k : Nat} {fa a : Addr} {fd : FuncData} {x : Str} {sp : Sp} {s : Shared} {vs : List Value} {ns : List Int} (KX : K.In s.heap) (nsG : s.heap.Ns mainGlobals mg) (nsB : s.heap.Ns builtinsNs mb)
    (boot : ∀ y : Str, y ≠ "__name__" → mb y = bootBuiltins y) (nolim : s.heap.NoLimit) (nogen : s.gens = #[]) (at_a : s.heap.get? a = some { cls := .type "list", data := .seq vs.toArray }) (allI : IntsAre vs ns) (few : ns.length ≤ sizeLine) (rm : Room k callerA)
    (F : ∀ base : Heap, K.In base → base.Ns mainGlobals mg → FnG P w K mg base k fa fd [x] sp) (bd : ∀ (s : Shared) (u : Value), BindsTo s fd ⟨[u], []⟩ [(x, u)])
    (good : ∀ H : Hp, Only H → SqL K H a (ns.map V.int) → sp [.ref a] H (fun v _ => v = .bl true) E0) :
    codeAny (model P w) callerA (.call (.ref fa) ⟨[.ref a], []⟩) (fun r s' => r = .ok (.ret (.bool true)) ∧ OldK s.heap s'.heap ∧ s'.os = s.os ∧ AllBare s'.gens) s := by
  have items := vals_ints allI
  have many := allI.length
  have main : ∀ H : Hp, Only H → SqL K H a (ns.map V.int) → HOk P w H s.heap → (∀ b, H b ≠ none → b = a ∧ K.lookup b = none) →
      codeAny (model P w) callerA (.call (.ref fa) ⟨[.ref a], []⟩) (fun r s' => r = .ok (.ret (.bool true)) ∧ OldK s.heap s'.heap ∧ s'.os = s.os ∧ AllBare s'.gens) s := by
    intro H only here hok sole
    have un_dict : ∀ {b : Addr} {o : Obj} {es : Array DictEntry} {n : Nat}, s.heap.get? b = some o → o.data = .dict es n → H b = none := by
      intro b o es n e d
      rcases hb : H b with _ | u
      · rfl
      · exfalso
        have eb := (sole b (by rw [hb]; simp)).1
        rw [eb, at_a] at e
        cases e
        cases d
    have ns_up : ∀ {b : Addr} {m : Str → Option Value}, s.heap.Ns b m → (hidT s.heap H).Ns b m := by
      rintro b m ⟨o, es, n, e, d, r⟩
      exact ⟨o, es, n, hidT_get e (un_dict e d), d, r⟩
    have inK : K.In (hidT s.heap H) := by
      intro b o e
      refine hidT_get (KX b o e) ?_
      rcases hb : H b with _ | u
      · rfl
      · have := (sole b (by rw [hb]; simp)).2
        rw [this] at e
        cases e
    obtain ⟨mc, l1, l2⟩ := nolim
    have env : Env0 P w K mg (hidT s.heap H) callerA [] s H := ⟨rfl, ⟨inK, ns_up nsG, ⟨mb, ns_up nsB, boot⟩, ⟨mc, ns_up l1, l2⟩⟩, fun b o e => of_hidT e, Nat.le_of_eq (hidT_size _ _), trivial, (fun b m => by cases m), hok, .of_eq nogen⟩
    refine codeAny_mono ((F _ inK (ns_up nsG)).does rm rfl env (us := [.ref a]) (ws := [.ref a]) (bd s (.ref a)) (.cons rfl .nil) (good H only here)) fun r s' h => ?_
    cases r with
    | error e => cases h
    | ok fl =>
      cases fl with
      | ret u =>
        obtain ⟨v, H', os, bare, un, hok', rv, (e : v = .bl true)⟩ := h
        subst e
        have eu : u = Value.bool true := rv
        subst eu
        refine ⟨rfl, OldK.of_keep fun b o e => ?_, os, bare⟩
        rcases hb : H b with _ | y
        · exact un.keep b o e hb (fun z => by cases z) (fun z => by cases z)
        · rcases only b with z | ⟨ob, xs, z⟩
          · rw [hb] at z
            cases z
          · have k1 := (hok b _ z).1
            have k2 := (hok' b _ (un.frzs b ob _ z)).1
            rw [e] at k1
            cases k1
            exact k2
      | next => cases h
      | cont => cases h
      | brk => cases h
  rcases hk : K.lookup a with _ | o
  · refine main (fun b => if b = a then some (.frz { cls := .type "list", data := .seq vs.toArray } (.lst (ns.map V.int))) else none) (fun b => ?_) (.inl (.inr ⟨_, if_pos rfl⟩)) (fun b u z => ?_) fun b z => ?_
    · by_cases e : b = a
      · exact .inr ⟨_, _, if_pos e⟩
      · exact .inl (if_neg e)
    · by_cases e : b = a
      · subst e
        have z := (if_pos rfl).symm.trans z
        cases z
        exact ⟨at_a, by rw [List.length_map]; exact few, vs, _, items, at_a⟩
      · have z := (if_neg e).symm.trans z
        cases z
    · by_cases e : b = a
      · exact ⟨e, e ▸ hk⟩
      · exact absurd (if_neg e) z
  · have e := KX a o hk
    rw [at_a] at e
    cases e
    exact main (fun _ => none) (fun _ => .inl rfl) (.inr ⟨_, vs.toArray, _, hk, rfl, rfl, rfl, by rw [List.size_toArray, many]; exact few, by simpa using items⟩) (fun b u z => by cases z) fun b z => absurd rfl z
/-- what the head leaves, from the promise of the law's def -/
theorem walkG {l : PySem.W.OpenLaw} {n k : Nat} {q : Program} {loose : List Str} {XP : (Str → Option Value) → Heap → Prop} {YP : World → Heap → Prop} {d : DefRec} {K : Params → PySem.W.Frag} {sp : World → Sp} {x : Str} (most : l.most = some n) (small : n ≤ sizeLine) (nodef : d.params.defaults = []) (rm : Room k callerA)
    (inY : ∀ (w : World) (h : Heap), YP w h → (K w.params).In h)
    (F : ∀ (w : World) (mg : Str → Option Value) (fa : Addr) (h : Heap), (K w.params).In h → h.Ns mainGlobals mg → mg d.name = some (.ref fa) → ∃ fd : FuncData, (∀ (s : Shared) (u : Value), BindsTo s fd ⟨[u], []⟩ [(x, u)]) ∧ ∀ base : Heap, (K w.params).In base → base.Ns mainGlobals mg → FnG l.prog w (K w.params) mg base k fa fd [x] (sp w))
    (good : ∀ (w : World) (H : Hp) (a : Addr) (ns : List Int), ns.length ≤ n → Only H → SqL (K w.params) H a (ns.map V.int) → sp w [.ref a] H (fun v _ => v = .bl true) E0) : PySem.W.WalkO q loose XP YP l.row.toRowW d [] (fun f vs => PySem.call f vs) := by
  refine Att.attach_call most nodef fun w s0 s1 mg mb fa o pm cd doc a vs ns G Y ho hd hcd hmg hobj hints hlen hg => ?_
  obtain ⟨fd, bd, hF⟩ := F w mg fa _ (inY w _ Y) G.T.g hmg
  exact lawG (inY w _ Y) G.T.g G.T.b G.T.builtins G.T.nolimit hg hobj hints (Nat.le_trans hlen small) rm hF bd fun H hO hS => good w H a ns hlen hO hS
end Ek

/-! Ek4: calls, built-ins, slices, chains -/
namespace Ek
open PySem PySem.Spec PyProof.Rows L2
abbrev Fd := List W → MS → Option (W × MS)
/-- a def's promise by a plain function -/
def spOf (K : PySem.W.Frag) (n : Nat) (f : Fd) : Sp := fun vs H Q _ => ∃ Z φ M ws w M', Mem K Z H φ M ∧ RWs K (Fz Z φ M H) φ vs ws ∧ ws.length = n ∧ f ws M = some (w, M') ∧ PostE K Z φ M H w M' Q
theorem spOf_len {K : PySem.W.Frag} {n : Nat} {f : Fd} {vs : List V} {H : Hp} {Q : VK} {E : XK} (h : spOf K n f vs H Q E) : vs.length = n := by
  obtain ⟨Z, φ, M, ws, w, M', _, r, l, _⟩ := h
  rw [r.length]
  exact l
theorem spOf_imp {K : PySem.W.Frag} {n : Nat} {f g : Fd} (h : ∀ ws M r, ws.length = n → f ws M = some r → g ws M = some r) {vs : List V} {H : Hp} {Q : VK} {E : XK} (q : spOf K n f vs H Q E) : spOf K n g vs H Q E := by
  obtain ⟨Z, φ, M, ws, w, M', m, r, l, e, p⟩ := q
  exact ⟨Z, φ, M, ws, w, M', m, r, l, h _ _ _ l e, p⟩
def mCall (n : Nat) (f : Fd) (a : Sm (List W)) : Sm W := fun Δ M => match a Δ M with
  | some (ws, M1) => if ws.length = n then f ws M1 else none
  | none => none
section
variable {X : Cx} {a b c e : Expr} {es : List Expr} {p pos : Pos} {x : Str} {k : Nat} {f : Addr} {fd : FuncData} {ps : List Str} {n : Nat} {g : Fd} {ms : Sm (List W)}
theorem tCall_of {K : PySem.W.Frag} : ∀ σ H Q, tOf K (mCall n g ms) σ H Q → tOfA K ms σ H fun vs H1 => spOf K n g vs H1 Q E0 := by
  intro σ H Q ⟨Z, φ, Δ, M, w, M', R, h, q⟩
  unfold mCall at h
  split at h
  · rename_i ws M1 hx
    split at h
    · rename_i hl
      exact ⟨Z, φ, Δ, M, ws, M1, R, hx, fun vs φ1 H1 e1 m1 r1 => ⟨Z, φ1, M1, ws, w, M', m1, r1, hl, h, q.step e1⟩⟩
    · cases h
  · cases h
theorem pe_mcall (F : FnG X.prog X.w X.K X.mg X.base k f fd ps (spOf X.K n g)) (hr : Room k X.A) (hq : Quiet X.A) (hg : Gl X x) (hm : X.mg x = some (.ref f)) (hk : PySem.W.keepIn X.K (.ref f) = true) (hb : Binds X.K fd ps [])
    (ha : PA X (e :: es) (tOfA X.K ms)) (hdb : (x == ("__debug__" : Str)) = false) (he : starEach (e :: es) X.env = (false, eval e X.env) :: starEach es X.env) (hpl : (backTo pos (starEach es X.env)).any (·.1) = false) :
    PE X (.Call (.Name x p) (e :: es) [] pos) (tOf X.K (mCall n g ms)) :=
  pe_imp (peG F hr hq hg hm hk hb ha hdb he hpl) tCall_of
theorem pe_mcall0 (F : FnG X.prog X.w X.K X.mg X.base k f fd ps (spOf X.K n g)) (hr : Room k X.A) (hq : Quiet X.A) (hg : Gl X x) (hm : X.mg x = some (.ref f)) (hk : PySem.W.keepIn X.K (.ref f) = true) (hb : Binds X.K fd ps [])
    (hdb : (x == ("__debug__" : Str)) = false) : PE X (.Call (.Name x p) [] [] pos) (tOf X.K (mCall n g (mArgs []))) := by
  refine pe_imp (peG0 F hr hq hg hm hk hb hdb) fun σ H Q h => ?_
  obtain ⟨Z, φ, Δ, M, ws, M', R, h1, q⟩ := tCall_of σ H Q h
  cases h1
  exact q [] φ H Ext.refl R.mem .nil

/-! ### a def that a name holds is called -/
def mCallV (i : Nat) (fv : List Str) (tb : Str → Option (Nat × Fd)) (a : Sm (List W)) : Sm W := fun Δ M => match Δ[i]? with
  | some (some (.fn y)) => if fv.contains y = true then (match tb y with
    | some (n, g) => mCall n g a Δ M
    | none => none) else none
  | _ => none
theorem pe_mcallV {i : Nat} {fv : List Str} {tb : Str → Option (Nat × Fd)} (hN : X.N[i]? = some x) (hv : Vis X.env.scope x) (hdb : (x == ("__debug__" : Str)) = false) (hcd : (x == ("__classdict__" : Str)) = false) (hr : Room k X.A) (hq : Quiet X.A)
    (ht : ∀ y n g, fv.contains y = true → tb y = some (n, g) → ∃ a fd ps, PySem.W.nsIn X.K mainGlobals y = some (some (.ref a)) ∧ FnG X.prog X.w X.K X.mg X.base k a fd ps (spOf X.K n g) ∧ PySem.W.keepIn X.K (.ref a) = true ∧ Binds X.K fd ps [])
    (ha : PA X (e :: es) (tOfA X.K ms)) (he : starEach (e :: es) X.env = (false, eval e X.env) :: starEach es X.env) (hpl : (backTo pos (starEach es X.env)).any (·.1) = false) :
    PE X (.Call (.Name x p) (e :: es) [] pos) (tOf X.K (mCallV i fv tb ms)) := by
  refine ⟨fun pins s σ H Q I h => ?_⟩
  obtain ⟨Z, φ, Δ, M, w, M', R, h, q⟩ := h
  unfold mCallV at h
  split at h
  · rename_i y hy
    split at h
    · rename_i hf
      split at h
      · rename_i n g htb
        obtain ⟨a, fd, ps, hns, F, hk, hb⟩ := ht y n g hf htb
        obtain ⟨v, hv1, hv2⟩ := R.sl i _ hy
        obtain ⟨a', hns', rfl⟩ := hv2
        rw [hns] at hns'
        cases hns'
        refine wpAny_Call_Name_kw (thn ((pe_var hN hv hdb hcd).run pins s σ H (fun v H' => v = .ref a ∧ H' = H) I ⟨_, hv1, rfl, rfl⟩) fun u s1 ⟨v, H1, I1, rv, ev, eH⟩ => ?_)
        subst ev
        subst eH
        cases (show u = Value.ref a from rv)
        have h2 := tCall_of (n := n) (g := g) (ms := ms) σ H1 Q ⟨Z, φ, Δ, M, w, M', R, h, q⟩
        exact PySem.W.callWith_K (h₀ := X.base) I1.ok.mod.kin hk (thn (ha.run pos pins s1 σ H1 _ I1 h2) fun us s2 ⟨vs, H2, I2, v2, h3⟩ => ⟨I2.kIn, goG F hr hq hb I2 v2 h3⟩) he hpl
      · cases h
    · cases h
  · cases h
/-- a def as a value -/
def mFnV (y : Str) : Sm W := fun _ M => some (.fn y, M)
theorem pe_mfnv {a : Addr} (h : PE X e (tC (.ref a))) (hn : PySem.W.nsIn X.K mainGlobals x = some (some (.ref a))) : PE X e (tOf X.K (mFnV x)) := by
  refine pe_imp h fun σ H Q ⟨Z, φ, Δ, M, w, M', R, h, q⟩ => ?_
  cases h
  exact q _ φ H Ext.refl R.mem ⟨a, hn, rfl⟩
/-! ### built-ins by name -/
theorem pe_mcb {id : String} {r : List V → Hp → VK → Prop} (hd : FnD X.K r g) (hc : CallR X (.builtin id) r) (hg : Gl X x) (hm : X.mg x = none) (hv : bootBuiltins x = some (.builtin id)) (ha : PA X (e :: es) (tOfA X.K ms)) (hn : x ≠ "__name__") (hdb : (x == ("__debug__" : Str)) = false)
    (he : starEach (e :: es) X.env = (false, eval e X.env) :: starEach es X.env) (hpl : (backTo pos (starEach es X.env)).any (·.1) = false) : PE X (.Call (.Name x p) (e :: es) [] pos) (tOf X.K (mFn g ms)) := by
  refine pe_imp (pe_callB hc hg hm hv ha hn hdb he hpl) fun σ H Q ⟨Z, φ, Δ, M, w, M', R, h, q⟩ => ?_
  unfold mFn at h
  split at h
  · rename_i ws M1 hx
    exact ⟨Z, φ, Δ, M, ws, M1, R, hx, fun vs φ1 H1 e1 m1 r1 => hd Z φ1 M1 H1 vs ws w M' Q m1 r1 h (q.step e1)⟩
  · cases h
theorem pe_mct {T : String} {r : List V → Hp → VK → Prop} (hd : FnD X.K r g) (hc : CallR X (.type T) r) (hg : Gl X x) (hm : X.mg x = none) (hv : bootBuiltins x = some (.type T)) (ha : PA X (e :: es) (tOfA X.K ms)) (hn : x ≠ "__name__") (hdb : (x == ("__debug__" : Str)) = false)
    (he : starEach (e :: es) X.env = (false, eval e X.env) :: starEach es X.env) (hpl : (backTo pos (starEach es X.env)).any (·.1) = false) : PE X (.Call (.Name x p) (e :: es) [] pos) (tOf X.K (mFn g ms)) := by
  refine pe_imp (pe_callTy hc hg hm hv ha hn hdb he hpl) fun σ H Q ⟨Z, φ, Δ, M, w, M', R, h, q⟩ => ?_
  unfold mFn at h
  split at h
  · rename_i ws M1 hx
    exact ⟨Z, φ, Δ, M, ws, M1, R, hx, fun vs φ1 H1 e1 m1 r1 => hd Z φ1 M1 H1 vs ws w M' Q m1 r1 h (q.step e1)⟩
  · cases h
end
theorem rws1 {K : PySem.W.Frag} {F : Hp} {φ : List Addr} {vs : List V} {w : W} (r : RWs K F φ vs [w]) : ∃ v, vs = [v] ∧ RW K F φ v w := by
  cases r with
  | cons h t => cases t; exact ⟨_, rfl, h⟩
theorem rws2 {K : PySem.W.Frag} {F : Hp} {φ : List Addr} {vs : List V} {w w' : W} (r : RWs K F φ vs [w, w']) : ∃ v v', vs = [v, v'] ∧ RW K F φ v w ∧ RW K F φ v' w' := by
  cases r with
  | cons h t =>
    obtain ⟨v', rfl, h'⟩ := rws1 t
    exact ⟨_, _, rfl, h, h'⟩
/-! ### the built-ins, as plain functions -/
def bLen : Fd
  | [.d _ (.str s)], M => if s.length ≤ 1000000 then some (.d true (.int s.length), M) else none
  | [w], M => match rdQ w M with
    | some (_, xs) => some (.d true (.int xs.length), M)
    | none => none
  | _, _ => none
theorem bLen_ok {K : PySem.W.Frag} : FnD K (fun xs H Q => ∃ x n, xs = [x] ∧ LenV K x H n ∧ Q (.int n) H) bLen := by
  intro Z φ M H xs ws w M' Q m r h q
  unfold bLen at h
  split at h
  · split at h
    · rename_i hl
      cases h
      obtain ⟨v, rfl, rv⟩ := rws1 r
      cases rv
      exact ⟨_, _, rfl, ⟨Nat.le_trans hl (by decide), rfl⟩, q.same m (.int _)⟩
    · cases h
  · split at h
    · rename_i t ys hy
      cases h
      obtain ⟨v, rfl, rv⟩ := rws1 r
      obtain ⟨a, vs, rfl, ha, hd⟩ := rdQ_ok m rv hy
      rcases ha with ha | ha
      · exact ⟨_, ys.length, rfl, .inl ⟨vs, ha, (dpa_length hd).symm⟩, q.same m (.int _)⟩
      · exact ⟨_, ys.length, rfl, .inr ⟨vs, (tupU ha).sq, (dpa_length hd).symm⟩, q.same m (.int _)⟩
    · cases h
  · cases h
def bI1 (f : Int → Int) : Fd
  | [.d _ (.int i)], M => some (.d true (.int (f i)), M)
  | _, _ => none
def bI2 (f : Int → Int → Int) : Fd
  | [.d _ (.int i), .d _ (.int j)], M => some (.d true (.int (f i j)), M)
  | _, _ => none
theorem bI1_ok {K : PySem.W.Frag} {f : Int → Int} : FnD K (fun xs H Q => ∃ i, xs = [.int i] ∧ Q (.int (f i)) H) (bI1 f) := by
  intro Z φ M H xs ws w M' Q m r h q
  unfold bI1 at h
  split at h
  · cases h
    obtain ⟨v, rfl, rv⟩ := rws1 r
    cases rv
    exact ⟨_, rfl, q.same m (.int _)⟩
  · cases h
theorem bI2_ok {K : PySem.W.Frag} {f : Int → Int → Int} : FnD K (fun xs H Q => ∃ i j, xs = [.int i, .int j] ∧ Q (.int (f i j)) H) (bI2 f) := by
  intro Z φ M H xs ws w M' Q m r h q
  unfold bI2 at h
  split at h
  · cases h
    obtain ⟨v, u, rfl, rv, ru⟩ := rws2 r
    cases rv
    cases ru
    exact ⟨_, _, rfl, q.same m (.int _)⟩
  · cases h
def bAbs : Fd := bI1 fun i => if i < 0 then -i else i
def bMax : Fd := bI2 fun i j => if j > i then j else i
def bMin : Fd := bI2 fun i j => if j < i then j else i
def bInt : Fd
  | [.d _ (.int i)], M => some (.d true (.int i), M)
  | _, _ => none
theorem bInt_ok {K : PySem.W.Frag} : FnD K (fun xs H Q => (∃ i, xs = [.int i] ∧ Q (.int i) H) ∨ ∃ k, xs = [.bl k] ∧ Q (.int (if k then 1 else 0)) H) bInt := by
  intro Z φ M H xs ws w M' Q m r h q
  unfold bInt at h
  split at h
  · cases h
    obtain ⟨v, rfl, rv⟩ := rws1 r
    cases rv
    exact .inl ⟨_, rfl, q.same m (.int _)⟩
  · cases h
/-- ints of a list, bools of a list -/
def asInts : List PD → Option (List Int)
  | [] => some []
  | .int i :: r => match asInts r with
    | some l => some (i :: l)
    | none => none
  | _ => none
def asBools : List PD → Option (List Bool)
  | [] => some []
  | .bool i :: r => match asBools r with
    | some l => some (i :: l)
    | none => none
  | _ => none
theorem asInts_eq : ∀ {ds : List PD} {l : List Int}, asInts ds = some l → ds = l.map PyData.int
  | [], l, h => by cases h; rfl
  | .int i :: r, l, h => by
    unfold asInts at h
    split at h
    · rename_i l' hl
      cases h
      rw [asInts_eq hl]
      rfl
    · cases h
  | .none :: _, _, h => by cases h
  | .bool _ :: _, _, h => by cases h
  | .str _ :: _, _, h => by cases h
  | .list _ :: _, _, h => by cases h
  | .tuple _ :: _, _, h => by cases h
  | .dict _ :: _, _, h => by cases h
theorem asBools_eq : ∀ {ds : List PD} {l : List Bool}, asBools ds = some l → ds = l.map PyData.bool
  | [], l, h => by cases h; rfl
  | .bool i :: r, l, h => by
    unfold asBools at h
    split at h
    · rename_i l' hl
      cases h
      rw [asBools_eq hl]
      rfl
    · cases h
  | .none :: _, _, h => by cases h
  | .int _ :: _, _, h => by cases h
  | .str _ :: _, _, h => by cases h
  | .list _ :: _, _, h => by cases h
  | .tuple _ :: _, _, h => by cases h
  | .dict _ :: _, _, h => by cases h
theorem asInts_map : ∀ l : List Int, asInts (l.map PyData.int) = some l
  | [] => rfl
  | i :: r => by simp [asInts, asInts_map r]
theorem asBools_map : ∀ l : List Bool, asBools (l.map PyData.bool) = some l
  | [] => rfl
  | i :: r => by simp [asBools, asBools_map r]
theorem dq_ints {K : PySem.W.Frag} {H : Hp} : ∀ {l : List Int} {vs : List V}, DqAll K H vs (l.map PyData.int) → vs = l.map V.int
  | [], _, h => by cases h; rfl
  | i :: r, _, h => by
    cases h with
    | cons h1 h2 =>
      cases h1
      rw [dq_ints h2]
      rfl
theorem dq_bools {K : PySem.W.Frag} {H : Hp} : ∀ {l : List Bool} {vs : List V}, DqAll K H vs (l.map PyData.bool) → vs = l.map V.bl
  | [], _, h => by cases h; rfl
  | i :: r, _, h => by
    cases h with
    | cons h1 h2 =>
      cases h1
      rw [dq_bools h2]
      rfl
theorem ints_dq {K : PySem.W.Frag} {H : Hp} : ∀ l : List Int, DqAll K H (l.map V.int) (l.map PyData.int)
  | [] => .nil
  | i :: r => .cons (.int i) (ints_dq r)
def bSum : Fd
  | [w], M => match rdL w M with
    | some (_, xs) => (match asInts xs with
      | some l => some (.d true (.int l.sum), M)
      | none => none)
    | none => none
  | _, _ => none
theorem bSum_ok {K : PySem.W.Frag} : FnD K (rSum K) bSum := by
  intro Z φ M H xs ws w M' Q m r h q
  unfold bSum at h
  split at h
  · split at h
    · rename_i t ys hy
      split at h
      · rename_i l hl
        cases h
        obtain ⟨v, rfl, rv⟩ := rws1 r
        obtain ⟨a, vs, rfl, ha, hd⟩ := rdL_ok m rv hy
        rw [asInts_eq hl] at hd
        refine ⟨a, l, rfl, ?_, q.same m (.int _)⟩
        rw [← dq_ints hd]
        exact ha
      · cases h
    · cases h
  · cases h
def bBs (f : List Bool → Bool) : Fd
  | [w], M => match rdL w M with
    | some (_, xs) => (match asBools xs with
      | some l => some (.d true (.bool (f l)), M)
      | none => none)
    | none => none
  | _, _ => none
theorem bBs_ok {K : PySem.W.Frag} {f : List Bool → Bool} : FnD K (fun vs H Q => ∃ (a : Addr) (bs : List Bool), vs = [V.ref a] ∧ SqL K H a (bs.map V.bl) ∧ Q (.bl (f bs)) H) (bBs f) := by
  intro Z φ M H xs ws w M' Q m r h q
  unfold bBs at h
  split at h
  · split at h
    · rename_i t ys hy
      split at h
      · rename_i l hl
        cases h
        obtain ⟨v, rfl, rv⟩ := rws1 r
        obtain ⟨a, vs, rfl, ha, hd⟩ := rdL_ok m rv hy
        rw [asBools_eq hl] at hd
        refine ⟨a, l, rfl, ?_, q.same m (.bl _)⟩
        rw [← dq_bools hd]
        exact ha
      · cases h
    · cases h
  · cases h
def bAll : Fd := bBs fun bs => bs.all id
def bAny : Fd := bBs fun bs => bs.any id
def bTuple : Fd
  | [.d t (.tuple xs)], M => some (.d t (.tuple xs), M)
  | [w], M => match rdL w M with
    | some (t, xs) => some (.d t (.tuple xs), M)
    | none => none
  | _, _ => none
theorem bTuple_ok {K : PySem.W.Frag} : FnD K (fun xs H Q => ∃ p ys, xs = [.ref p] ∧ ((SqL K H p ys ∧ ∀ l, H l = none → Q (.ref l) (upd H l (.tup ys))) ∨ (SqT K H p ys ∧ Q (.ref p) H))) bTuple := by
  intro Z φ M H xs ws w M' Q m r h q
  unfold bTuple at h
  split at h
  · cases h
    obtain ⟨v, rfl, rv⟩ := rws1 r
    cases rv with
    | tup h1 h2 => exact ⟨_, _, rfl, .inr ⟨(tupU (sq_t fz_sub h1)).sq, q.same m (.tup h1 h2)⟩⟩
  · split at h
    · rename_i t ys hy
      cases h
      obtain ⟨v, rfl, rv⟩ := rws1 r
      obtain ⟨a, vs, rfl, ha, hd⟩ := rdL_ok m rv hy
      exact ⟨a, vs, rfl, .inl ⟨ha, q.newT m hd⟩⟩
    · cases h
  · cases h
def bList0 : Fd
  | [w], M => match rdQ w M with
    | some (t, xs) => some (.d t (.list xs), M)
    | none => none
  | _, _ => none
theorem bList0_ok {K : PySem.W.Frag} : FnD K (fun xs H Q => ∃ p ys, xs = [.ref p] ∧ (SqL K H p ys ∨ SqT K H p ys) ∧ ∀ l, H l = none → Q (.ref l) (upd H l (.lst ys))) bList0 := by
  intro Z φ M H xs ws w M' Q m r h q
  unfold bList0 at h
  split at h
  · split at h
    · rename_i t ys hy
      cases h
      obtain ⟨v, rfl, rv⟩ := rws1 r
      obtain ⟨a, vs, rfl, ha, hd⟩ := rdQ_ok m rv hy
      exact ⟨a, vs, rfl, ha.imp id (fun h => (tupU h).sq), q.newL m hd⟩
    · cases h
  · cases h
instance (i j : Int) : Decidable (CDiv i j) := by unfold CDiv; exact inferInstance
def bDivmod : Fd
  | [.d _ (.int i), .d _ (.int j)], M => if CDiv i j then some (.d true (.tuple [.int (i / j), .int (i % j)]), M) else none
  | _, _ => none
theorem bDivmod_ok {K : PySem.W.Frag} : FnD K (fun xs H Q => ∃ i j, xs = [.int i, .int j] ∧ CDiv i j ∧ ∀ p, H p = none → Q (.ref p) (upd H p (.tup [.int (i / j), .int (i % j)]))) bDivmod := by
  intro Z φ M H xs ws w M' Q m r h q
  unfold bDivmod at h
  split at h
  · split at h
    · rename_i hc
      cases h
      obtain ⟨v, u, rfl, rv, ru⟩ := rws2 r
      cases rv
      cases ru
      exact ⟨_, _, rfl, hc, q.newT m (.cons (.int _) (dpa_one (.int _)))⟩
    · cases h
  · cases h
/-! ### isinstance(e, T), T a built-in class by its name -/
def tyN : PD → String
  | .none => "NoneType"
  | .bool _ => "bool"
  | .int _ => "int"
  | .str _ => "str"
  | .list _ => "list"
  | .tuple _ => "tuple"
  | .dict _ => "dict"
/-- which of our classes a thing of the first kind is one of -/
def isiN (T : String) : PD → Option Bool
  | .none => if T = "tuple" ∨ T = "int" ∨ T = "bool" ∨ T = "str" ∨ T = "list" then some false else none
  | .bool _ => if T = "int" ∨ T = "bool" then some true else if T = "tuple" ∨ T = "str" ∨ T = "list" then some false else none
  | .int _ => if T = "int" then some true else if T = "tuple" ∨ T = "bool" ∨ T = "str" ∨ T = "list" then some false else none
  | .str _ => if T = "str" then some true else if T = "tuple" ∨ T = "bool" ∨ T = "int" ∨ T = "list" then some false else none
  | .list _ => if T = "list" then some true else if T = "tuple" ∨ T = "bool" ∨ T = "int" ∨ T = "str" then some false else none
  | .tuple _ => if T = "tuple" then some true else if T = "str" ∨ T = "bool" ∨ T = "int" ∨ T = "list" then some false else none
  | .dict _ => none
theorem isiN_ok {T : String} {d : PD} {b : Bool} (h : isiN T d = some b) : kitB (tyN d) T = some b := by
  have two : ∀ {P Q : Prop} [Decidable P] [Decidable Q] {b : Bool}, (if P then some true else if Q then some false else none) = some b → (P ∧ b = true) ∨ (Q ∧ b = false) := by
    intro P Q _ _ b h
    split at h
    · cases h; exact .inl ⟨by assumption, rfl⟩
    · split at h
      · cases h; exact .inr ⟨by assumption, rfl⟩
      · cases h
  cases d with
  | none =>
    simp only [isiN] at h
    split at h
    · cases h
      rename_i hh
      rcases hh with rfl | rfl | rfl | rfl | rfl <;> decide +kernel
    · cases h
  | bool k =>
    rcases two h with ⟨rfl | rfl, rfl⟩ | ⟨rfl | rfl | rfl, rfl⟩ <;> (simp only [tyN]; decide +kernel)
  | int k =>
    rcases two h with ⟨rfl, rfl⟩ | ⟨rfl | rfl | rfl | rfl, rfl⟩ <;> (simp only [tyN]; decide +kernel)
  | str k =>
    rcases two h with ⟨rfl, rfl⟩ | ⟨rfl | rfl | rfl | rfl, rfl⟩ <;> (simp only [tyN]; decide +kernel)
  | list k =>
    rcases two h with ⟨rfl, rfl⟩ | ⟨rfl | rfl | rfl | rfl, rfl⟩ <;> (simp only [tyN]; decide +kernel)
  | tuple k =>
    rcases two h with ⟨rfl, rfl⟩ | ⟨rfl | rfl | rfl | rfl, rfl⟩ <;> (simp only [tyN]; decide +kernel)
  | dict k => cases h
theorem tyX_of {K : PySem.W.Frag} {H : Hp} {v : V} {d : PD} (h : Dq K H v d) : TyX K H v (.type (tyN d)) := by
  cases h with
  | non => exact .base .non
  | bl b => exact .base (.bl b)
  | int i => exact .base (.int i)
  | str x => exact .base (.str x)
  | lst h1 h2 => exact .base (.lst h1)
  | tup h1 h2 =>
    rcases h1 with h1 | ⟨o, its, n, h1, h3, _⟩
    · exact .base (.tup h1)
    · exact .kTuple h1 h3
def gIsi (T : String) : W → MS → Option (W × MS) := fun w M => match rdD w M with
  | some d => (match isiN T d with
    | some b => some (.d true (.bool b), M)
    | none => none)
  | none => none
section
variable {X : Cx} {a b c e : Expr} {es : List Expr} {p p2 pos : Pos} {x : Str}
theorem pe_misi {T : String} {m : Sm W} (hg : Gl X "isinstance") (hm : X.mg "isinstance" = none) (ha : PE X e (tOf X.K m)) {y : Str} (hT : PE X (.Name y p2) (tC (.ty T)))
    (he : starEach [e, .Name y p2] X.env = (false, eval e X.env) :: starEach [.Name y p2] X.env) : PE X (.Call (.Name "isinstance" p) [e, .Name y p2] [] pos) (tOf X.K (mUn (gIsi T) m)) := by
  refine pe_imp (pe_callB call_isi hg hm (by decide +kernel) (pa_cons ha (pa_cons hT pa_nil) he) (by decide) (by decide) he) fun σ H Q ⟨Z, φ, Δ, M, w, M', R, h, q⟩ => ?_
  unfold mUn at h
  split at h
  · rename_i w1 M1 hx
    refine ⟨Z, φ, Δ, M, w1, M1, R, hx, fun v φ1 H1 e1 m1 r1 => ?_⟩
    unfold gIsi at h
    split at h
    · rename_i d hd
      split at h
      · rename_i b hb
        cases h
        exact ⟨v, .ty T, _, _, b, rfl, .ty T, tyX_of (rdD_ok m1 r1 hd), kit_ty (isiN_ok hb), q _ φ1 H1 e1 m1 (.bl _)⟩
      · cases h
    · cases h
  · cases h
/-! ### is None -/
theorem pe_mis {j p2} {m : Sm W} (ha : PE X a (tOf X.K m)) : PE X (.Compare a [.Is] [.Constant .none j p2] pos) (tOf X.K (mUn gIs m)) := by
  refine pe_imp (pe_cmp (pc_isN ha) (by rfl)) fun σ H Q ⟨Z, φ, Δ, M, w, M', R, h, q⟩ => ?_
  unfold mUn at h
  split at h
  · rename_i w1 M1 hx
    cases h
    refine ⟨Z, φ, Δ, M, w1, _, R, hx, fun v φ1 H1 e1 m1 r1 => ?_⟩
    show Q (V.bl (decide (v = V.non))) H1
    rw [isNon_ok r1]
    exact q _ φ1 H1 e1 m1 (.bl _)
  · cases h
theorem pe_misn {j p2} {m : Sm W} (ha : PE X a (tOf X.K m)) : PE X (.Compare a [.IsNot] [.Constant .none j p2] pos) (tOf X.K (mUn gIsN m)) := by
  refine pe_imp (pe_cmp (pc_notN ha) (by rfl)) fun σ H Q ⟨Z, φ, Δ, M, w, M', R, h, q⟩ => ?_
  unfold mUn at h
  split at h
  · rename_i w1 M1 hx
    cases h
    refine ⟨Z, φ, Δ, M, w1, _, R, hx, fun v φ1 H1 e1 m1 r1 => ?_⟩
    show Q (V.bl (!decide (v = V.non))) H1
    rw [isNon_ok r1]
    exact q _ φ1 H1 e1 m1 (.bl _)
  · cases h
/-! ### a < b < c -/
def mChain (g g' : W → W → MS → Option (W × MS)) (a b c : Sm W) : Sm W := fun Δ M => match a Δ M with
  | some (x, M1) => (match b Δ M1 with
    | some (y, M2) => (match g x y M2 with
      | some (.d _ (.bool k), M3) => if k = true then (match c Δ M3 with
          | some (z, M4) => g' y z M4
          | none => none) else some (.d true (.bool false), M3)
      | _ => none)
    | none => none)
  | none => none
theorem tChain_of {r r' : R2} {g g' : W → W → MS → Option (W × MS)} {ma mb mc : Sm W} {K : PySem.W.Frag} (hr : OpD K r g) (hr' : OpD K r' g') : ∀ σ H Q, tOf K (mChain g g' ma mb mc) σ H Q → tChain r r' (tOf K ma) (tOf K mb) (tOf K mc) σ H Q := by
  intro σ H Q ⟨Z, φ, Δ, M, w, M', R, h, q⟩
  unfold mChain at h
  split at h
  · rename_i x M1 hx
    split at h
    · rename_i y M2 hy
      split at h
      · rename_i t k M3 hk
        refine ⟨Z, φ, Δ, M, x, M1, R, hx, fun v φ1 H1 e1 m1 r1 => ?_⟩
        have R1 := R.step e1 m1
        refine ⟨Z, φ1, Δ, M1, y, M2, R1, hy, fun u φ2 H2 e2 m2 r2 => ?_⟩
        have R2 := R1.step e2 m2
        refine hr Z φ2 M2 H2 v u x y _ M3 _ m2 (r1.ext e2) r2 hk fun z φ3 H3 e3 m3 r3 => ?_
        cases r3
        refine ⟨k, rfl, ?_⟩
        cases k with
        | true =>
          simp only [if_true] at h ⊢
          split at h
          · rename_i z M4 hz
            refine ⟨Z, φ3, Δ, M3, z, M4, R2.step e3 m3, hz, fun t φ4 H4 e4 m4 r4 => ?_⟩
            exact hr' Z φ4 M4 H4 u t y z w M' Q m4 (r2.ext (e3.trans e4)) r4 h (q.step (((e1.trans e2).trans e3).trans e4))
          · cases h
        | false =>
          simp only [Bool.false_eq_true, if_false] at h ⊢
          cases h
          exact q _ φ3 H3 ((e1.trans e2).trans e3) m3 (.bl _)
      · cases h
    · cases h
  · cases h
end
end Ek

/-! Ek5: targets, what is walked, comprehensions -/
namespace Ek
open PySem PySem.Spec PyProof.Rows L2
section
variable {K : PySem.W.Frag} {Z : Addr → Prop} {σ σ' : L2.St} {H H' H1 H2 : Hp} {φ φ' φ1 φ2 : List Addr} {Δ Δ' : Sl} {M M' M1 M2 : MS} {D : Addr}
/-! ### hiding -/
def hid (Z : Addr → Prop) (D : Addr) : Addr → Prop := fun b => Z b ∨ b = D
/-- a new thing is hidden -/
theorem Mem.hide (m : Mem K Z H φ M) (hp : H D = none) (u : List V) : Fz (hid Z D) φ M (upd H D (.lst u)) = Fz Z φ M H ∧ Mem K (hid Z D) (upd H D (.lst u)) φ M := by
  obtain ⟨f1, f2, f3⟩ := m.fresh hp
  have hf : Fz (hid Z D) φ M (upd H D (.lst u)) = Fz Z φ M H := by
    funext b
    by_cases hb : b = D
    · subst hb
      unfold Fz
      rw [if_pos (.inl (.inr rfl)), if_neg (by rintro (z | z); exact f2 z; exact f3 z), hp]
    · unfold Fz
      rw [upd_ne hb, show hid Z D b = Z b from propext ⟨fun h => h.resolve_right hb, .inl⟩]
  refine ⟨hf, ⟨m.len, m.nd, fun z hz => ?_, fun z hz => ?_, fun i a o h1 h2 => ?_⟩⟩
  · by_cases hb : z = D
    · subst hb; exact ⟨u, upd_same⟩
    · obtain ⟨y, hy⟩ := m.zk z (hz.resolve_right hb)
      exact ⟨y, (upd_ne hb).trans hy⟩
  · rcases hz with hz | hz
    · exact m.zl z hz
    · subst hz; exact f3
  · rw [hf]
    have hb : a ≠ D := fun e => f1 (e ▸ List.mem_of_getElem? h1)
    exact objr_mono (same_refl _) (fun _ => upd_ne hb) (m.obj i a o h1 h2)
/-- a hidden thing is given another content -/
theorem Mem.turn (m : Mem K Z H φ M) (hz : Z D) (hd : ∀ i : Nat, φ[i]? ≠ some D) (u : List V) : Fz Z φ M (upd H D (.lst u)) = Fz Z φ M H ∧ Mem K Z (upd H D (.lst u)) φ M := by
  have hf : Fz Z φ M (upd H D (.lst u)) = Fz Z φ M H := by
    funext b
    by_cases hb : b = D
    · subst hb
      unfold Fz
      rw [if_pos (.inl hz), if_pos (.inl hz)]
    · unfold Fz
      rw [upd_ne hb]
  refine ⟨hf, ⟨m.len, m.nd, fun z hz' => ?_, m.zl, fun i a o h1 h2 => ?_⟩⟩
  · by_cases hb : z = D
    · subst hb; exact ⟨u, upd_same⟩
    · obtain ⟨y, hy⟩ := m.zk z hz'
      exact ⟨y, (upd_ne hb).trans hy⟩
  · rw [hf]
    have hb : a ≠ D := fun e => hd i (e ▸ h1)
    exact objr_mono (same_refl _) (fun _ => upd_ne hb) (m.obj i a o h1 h2)
/-- a hidden list comes forth as a live one -/
theorem Mem.unhide {t : Bool} {xs : List PD} {vs : List V} (m : Mem K (hid Z D) H φ M) (nz : ¬ Z D) (hd : ∀ i : Nat, φ[i]? ≠ some D) (hv : H D = some (.lst vs)) (hx : DqAll (kk t K) (Fz (hid Z D) φ M H) vs xs) :
    Fz Z (φ ++ [D]) (M ++ [.lst t xs]) H = Fz (hid Z D) φ M H ∧ Mem K Z H (φ ++ [D]) (M ++ [.lst t xs]) := by
  have nl : ¬ Lv φ M D := m.zl D (.inr rfl)
  have lp : Lv (φ ++ [D]) (M ++ [.lst t xs]) D := ⟨φ.length, .lst t xs, by simp, by rw [m.len]; simp, rfl⟩
  have lo : ∀ b, b ≠ D → (Lv (φ ++ [D]) (M ++ [.lst t xs]) b ↔ Lv φ M b) := fun b hb => by
    constructor
    · rintro ⟨i, x, h1, h2, h3⟩
      by_cases hi : i < φ.length
      · rw [List.getElem?_append_left hi] at h1
        rw [List.getElem?_append_left (by rw [← m.len]; exact hi)] at h2
        exact ⟨i, x, h1, h2, h3⟩
      · exfalso
        rw [List.getElem?_append_right (Nat.le_of_not_lt hi)] at h1
        cases hk : i - φ.length with
        | zero => rw [hk] at h1; simp at h1; exact hb h1.symm
        | succ k => rw [hk] at h1; simp at h1
    · rintro ⟨i, x, h1, h2, h3⟩
      have hi : i < φ.length := (List.getElem?_eq_some_iff.mp h1).1
      exact ⟨i, x, by rw [List.getElem?_append_left hi]; exact h1, by rw [List.getElem?_append_left (by rw [← m.len]; exact hi)]; exact h2, h3⟩
  have hf : Fz Z (φ ++ [D]) (M ++ [.lst t xs]) H = Fz (hid Z D) φ M H := by
    funext b
    by_cases hb : b = D
    · subst hb
      unfold Fz
      rw [if_pos (.inr lp), if_pos (.inl (.inr rfl))]
    · unfold Fz
      rw [show Lv (φ ++ [D]) (M ++ [.lst t xs]) b = Lv φ M b from propext (lo b hb), show hid Z D b = Z b from propext ⟨fun h => h.resolve_right hb, .inl⟩]
  refine ⟨hf, ⟨by simp [m.len], ?_, fun z hz => m.zk z (.inl hz), fun z hz => ?_, fun i b x h1 h2 => ?_⟩⟩
  · rw [List.nodup_append]
    refine ⟨m.nd, by simp, fun x hxm y hy e => ?_⟩
    rw [List.mem_singleton] at hy
    subst hy
    subst e
    obtain ⟨i, hi⟩ := List.getElem?_of_mem hxm
    exact hd i hi
  · have hb : z ≠ D := fun e => nz (e ▸ hz)
    rw [lo z hb]
    exact m.zl z (.inl hz)
  · rw [hf]
    by_cases hi : i < φ.length
    · rw [List.getElem?_append_left hi] at h1
      rw [List.getElem?_append_left (by rw [← m.len]; exact hi)] at h2
      exact m.obj i b x h1 h2
    · rw [List.getElem?_append_right (Nat.le_of_not_lt hi)] at h1
      rw [List.getElem?_append_right (by rw [← m.len]; exact Nat.le_of_not_lt hi), ← m.len] at h2
      cases hk : i - φ.length with
      | zero =>
        rw [hk] at h1 h2
        simp at h1 h2
        subst h1
        subst h2
        exact ⟨vs, hv, hx⟩
      | succ k => rw [hk] at h1; simp at h1

/-! ### targets -/
abbrev Tg := Bool → PD → Sl → Option Sl
abbrev Tgs := Bool → List PD → Sl → Option Sl
def gNm (i : Nat) : Tg := fun t x Δ => some (Δ.set i (some (.d (nf t x) x)))
def gsNil : Tgs
  | _, [], Δ => some Δ
  | _, _, _ => none
def gsCons (g : Tg) (r : Tgs) : Tgs
  | t, x :: xs, Δ => match g t x Δ with
    | some Δ1 => r t xs Δ1
    | none => none
  | _, _, _ => none
def gTp (r : Tgs) : Tg
  | t, .tuple xs, Δ => r t xs Δ
  | _, _, _ => none
/-- only these slots -/
def Only (S : List Nat) (σ σ' : L2.St) : Prop := σ'.length = σ.length ∧ ∀ j, j ∉ S → σ'[j]? = σ[j]?
def tOfG (K : PySem.W.Frag) (g : Tg) (S : List Nat) : TG := fun v σ H Q => ∃ Z φ Δ M t x Δ', Rep K Z σ H φ Δ M ∧ Dq (kk t K) (Fz Z φ M H) v x ∧ g t x Δ = some Δ' ∧ ∀ σ', Only S σ σ' → Rep K Z σ' H φ Δ' M → Q σ' H
def tOfGs (K : PySem.W.Frag) (g : Tgs) (S : List Nat) : TGs := fun vs σ H Q => ∃ Z φ Δ M t xs Δ', Rep K Z σ H φ Δ M ∧ DqAll (kk t K) (Fz Z φ M H) vs xs ∧ g t xs Δ = some Δ' ∧ ∀ σ', Only S σ σ' → Rep K Z σ' H φ Δ' M → Q σ' H
theorem Rep.set (R : Rep K Z σ H φ Δ M) (i : Nat) {v : V} {w : W} (h : RW K (Fz Z φ M H) φ v w) : Rep K Z (σ.set i (some v)) H φ (Δ.set i (some w)) M := by
  refine ⟨R.mem, by simp [R.len], fun j u hj => ?_⟩
  by_cases hij : i = j
  · subst hij
    by_cases hi : i < Δ.length
    · rw [List.getElem?_set_self hi] at hj
      cases hj
      exact ⟨v, by rw [List.getElem?_set_self (by rw [← R.len]; exact hi)], h⟩
    · rw [List.getElem?_eq_none (by simpa using hi)] at hj
      cases hj
  · rw [List.getElem?_set_ne hij] at hj
    obtain ⟨x, h1, h2⟩ := R.sl j u hj
    exact ⟨x, by rw [List.getElem?_set_ne hij]; exact h1, h2⟩
theorem only_set (σ : L2.St) (i : Nat) (v : Option V) : Only [i] σ (σ.set i v) := ⟨by simp, fun j hj => List.getElem?_set_ne (fun e => hj (by simp [e]))⟩
theorem Only.trans {S T : List Nat} {σ1 σ2 : L2.St} (a : Only S σ σ1) (b : Only T σ1 σ2) : Only (S ++ T) σ σ2 :=
  ⟨b.1.trans a.1, fun j hj => (b.2 j fun h => hj (List.mem_append_right _ h)).trans (a.2 j fun h => hj (List.mem_append_left _ h))⟩
end
section
variable {X : Cx} {pos : Pos}
theorem pg_imp {tg : Expr} {t t' : TG} (h : PG X tg t) (i : ∀ v σ H Q, t' v σ H Q → t v σ H Q) : PG X tg t' := ⟨fun pins s σ H v u Q I r q => h.run pins s σ H v u Q I r (i v σ H Q q)⟩
theorem pgs_imp {ts : List Expr} {t t' : TGs} (h : PGs X ts t) (i : ∀ v σ H Q, t' v σ H Q → t v σ H Q) : PGs X ts t' := ⟨fun pins s σ H v u Q I r q => h.run pins s σ H v u Q I r (i v σ H Q q)⟩
theorem pg_mnm {i : Nat} {x : Str} (hN : X.N.Nodup) (hi : X.N[i]? = some x) (hx : Loc X.env.scope x) (hf : X.fn x = true ∨ X.env.scope.names.lookup x = some .local) : PG X (.Name x pos) (tOfG X.K (gNm i) [i]) := by
  refine pg_imp (pg_name hN hi hx hf) fun v σ H Q ⟨Z, φ, Δ, M, t, d, Δ', R, hd, h, q⟩ => ?_
  cases h
  exact q _ (only_set σ i _) (R.set i (w := .d (nf t d) d) (dq_nf hd))
theorem pgs_mnil : PGs X [] (tOfGs X.K gsNil []) := by
  refine pgs_imp pgs_nil fun vs σ H Q ⟨Z, φ, Δ, M, t, ds, Δ', R, hd, h, q⟩ => ?_
  cases ds with
  | nil =>
    cases hd
    cases h
    exact ⟨rfl, q σ ⟨rfl, fun _ _ => rfl⟩ R⟩
  | cons d ds => cases h
theorem pgs_mcons {e : Expr} {es : List Expr} {g : Tg} {r : Tgs} {S T : List Nat} (h1 : PG X e (tOfG X.K g S)) (h2 : PGs X es (tOfGs X.K r T)) (hs : (assignEach (e :: es) X.env).map (·.2) = assign e X.env :: (assignEach es X.env).map (·.2)) :
    PGs X (e :: es) (tOfGs X.K (gsCons g r) (S ++ T)) := by
  refine pgs_imp (pgs_cons h1 h2 hs) fun vs σ H Q ⟨Z, φ, Δ, M, t, ds, Δ', R, hd, h, q⟩ => ?_
  cases ds with
  | nil => cases h
  | cons d ds =>
    cases hd with
    | cons d1 d2 =>
      simp only [gsCons] at h
      split at h
      · rename_i Δ1 hg
        refine ⟨_, _, rfl, Z, φ, Δ, M, t, d, Δ1, R, d1, hg, fun σ1 o1 R1 => ?_⟩
        exact ⟨Z, φ, Δ1, M, t, ds, Δ', R1, d2, h, fun σ2 o2 R2 => q σ2 (o1.trans o2) R2⟩
      · cases h
theorem pg_mtp {es : List Expr} {k : Nat} {r : Tgs} {S : List Nat} (hc : X.calm = true) (h : PGs X es (tOfGs X.K r S)) (hl : ∀ t xs Δ Δ', r t xs Δ = some Δ' → xs.length = es.length)
    (hn : (assignEach es X.env).length = es.length) (hst : (assignEach es X.env).findIdx? (·.1) = none) : PG X (.Tuple es k pos) (tOfG X.K (gTp r) S) := by
  refine pg_imp (pg_tup hc h hn hst) fun v σ H Q ⟨Z, φ, Δ, M, t, d, Δ', R, hd, h, q⟩ => ?_
  unfold gTp at h
  split at h
  · cases hd with
    | tup h1 h2 => exact ⟨_, _, rfl, (tupU (sq_t fz_sub h1)).sq, by rw [dpa_length h2]; exact hl _ _ _ _ h, Z, φ, Δ, M, _, _, Δ', R, h2, h, q⟩
  · cases h
end
/-! ### what is walked -/
def Walks (K : PySem.W.Frag) (t : Bool) (J : It) (F : Hp) (xs : List PD) : Prop := ∀ (Z : Addr → Prop) (φ : List Addr) (M : MS) (H : Hp), Mem K Z H φ M → Same F (Fz Z φ M H) →
  (∀ (i : Nat) (x : PD), xs[i]? = some x → J.go i H ∧ ∀ v H', J.yld i H v H' → Ext Z φ M H φ M H' ∧ Mem K Z H' φ M ∧ Dq (kk t K) (Fz Z φ M H') v x) ∧ (∀ i : Nat, xs.length ≤ i → J.stop i H)
def tOfI (K : PySem.W.Frag) (m : Sm (Bool × List PD)) : TI := fun σ H R => ∃ Z φ Δ M t xs M', Rep K Z σ H φ Δ M ∧ m Δ M = some ((t, xs), M') ∧ ∀ J φ' H', Ext Z φ M H φ' M' H' → Mem K Z H' φ' M' → Walks K t J (Fz Z φ' M' H') xs → R J H'
/-- what a list or tuple walks as; a list at a place stands still from here on -/
def fzQ : W → MS → Option ((Bool × List PD) × MS)
  | .d t (.tuple xs), M => some ((t, xs), M)
  | .d t (.list xs), M => some ((t, xs), M)
  | .loc n, M => match M[n]? with
    | some (.lst t xs) => some ((t, xs), M.set n (.fzn t xs))
    | some (.fzn t xs) => some ((t, xs), M)
    | some (.dT kvs) => some ((false, kvs.map Prod.fst), M.set n (.fdT kvs))
    | some (.fdT kvs) => some ((false, kvs.map Prod.fst), M)
    | _ => none
  | .s xs, M => some ((true, xs), M)
  | _, _ => none
def mItems (a : Sm W) : Sm (Bool × List PD) := fun Δ M => match a Δ M with
  | some (w, M1) => fzQ w M1
  | none => none
section
variable {K : PySem.W.Frag} {Z : Addr → Prop} {H : Hp} {φ : List Addr} {M M' : MS}
theorem rd_mono {F F' : Hp} {a : Addr} {u : HO} (e : Same F F') (h : Rd F a u) : Rd F' a u := h.elim (fun h => .inl (e _ _ h)) fun ⟨o, h⟩ => .inr ⟨o, e _ _ h⟩
theorem walks_l {t : Bool} {F : Hp} {a : Addr} {vs : List V} {xs : List PD} (ha : SqL K F a vs) (hd : DqAll (kk t K) F vs xs) : Walks K t (Itl K a) F xs := by
  intro Z φ M H m s
  have hs : SqL K H a vs := sq_l (same_tr s fz_sub) ha
  refine ⟨fun i x hx => ?_, fun i hi => ⟨vs, hs, by rw [dpa_length hd]; exact hi⟩⟩
  obtain ⟨v, hv, dv⟩ := dpa_getD hd hx
  refine ⟨⟨vs, v, hs, hv⟩, fun u H' ⟨e, hu⟩ => ?_⟩
  subst e
  have : u = v := Option.some.inj ((hu vs hs).symm.trans hv)
  subst this
  exact ⟨Ext.refl, m, dp_mono s _ dv⟩
theorem walks_t {t : Bool} {F : Hp} {a : Addr} {vs : List V} {xs : List PD} (ha : TupR K F a vs) (hd : DqAll (kk t K) F vs xs) : Walks K t (Itt K a) F xs := by
  intro Z φ M H m s
  have hs : SqT K H a vs := (sq_t (same_tr s fz_sub) ha).sq
  refine ⟨fun i x hx => ?_, fun i hi => ⟨vs, hs, by rw [dpa_length hd]; exact hi⟩⟩
  obtain ⟨v, hv, dv⟩ := dpa_getD hd hx
  refine ⟨⟨vs, v, hs, hv⟩, fun u H' ⟨e, hu⟩ => ?_⟩
  subst e
  have : u = v := Option.some.inj ((hu vs hs).symm.trans hv)
  subst this
  exact ⟨Ext.refl, m, dp_mono s _ dv⟩
def rangeD (lo : Int) (n : Nat) : List PD := (List.range n).map fun (i : Nat) => PyData.int (lo + (i : Int))
theorem walks_r {F : Hp} (lo : Int) (n : Nat) : Walks K true (Itr lo n) F (rangeD lo n) := by
  intro Z φ M H m s
  refine ⟨fun i x hx => ?_, fun i hi => by
    have : n ≤ i := by simpa [rangeD] using hi
    exact this⟩
  unfold rangeD at hx
  rw [List.getElem?_map] at hx
  by_cases hi : i < n
  · rw [List.getElem?_range hi] at hx
    cases hx
    refine ⟨hi, fun v H' ⟨e, ev⟩ => ?_⟩
    subst e
    subst ev
    exact ⟨Ext.refl, m, .int _⟩
  · rw [List.getElem?_eq_none (by simpa using hi)] at hx
    cases hx
end
def mRange1 (a : Sm (List W)) : Sm (Bool × List PD) := fun Δ M => match a Δ M with
  | some ([.d _ (.int j)], M1) => if -(2 ^ 62) ≤ j ∧ j < 2 ^ 62 then some ((true, rangeD 0 j.toNat), M1) else none
  | _ => none
def mRange2 (a : Sm (List W)) : Sm (Bool × List PD) := fun Δ M => match a Δ M with
  | some ([.d _ (.int i), .d _ (.int j)], M1) => if -(2 ^ 62) ≤ i ∧ i < 2 ^ 62 ∧ -(2 ^ 62) ≤ j ∧ j < 2 ^ 62 then some ((true, rangeD i (j - i).toNat), M1) else none
  | _ => none
section
variable {X : Cx} {tg l a b e : Expr} {p pos : Pos}
theorem pi_imp {w w' : TI} (h : PI X tg l w) (i : ∀ σ H R, w' σ H R → w σ H R) : PI X tg l w' := ⟨fun pins s σ H R I q => h.run pins s σ H R I (i σ H R q)⟩
theorem pi_or {w w' : TI} (h : PI X tg l w) (h' : PI X tg l w') : PI X tg l (fun σ H R => w σ H R ∨ w' σ H R) := ⟨fun pins s σ H R I q => q.elim (fun q => h.run pins s σ H R I q) fun q => h'.run pins s σ H R I q⟩
theorem pi_mrange1 {ms : Sm (List W)} (hg : Gl X "range") (hm : X.mg "range" = none) (ha : PA X [a] (tOfA X.K ms)) (hs : starEach [a] X.env = [(false, eval a X.env)]) : PI X tg (.Call (.Name "range" p) [a] [] pos) (tOfI X.K (mRange1 ms)) := by
  refine pi_imp (pi_range1 hg hm ha hs) fun σ H Q ⟨Z, φ, Δ, M, t, xs, M', R, h, q⟩ => ?_
  unfold mRange1 at h
  split at h
  · rename_i s j M1 hx
    split at h
    · rename_i hc
      cases h
      refine ⟨Z, φ, Δ, M, _, _, R, hx, fun vs φ1 H1 e1 m1 r1 => ?_⟩
      obtain ⟨v, rfl, rv⟩ := rws1 r1
      cases rv
      exact ⟨j, rfl, hc.1, hc.2, q _ φ1 H1 e1 m1 (walks_r 0 _)⟩
    · cases h
  · cases h
theorem pi_mrange2 {ms : Sm (List W)} (hg : Gl X "range") (hm : X.mg "range" = none) (ha : PA X [a, b] (tOfA X.K ms)) (hs : starEach [a, b] X.env = [(false, eval a X.env), (false, eval b X.env)]) (hs2 : starEach [b] X.env = [(false, eval b X.env)]) : PI X tg (.Call (.Name "range" p) [a, b] [] pos) (tOfI X.K (mRange2 ms)) := by
  refine pi_imp (pi_range2 hg hm ha hs hs2) fun σ H Q ⟨Z, φ, Δ, M, t, xs, M', R, h, q⟩ => ?_
  unfold mRange2 at h
  split at h
  · rename_i s i s2 j M1 hx
    split at h
    · rename_i hc
      cases h
      refine ⟨Z, φ, Δ, M, _, _, R, hx, fun vs φ1 H1 e1 m1 r1 => ?_⟩
      obtain ⟨v, u, rfl, rv, ru⟩ := rws2 r1
      cases rv
      cases ru
      exact ⟨i, j, rfl, hc, q _ φ1 H1 e1 m1 (walks_r i _)⟩
    · cases h
  · cases h
end
/-! ### comprehensions -/
def wipeD (Δ : Sl) : List Nat → Sl
  | [] => Δ
  | v :: vs => (wipeD Δ vs).set v none
theorem wipeD_length (Δ : Sl) : ∀ vs : List Nat, (wipeD Δ vs).length = Δ.length
  | [] => rfl
  | v :: vs => by unfold wipeD; rw [List.length_set, wipeD_length Δ vs]
theorem wipe_get {σ : L2.St} {j : Nat} : ∀ {vs : List Nat}, j ∉ vs → (wipe σ vs)[j]? = σ[j]?
  | [], _ => rfl
  | v :: vs, h => by
    unfold wipe
    rw [List.getElem?_set_ne (fun e => h (by simp [e]))]
    exact wipe_get fun z => h (List.mem_cons_of_mem _ z)
theorem wipe_in {σ : L2.St} {j : Nat} : ∀ {vs : List Nat}, j ∈ vs → j < σ.length → (wipe σ vs)[j]? = some none
  | v :: vs, h, hl => by
    unfold wipe
    by_cases e : v = j
    · subst e
      rw [List.getElem?_set_self (by rw [wipe_length]; exact hl)]
    · rw [List.getElem?_set_ne e]
      exact wipe_in ((List.mem_cons.mp h).resolve_left fun z => e z.symm) hl
theorem wipeD_get {Δ : Sl} {j : Nat} {w : W} : ∀ {vs : List Nat}, (wipeD Δ vs)[j]? = some (some w) → Δ[j]? = some (some w) ∧ j ∉ vs
  | [], h => ⟨h, by simp⟩
  | v :: vs, h => by
    unfold wipeD at h
    by_cases hi : v = j
    · subst hi
      by_cases hv : v < (wipeD Δ vs).length
      · rw [List.getElem?_set_self hv] at h; cases h
      · rw [List.getElem?_eq_none (by simpa using hv)] at h; cases h
    · rw [List.getElem?_set_ne hi] at h
      obtain ⟨h1, h2⟩ := wipeD_get h
      exact ⟨h1, by simp only [List.mem_cons, not_or]; exact ⟨fun e => hi e.symm, h2⟩⟩
theorem wipe_only {σ σ' : L2.St} {S vs : List Nat} (hS : ∀ i ∈ S, i ∈ vs) (o : Only S (wipe σ vs) σ') : wipe σ' vs = wipe σ vs := by
  apply List.ext_getElem?
  intro j
  have hl : σ'.length = σ.length := by rw [o.1, wipe_length]
  by_cases hj : j ∈ vs
  · by_cases hlt : j < σ.length
    · rw [wipe_in hj hlt, wipe_in hj (by rw [hl]; exact hlt)]
    · rw [List.getElem?_eq_none (by rw [wipe_length, hl]; exact Nat.le_of_not_lt hlt), List.getElem?_eq_none (by rw [wipe_length]; exact Nat.le_of_not_lt hlt)]
  · rw [wipe_get hj]
    exact o.2 j fun z => hj (hS j z)
theorem Rep.wipe {K : PySem.W.Frag} {Z : Addr → Prop} {σ : L2.St} {H : Hp} {φ : List Addr} {Δ : Sl} {M : MS} (R : Rep K Z σ H φ Δ M) (vs : List Nat) : Rep K Z (L2.wipe σ vs) H φ (wipeD Δ vs) M := by
  refine ⟨R.mem, by rw [wipeD_length, wipe_length]; exact R.len, fun j w h => ?_⟩
  obtain ⟨h1, h2⟩ := wipeD_get h
  obtain ⟨v, h3, h4⟩ := R.sl j w h1
  exact ⟨v, by rw [wipe_get h2]; exact h3, h4⟩
def tTrue : Sm Bool := fun _ M => some (true, M)
def lcGo (t : Bool) (g : Tg) (tt : Sm Bool) (te : Sm W) (Δ : Sl) : List PD → MS → Option ((Bool × List PD) × MS)
  | [], M => some ((true, []), M)
  | x :: xs, M => match g t x Δ with
    | some Δ1 => (match tt Δ1 M with
      | some (true, M1) => (match te Δ1 M1 with
        | some (w, M2) => (match fz1 w M2 with
          | some (s, y, M3) => (match lcGo t g tt te Δ xs M3 with
            | some ((r, ys), M4) => some ((s && r, y :: ys), M4)
            | none => none)
          | none => none)
        | none => none)
      | some (false, M1) => lcGo t g tt te Δ xs M1
      | none => none)
    | none => none
def mLc (it : Sm (Bool × List PD)) (g : Tg) (tt : Sm Bool) (te : Sm W) (vs : List Nat) : Sm (Bool × List PD) := fun Δ M => match it Δ M with
  | some ((t, xs), M1) => if xs.length ≤ 100000 then lcGo t g tt te (wipeD Δ vs) xs M1 else none
  | none => none
theorem tLc_of {K : PySem.W.Frag} {it : Sm (Bool × List PD)} {g : Tg} {S : List Nat} {tt : Sm Bool} {te : Sm W} {vs : List Nat} (hS : ∀ i ∈ S, i ∈ vs) :
    ∀ σ H Q, tOfN K (mLc it g tt te vs) σ H Q → tLc (tOfI K it) (tOfG K g S) (tOfT K tt) (tOf K te) vs σ H Q := by
  intro σ H Q ⟨Z, φ, Δ, M, tr, ys, M', R, h, q⟩
  unfold mLc at h
  split at h
  · rename_i tx xs M1 hx
    split at h
    · rename_i hlen
      refine ⟨Z, φ, Δ, M, tx, xs, M1, R, hx, fun J φ1 H1 e1 m1 wk D hD => ?_⟩
      have R1 := R.step e1 m1
      obtain ⟨fD1, fD2, fD3⟩ := m1.fresh hD
      refine ⟨fun i m H => m = xs.length - i ∧ i ≤ xs.length ∧ ∃ φi Mi accV ta acc tz rest, (∃ t, φi = φ1 ++ t) ∧ Mem K (hid Z D) H φi Mi ∧ (∀ a, a ∈ φi → a ∈ φ1 ∨ ¬ hid Z D a) ∧ H D = some (.lst accV) ∧ accV.length ≤ i ∧ DqAll (kk ta K) (Fz (hid Z D) φi Mi H) accV acc ∧
        lcGo tx g tt te (wipeD Δ vs) (xs.drop i) Mi = some ((tz, rest), M') ∧ tr = (ta && tz) ∧ ys = acc ++ rest ∧ Same (Fz Z φ1 M1 H1) (Fz (hid Z D) φi Mi H) ∧ (∀ z, Z z → H z = H1 z), ⟨xs.length, ?_⟩, ?_⟩
      · obtain ⟨hf, hm⟩ := m1.hide hD []
        refine ⟨rfl, Nat.zero_le _, φ1, M1, [], true, [], tr, ys, ⟨[], by simp⟩, hm, fun _ h => .inl h, upd_same, Nat.le_refl _, .nil, h, rfl, rfl, by rw [hf]; exact same_refl _, fun z hz => upd_ne fun e => fD2 (e ▸ hz)⟩
      · rintro i m H2 ⟨rfl, hi, φi, Mi, accV, ta, acc, tz, rest, ⟨t, ht⟩, mi, nD, hDv, hacc, dacc, hgo, htr, hys, sm, hz⟩
        have wi := wk (hid Z D) φi Mi H2 mi sm
        by_cases hlt : i < xs.length
        · have hxi : xs[i]? = some xs[i] := List.getElem?_eq_getElem hlt
          obtain ⟨go, yl⟩ := wi.1 i xs[i] hxi
          refine .inr ⟨go, fun H' => ∃ φi Mi accV ta acc tz rest, (∃ t, φi = φ1 ++ t) ∧ Mem K (hid Z D) H' φi Mi ∧ (∀ a, a ∈ φi → a ∈ φ1 ∨ ¬ hid Z D a) ∧ H' D = some (.lst accV) ∧ accV.length ≤ i + 1 ∧ DqAll (kk ta K) (Fz (hid Z D) φi Mi H') accV acc ∧
            lcGo tx g tt te (wipeD Δ vs) (xs.drop (i + 1)) Mi = some ((tz, rest), M') ∧ tr = (ta && tz) ∧ ys = acc ++ rest ∧ Same (Fz Z φ1 M1 H1) (Fz (hid Z D) φi Mi H') ∧ (∀ z, Z z → H' z = H1 z), fun H' hN => ⟨xs.length - (i + 1), by omega, rfl, hlt, hN⟩, fun v H' hy => ?_⟩
          obtain ⟨ey, my, dy⟩ := yl v H' hy
          rw [List.drop_eq_getElem_cons hlt] at hgo
          unfold lcGo at hgo
          -- the slots at this turn
          have Ri : Rep K (hid Z D) (L2.wipe σ vs) H' φi (wipeD Δ vs) Mi := by
            refine Rep.wipe ⟨my, R.len, fun j w hj => ?_⟩ vs
            obtain ⟨u, h1, h2⟩ := R1.sl j w hj
            exact ⟨u, h1, rw_mono (same_tr sm ey.fz) ⟨t, ht⟩ h2⟩
          split at hgo
          · rename_i Δ1 hg
            refine ⟨hid Z D, φi, wipeD Δ vs, Mi, tx, xs[i], Δ1, Ri, dy, hg, fun σ2 o2 R2 => ⟨wipe_only hS o2, ?_⟩⟩
            have hD' : H' D = some (.lst accV) := (ey.z D (.inr rfl)).trans hDv
            have dacc' := dpa_mono ey.fz _ dacc
            have sm' := same_tr sm ey.fz
            have hz' : ∀ z, Z z → H' z = H1 z := fun z zz => (ey.z z (.inl zz)).trans (hz z zz)
            split at hgo
            · rename_i M2 htt
              refine ⟨hid Z D, φi, Δ1, Mi, true, M2, R2, htt, fun φ3 H3 e3 m3 => ?_⟩
              simp only [if_true]
              split at hgo
              · rename_i w M3 hte
                split at hgo
                · rename_i ty y M4 hfz
                  split at hgo
                  · rename_i tq ys' M5 hrest
                    cases hgo
                    refine ⟨hid Z D, φ3, Δ1, M2, w, M3, R2.step e3 m3, hte, fun u φ4 H4 e4 m4 r4 => ?_⟩
                    obtain ⟨e5, m5, d5⟩ := fz1_ok m4 r4 hfz
                    have e35 := e3.trans (e4.trans e5)
                    obtain ⟨t3, ht3⟩ := e3.pre
                    obtain ⟨t4, ht4⟩ := e4.pre
                    have n4' : ∀ a, a ∈ φ4 → a ∈ φ1 ∨ ¬ hid Z D a := fun a ha => ((e3.trans e4).nz a ha).elim (nD a) .inr
                    have n4 : ∀ j : Nat, φ4[j]? ≠ some D := fun j hj => (n4' D (List.mem_of_getElem? hj)).elim fD1 fun z => z (.inr rfl)
                    have hD4 : H4 D = some (.lst accV) := ((e3.trans e4).z D (.inr rfl)).trans hD'
                    obtain ⟨hf, mt⟩ := m5.turn (D := D) (.inr rfl) n4 (accV ++ [u])
                    refine ⟨accV, hD4, Nat.lt_of_le_of_lt hacc (Nat.lt_of_lt_of_le hlt (Nat.le_trans hlen (by decide))), φ4, M4, accV ++ [u], ta && ty, acc ++ [y], tq, ys', ⟨t ++ t3 ++ t4, by rw [ht4, ht3, ht]; simp⟩, mt, n4', upd_same, by simp; omega, ?_, hrest, by rw [htr, Bool.and_assoc], by rw [hys]; simp, ?_, fun z zz => ?_⟩
                    · rw [hf]
                      exact dpa_append (kkLs _ (dpa_mono e35.fz _ dacc')) (dpa_one (kkR _ d5))
                    · rw [hf]
                      exact same_tr sm' e35.fz
                    · have hne : z ≠ D := fun e => fD2 (e ▸ zz)
                      rw [upd_ne hne]
                      exact ((e3.trans e4).z z (.inl zz)).trans (hz' z zz)
                  · cases hgo
                · cases hgo
              · cases hgo
            · rename_i M2 htt
              refine ⟨hid Z D, φi, Δ1, Mi, false, M2, R2, htt, fun φ3 H3 e3 m3 => ?_⟩
              simp only [Bool.false_eq_true, if_false]
              obtain ⟨t3, ht3⟩ := e3.pre
              refine ⟨φ3, M2, accV, ta, acc, tz, rest, ⟨t ++ t3, by rw [ht3, ht]; simp⟩, m3, fun a ha => (e3.nz a ha).elim (nD a) .inr, (e3.z D (.inr rfl)).trans hD', by omega, dpa_mono e3.fz _ dacc', hgo, htr, hys, same_tr sm' e3.fz, fun z zz => (e3.z z (.inl zz)).trans (hz' z zz)⟩
            · cases hgo
          · cases hgo
        · have e : i = xs.length := by omega
          subst e
          refine .inl ⟨wi.2 _ (Nat.le_refl _), ?_⟩
          rw [List.drop_length] at hgo
          cases hgo
          rw [List.append_nil] at hys
          rw [Bool.and_true] at htr
          subst hys
          subst htr
          have nD' : ∀ j : Nat, φi[j]? ≠ some D := fun j hj => (nD D (List.mem_of_getElem? hj)).elim fD1 fun z => z (.inr rfl)
          obtain ⟨hf, mu⟩ := mi.unhide fD2 nD' hDv dacc
          obtain ⟨t1, ht1⟩ := e1.pre
          refine q D φi H2 ⟨t1 ++ t, by rw [ht, ht1]; simp⟩ ⟨by rw [hf]; exact same_tr e1.fz sm, fun z zz => (hz z zz).trans (e1.z z zz), ⟨t1 ++ t ++ [D], by rw [ht, ht1]; simp⟩, fun a ha => ?_⟩ mu
          rcases List.mem_append.mp ha with ha | ha
          · exact (nD a ha).elim (e1.nz a) fun z => .inr fun zz => z (.inl zz)
          · rw [List.mem_singleton.mp ha]
            exact .inr fD2
    · cases h
  · cases h
end Ek

/-! Ek6: statements -/
namespace Ek
open PySem PySem.Spec PyProof.Rows L2
inductive Fl where
  | nx | rt (w : W) | bk | ct
abbrev Ss := Sl → MS → Option (Fl × Sl × MS)
def PostS (K : PySem.W.Frag) (Z : Addr → Prop) (φ : List Addr) (M : MS) (H : Hp) (D : Ends) (Δ' : Sl) (M' : MS) : Fl → Prop
  | .nx => ∀ σ' φ' H', Ext Z φ M H φ' M' H' → Rep K Z σ' H' φ' Δ' M' → D.nx σ' H'
  | .bk => ∀ σ' φ' H', Ext Z φ M H φ' M' H' → Rep K Z σ' H' φ' Δ' M' → D.bk σ' H'
  | .ct => ∀ σ' φ' H', Ext Z φ M H φ' M' H' → Rep K Z σ' H' φ' Δ' M' → D.ct σ' H'
  | .rt w => PostE K Z φ M H w M' D.rt
def tOfS (K : PySem.W.Frag) (m : Ss) : TS := fun D σ H => ∃ Z φ Δ M f Δ' M', Rep K Z σ H φ Δ M ∧ m Δ M = some (f, Δ', M') ∧ PostS K Z φ M H D Δ' M' f
section
variable {K : PySem.W.Frag} {Z : Addr → Prop} {φ φ1 : List Addr} {M M1 M' : MS} {H H1 : Hp} {D : Ends} {Δ' : Sl}
theorem PostS.step {f : Fl} (q : PostS K Z φ M H D Δ' M' f) (e : Ext Z φ M H φ1 M1 H1) : PostS K Z φ1 M1 H1 D Δ' M' f := by
  cases f with
  | nx => exact fun σ' φ' H' e' R => q σ' φ' H' (e.trans e') R
  | bk => exact fun σ' φ' H' e' R => q σ' φ' H' (e.trans e') R
  | ct => exact fun σ' φ' H' e' R => q σ' φ' H' (e.trans e') R
  | rt w => exact PostE.step q e
theorem PostS.ends {D' : Ends} {f : Fl} (q : PostS K Z φ M H D Δ' M' f) (h1 : f = .nx → D.nx = D'.nx) (h2 : D.rt = D'.rt) (h3 : D.bk = D'.bk) (h4 : D.ct = D'.ct) : PostS K Z φ M H D' Δ' M' f := by
  cases f with
  | nx => exact fun σ' φ' H' e' R => (h1 rfl) ▸ q σ' φ' H' e' R
  | bk => exact fun σ' φ' H' e' R => h3 ▸ q σ' φ' H' e' R
  | ct => exact fun σ' φ' H' e' R => h4 ▸ q σ' φ' H' e' R
  | rt w => exact fun v φ' H' e' m r => h2 ▸ q v φ' H' e' m r
end
/-! ### the data side -/
def sNo : Ss := fun _ _ => none
def sNext : Ss := fun Δ M => some (.nx, Δ, M)
def sBreak : Ss := fun Δ M => some (.bk, Δ, M)
def sCont : Ss := fun Δ M => some (.ct, Δ, M)
def sSeq (a b : Ss) : Ss := fun Δ M => match a Δ M with
  | some (.nx, Δ1, M1) => b Δ1 M1
  | some (.rt w, Δ1, M1) => some (.rt w, Δ1, M1)
  | some (.bk, Δ1, M1) => some (.bk, Δ1, M1)
  | some (.ct, Δ1, M1) => some (.ct, Δ1, M1)
  | none => none
/-- return e: a list at a place is let go | handed on -/
def sRet (e : Sm W) : Ss := fun Δ M => match e Δ M with
  | some (w, M1) => (match fz1 w M1 with
    | some (t, x, M2) => some (.rt (.d t x), Δ, M2)
    | none => none)
  | none => none
def sRetW (e : Sm W) : Ss := fun Δ M => match e Δ M with
  | some (w, M1) => some (.rt w, Δ, M1)
  | none => none
def sRetN : Ss := fun Δ M => some (.rt (.d true .none), Δ, M)
def sDrop (e : Sm W) : Ss := fun Δ M => match e Δ M with
  | some (_, M1) => some (.nx, Δ, M1)
  | none => none
def sIf (c : Sm Bool) (a b : Ss) : Ss := fun Δ M => match c Δ M with
  | some (k, M1) => if k = true then a Δ M1 else b Δ M1
  | none => none
def sSet (i : Nat) (e : Sm W) : Ss := fun Δ M => match e Δ M with
  | some (w, M1) => some (.nx, Δ.set i (some w), M1)
  | none => none
/-- targets that take a value apart -/
def sAsg (g : Tg) (e : Sm W) : Ss := fun Δ M => match e Δ M with
  | some (w, M1) => (match fz1 w M1 with
    | some (t, x, M2) => (match g t x Δ with
      | some Δ1 => some (.nx, Δ1, M2)
      | none => none)
    | none => none)
  | none => none
def sPar (i j : Nat) (a : Sm (List W)) : Ss := fun Δ M => match a Δ M with
  | some ([u, v], M1) => some (.nx, (Δ.set i (some u)).set j (some v), M1)
  | _ => none
def sPar3 (i j k : Nat) (a : Sm (List W)) : Ss := fun Δ M => match a Δ M with
  | some ([u, v, w], M1) => some (.nx, ((Δ.set i (some u)).set j (some v)).set k (some w), M1)
  | _ => none
def forGo (t : Bool) (g : Tg) (b : Ss) : List PD → Sl → MS → Option (Fl × Sl × MS)
  | [], Δ, M => some (.nx, Δ, M)
  | x :: xs, Δ, M => match g t x Δ with
    | some Δ1 => (match b Δ1 M with
      | some (.nx, Δ2, M2) => forGo t g b xs Δ2 M2
      | some (.ct, Δ2, M2) => forGo t g b xs Δ2 M2
      | some (.bk, Δ2, M2) => some (.nx, Δ2, M2)
      | some (.rt w, Δ2, M2) => some (.rt w, Δ2, M2)
      | none => none)
    | none => none
def sFor (it : Sm (Bool × List PD)) (g : Tg) (b : Ss) : Ss := fun Δ M => match it Δ M with
  | some ((t, xs), M1) => forGo t g b xs Δ M1
  | none => none
def whileN (c : Sm Bool) (b : Ss) : Nat → Ss
  | 0, _, _ => none
  | n + 1, Δ, M => match c Δ M with
    | some (true, M1) => (match b Δ M1 with
      | some (.nx, Δ2, M2) => whileN c b n Δ2 M2
      | some (.ct, Δ2, M2) => whileN c b n Δ2 M2
      | some (.bk, Δ2, M2) => some (.nx, Δ2, M2)
      | some (.rt w, Δ2, M2) => some (.rt w, Δ2, M2)
      | none => none)
    | some (false, M1) => some (.nx, Δ, M1)
    | none => none
theorem whileN_more (c : Sm Bool) (b : Ss) : ∀ (n : Nat) (Δ : Sl) (M : MS) (r : Fl × Sl × MS), whileN c b n Δ M = some r → whileN c b (n + 1) Δ M = some r
  | 0, _, _, _, h => by cases h
  | n + 1, Δ, M, r, h => by
    unfold whileN at h ⊢
    split at h
    · split at h
      · exact whileN_more c b n _ _ r h
      · exact whileN_more c b n _ _ r h
      · exact h
      · exact h
      · exact h
    · exact h
    · exact h
theorem whileN_le (c : Sm Bool) (b : Ss) {n m : Nat} (h : n ≤ m) {Δ : Sl} {M : MS} {r : Fl × Sl × MS} (q : whileN c b n Δ M = some r) : whileN c b m Δ M = some r := by
  induction h with
  | refl => exact q
  | step _ ih => exact whileN_more c b _ _ _ _ ih
open Classical in
noncomputable def sWhile (c : Sm Bool) (b : Ss) : Ss := fun Δ M => if h : ∃ n, (whileN c b n Δ M).isSome = true then whileN c b h.choose Δ M else none
theorem sWhile_of {c : Sm Bool} {b : Ss} {n : Nat} {Δ : Sl} {M : MS} {r : Fl × Sl × MS} (h : whileN c b n Δ M = some r) : sWhile c b Δ M = some r := by
  have he : ∃ n, (whileN c b n Δ M).isSome = true := ⟨n, by rw [h]; rfl⟩
  unfold sWhile
  rw [dif_pos he]
  obtain ⟨r', hr⟩ := Option.isSome_iff_exists.mp he.choose_spec
  have h1 := whileN_le c b (Nat.le_max_left n he.choose) h
  have h2 := whileN_le c b (Nat.le_max_right n he.choose) hr
  rw [hr, ← h2, h1]
theorem of_sWhile {c : Sm Bool} {b : Ss} {Δ : Sl} {M : MS} {r : Fl × Sl × MS} (h : sWhile c b Δ M = some r) : ∃ n, whileN c b n Δ M = some r := by
  unfold sWhile at h
  split at h
  · exact ⟨_, h⟩
  · cases h
section
variable {X : Cx} {a b c e : Expr} {st : Stmt} {sts : List Stmt} {pos : Pos}
theorem ps_imp {t t' : TS} (h : PS X st t) (i : ∀ D σ H, t' D σ H → t D σ H) : PS X st t' := ⟨fun pins s σ H D I q => h.run pins s σ H D I (i D σ H q)⟩
theorem pss_imp {t t' : TS} (h : PSs X sts t) (i : ∀ D σ H, t' D σ H → t D σ H) : PSs X sts t' := ⟨fun pins s σ H D I q => h.run pins s σ H D I (i D σ H q)⟩
theorem ps_no : PS X st (tOfS X.K sNo) := ⟨fun pins s σ H D I ⟨_, _, _, _, _, _, _, _, h, _⟩ => by cases h⟩
theorem pss_mnil : PSs X [] (tOfS X.K sNext) := by
  refine pss_imp pss_nil fun D σ H ⟨Z, φ, Δ, M, f, Δ', M', R, h, q⟩ => ?_
  cases h
  exact q σ φ H Ext.refl R
theorem pss_mcons {m n : Ss} (h1 : PS X st (tOfS X.K m)) (h2 : PSs X sts (tOfS X.K n)) : PSs X (st :: sts) (tOfS X.K (sSeq m n)) := by
  refine pss_imp (pss_cons h1 h2) fun D σ H ⟨Z, φ, Δ, M, f, Δ', M', R, h, q⟩ => ?_
  unfold sSeq at h
  split at h
  · rename_i Δ1 M1 hm
    exact ⟨Z, φ, Δ, M, _, Δ1, M1, R, hm, fun σ1 φ1 H1 e1 R1 => ⟨Z, φ1, Δ1, M1, f, Δ', M', R1, h, q.step e1⟩⟩
  · rename_i w Δ1 M1 hm
    cases h
    exact ⟨Z, φ, Δ, M, _, Δ', M', R, hm, q⟩
  · rename_i Δ1 M1 hm
    cases h
    exact ⟨Z, φ, Δ, M, _, Δ', M', R, hm, q⟩
  · rename_i Δ1 M1 hm
    cases h
    exact ⟨Z, φ, Δ, M, _, Δ', M', R, hm, q⟩
  · cases h
theorem ps_mpass : PS X (.Pass pos) (tOfS X.K sNext) := ps_imp ps_pass fun D σ H ⟨Z, φ, Δ, M, f, Δ', M', R, h, q⟩ => by cases h; exact q σ φ H Ext.refl R
theorem ps_mbreak : PS X (.Break pos) (tOfS X.K sBreak) := ps_imp ps_break fun D σ H ⟨Z, φ, Δ, M, f, Δ', M', R, h, q⟩ => by cases h; exact q σ φ H Ext.refl R
theorem ps_mcont : PS X (.Continue pos) (tOfS X.K sCont) := ps_imp ps_continue fun D σ H ⟨Z, φ, Δ, M, f, Δ', M', R, h, q⟩ => by cases h; exact q σ φ H Ext.refl R
theorem ps_mretN : PS X (.Return none pos) (tOfS X.K sRetN) := ps_imp ps_retN fun D σ H ⟨Z, φ, Δ, M, f, Δ', M', R, h, q⟩ => by cases h; exact q _ φ H Ext.refl R.mem .non
theorem ps_mret {m : Sm W} (he : PE X e (tOf X.K m)) : PS X (.Return (some e) pos) (tOfS X.K (sRet m)) := by
  refine ps_imp (ps_ret he) fun D σ H ⟨Z, φ, Δ, M, f, Δ', M', R, h, q⟩ => ?_
  unfold sRet at h
  split at h
  · rename_i w M1 hm
    split at h
    · rename_i t x M2 hf
      cases h
      refine ⟨Z, φ, Δ, M, w, M1, R, hm, fun v φ1 H1 e1 m1 r1 => ?_⟩
      obtain ⟨e2, m2, d2⟩ := fz1_ok m1 r1 hf
      exact q v φ1 H1 (e1.trans e2) m2 d2
    · cases h
  · cases h
theorem ps_mretW {m : Sm W} (he : PE X e (tOf X.K m)) : PS X (.Return (some e) pos) (tOfS X.K (sRetW m)) := by
  refine ps_imp (ps_ret he) fun D σ H ⟨Z, φ, Δ, M, f, Δ', M', R, h, q⟩ => ?_
  unfold sRetW at h
  split at h
  · rename_i w M1 hm
    cases h
    exact ⟨Z, φ, Δ, M, w, _, R, hm, q⟩
  · cases h
theorem ps_mdrop {m : Sm W} (he : PE X e (tOf X.K m)) (hs : swapsWith e none pos.line X.env = pure false) : PS X (.Expr e pos) (tOfS X.K (sDrop m)) := by
  refine ps_imp (ps_expr he hs) fun D σ H ⟨Z, φ, Δ, M, f, Δ', M', R, h, q⟩ => ?_
  unfold sDrop at h
  split at h
  · rename_i w M1 hm
    cases h
    exact ⟨Z, φ, Δ, M, w, _, R, hm, fun v φ1 H1 e1 m1 r1 => q σ φ1 H1 e1 (R.step e1 m1)⟩
  · cases h
theorem ps_mif {A B : List Stmt} {mc : Sm Bool} {m n : Ss} (hc : PT X c (tOfT X.K mc)) (ha : PSs X A (tOfS X.K m)) (hb : PSs X B (tOfS X.K n)) : PS X (.If c A B pos) (tOfS X.K (sIf mc m n)) := by
  refine ps_imp (ps_if hc ha hb) fun D σ H ⟨Z, φ, Δ, M, f, Δ', M', R, h, q⟩ => ?_
  unfold sIf at h
  split at h
  · rename_i k M1 hm
    refine ⟨Z, φ, Δ, M, k, M1, R, hm, fun φ1 H1 e1 m1 => ?_⟩
    cases k with
    | true =>
      simp only [if_true] at h ⊢
      exact ⟨Z, φ1, Δ, M1, f, Δ', M', R.step e1 m1, h, q.step e1⟩
    | false =>
      simp only [Bool.false_eq_true, if_false] at h ⊢
      exact ⟨Z, φ1, Δ, M1, f, Δ', M', R.step e1 m1, h, q.step e1⟩
  · cases h
theorem tSet_of {K : PySem.W.Frag} {i : Nat} {m : Sm W} : ∀ D σ H, tOfS K (sSet i m) D σ H → tAsg (tOf K m) (gName i) D σ H := by
  intro D σ H ⟨Z, φ, Δ, M, f, Δ', M', R, h, q⟩
  unfold sSet at h
  split at h
  · rename_i w M1 hm
    cases h
    exact ⟨Z, φ, Δ, M, w, _, R, hm, fun v φ1 H1 e1 m1 r1 => q _ φ1 H1 e1 ((R.step e1 m1).set i r1)⟩
  · cases h
theorem tAsg_of {K : PySem.W.Frag} {g : Tg} {S : List Nat} {m : Sm W} : ∀ D σ H, tOfS K (sAsg g m) D σ H → tAsg (tOf K m) (tOfG K g S) D σ H := by
  intro D σ H ⟨Z, φ, Δ, M, f, Δ', M', R, h, q⟩
  unfold sAsg at h
  split at h
  · rename_i w M1 hm
    split at h
    · rename_i t x M2 hf
      split at h
      · rename_i Δ1 hg
        cases h
        refine ⟨Z, φ, Δ, M, w, M1, R, hm, fun v φ1 H1 e1 m1 r1 => ?_⟩
        obtain ⟨e2, m2, d2⟩ := fz1_ok m1 r1 hf
        exact ⟨Z, φ1, Δ, _, t, x, _, R.step (e1.trans e2) m2, d2, hg, fun σ' _ R' => q σ' φ1 H1 (e1.trans e2) R'⟩
      · cases h
    · cases h
  · cases h
theorem tPar_of {K : PySem.W.Frag} {i j : Nat} {m : Sm (List W)} : ∀ D σ H, tOfS K (sPar i j m) D σ H → tPar i j (tOfA K m) D σ H := by
  intro D σ H ⟨Z, φ, Δ, M, f, Δ', M', R, h, q⟩
  unfold sPar at h
  split at h
  · rename_i u v M1 hm
    cases h
    refine ⟨Z, φ, Δ, M, _, _, R, hm, fun vs φ1 H1 e1 m1 r1 => ?_⟩
    obtain ⟨x, y, rfl, rx, ry⟩ := rws2 r1
    exact ⟨x, y, rfl, q _ φ1 H1 e1 (((R.step e1 m1).set i rx).set j ry)⟩
  · cases h
theorem tPar3_of {K : PySem.W.Frag} {i j k : Nat} {m : Sm (List W)} : ∀ D σ H, tOfS K (sPar3 i j k m) D σ H → tPar3 i j k (tOfA K m) D σ H := by
  intro D σ H ⟨Z, φ, Δ, M, f, Δ', M', R, h, q⟩
  unfold sPar3 at h
  split at h
  · rename_i u v w M1 hm
    cases h
    refine ⟨Z, φ, Δ, M, _, _, R, hm, fun vs φ1 H1 e1 m1 r1 => ?_⟩
    cases r1 with
    | cons rx r1 =>
      obtain ⟨y, z, rfl, ry, rz⟩ := rws2 r1
      exact ⟨_, y, z, rfl, q _ φ1 H1 e1 ((((R.step e1 m1).set i rx).set j ry).set k rz)⟩
  · cases h
theorem tFor_of {K : PySem.W.Frag} {it : Sm (Bool × List PD)} {g : Tg} {S : List Nat} {b : Ss} : ∀ D σ H, tOfS K (sFor it g b) D σ H → tFor (tOfI K it) (tOfG K g S) (tOfS K b) D σ H := by
  intro D σ H ⟨Z, φ, Δ, M, f, Δ', M', R, h, q⟩
  unfold sFor at h
  split at h
  · rename_i tx xs M1 hx
    refine ⟨Z, φ, Δ, M, tx, xs, M1, R, hx, fun J φ1 H1 e1 m1 wk => ?_⟩
    refine ⟨fun i m σ2 H2 => m = xs.length - i ∧ i ≤ xs.length ∧ ∃ φ2 Δ2 M2, Rep K Z σ2 H2 φ2 Δ2 M2 ∧ Ext Z φ1 M1 H1 φ2 M2 H2 ∧ forGo tx g b (xs.drop i) Δ2 M2 = some (f, Δ', M'),
      ⟨xs.length, rfl, Nat.zero_le _, φ1, Δ, M1, R.step e1 m1, Ext.refl, h⟩, ?_⟩
    rintro i m σ2 H2 ⟨rfl, hi, φ2, Δ2, M2, R2, e2, hgo⟩
    have w2 := wk Z φ2 M2 H2 R2.mem e2.fz
    by_cases hlt : i < xs.length
    · have hxi : xs[i]? = some xs[i] := List.getElem?_eq_getElem hlt
      obtain ⟨go, yl⟩ := w2.1 i xs[i] hxi
      rw [List.drop_eq_getElem_cons hlt] at hgo
      unfold forGo at hgo
      refine .inr ⟨go, fun σ3 H3 => ∃ φ3 Δ3 M3, Rep K Z σ3 H3 φ3 Δ3 M3 ∧ Ext Z φ1 M1 H1 φ3 M3 H3 ∧ forGo tx g b (xs.drop (i + 1)) Δ3 M3 = some (f, Δ', M'), fun σ3 H3 hN => ⟨xs.length - (i + 1), by omega, rfl, hlt, hN⟩, fun v H3 hy => ?_⟩
      obtain ⟨ey, my, dy⟩ := yl v H3 hy
      split at hgo
      · rename_i Δ3 hg
        refine ⟨Z, φ2, Δ2, M2, tx, xs[i], Δ3, R2.step ey my, dy, hg, fun σ4 _ R4 => ?_⟩
        split at hgo
        · rename_i Δ5 M5 hb
          exact ⟨Z, φ2, Δ3, M2, _, Δ5, M5, R4, hb, fun σ5 φ5 H5 e5 R5 => ⟨φ5, Δ5, M5, R5, (e2.trans ey).trans e5, hgo⟩⟩
        · rename_i Δ5 M5 hb
          exact ⟨Z, φ2, Δ3, M2, _, Δ5, M5, R4, hb, fun σ5 φ5 H5 e5 R5 => ⟨φ5, Δ5, M5, R5, (e2.trans ey).trans e5, hgo⟩⟩
        · rename_i Δ5 M5 hb
          cases hgo
          exact ⟨Z, φ2, Δ3, M2, _, _, _, R4, hb, fun σ5 φ5 H5 e5 R5 => q σ5 φ5 H5 (((e1.trans e2).trans ey).trans e5) R5⟩
        · rename_i w Δ5 M5 hb
          cases hgo
          exact ⟨Z, φ2, Δ3, M2, _, _, _, R4, hb, fun v5 φ5 H5 e5 m5 r5 => q v5 φ5 H5 (((e1.trans e2).trans ey).trans e5) m5 r5⟩
        · cases hgo
      · cases hgo
    · have ei : i = xs.length := by omega
      subst ei
      rw [List.drop_length] at hgo
      cases hgo
      exact .inl ⟨w2.2 _ (Nat.le_refl _), q σ2 φ2 H2 (e1.trans e2) R2⟩
  · cases h
theorem tWhile_of {K : PySem.W.Frag} {c : Sm Bool} {b : Ss} : ∀ D σ H, tOfS K (sWhile c b) D σ H → tWhile (tOfT K c) (tOfS K b) D σ H := by
  intro D σ H ⟨Z, φ, Δ, M, f, Δ', M', R, h, q⟩
  obtain ⟨n, hn⟩ := of_sWhile h
  refine ⟨fun m σ2 H2 => ∃ φ2 Δ2 M2, Rep K Z σ2 H2 φ2 Δ2 M2 ∧ Ext Z φ M H φ2 M2 H2 ∧ whileN c b m Δ2 M2 = some (f, Δ', M'), ⟨n, φ, Δ, M, R, Ext.refl, hn⟩, ?_⟩
  rintro m σ2 H2 ⟨φ2, Δ2, M2, R2, e2, hw⟩
  cases m with
  | zero => cases hw
  | succ m =>
    unfold whileN at hw
    split at hw
    · rename_i M3 hc
      refine ⟨Z, φ2, Δ2, M2, true, M3, R2, hc, fun φ3 H3 e3 m3 => ?_⟩
      simp only [if_true]
      refine ⟨fun σ4 H4 => ∃ φ4 Δ4 M4, Rep K Z σ4 H4 φ4 Δ4 M4 ∧ Ext Z φ M H φ4 M4 H4 ∧ whileN c b m Δ4 M4 = some (f, Δ', M'), fun σ4 H4 hN => ⟨m, Nat.lt_succ_self m, hN⟩, ?_⟩
      have R3 := R2.step e3 m3
      split at hw
      · rename_i Δ5 M5 hb
        exact ⟨Z, φ3, Δ2, M3, _, Δ5, M5, R3, hb, fun σ5 φ5 H5 e5 R5 => ⟨φ5, Δ5, M5, R5, (e2.trans e3).trans e5, hw⟩⟩
      · rename_i Δ5 M5 hb
        exact ⟨Z, φ3, Δ2, M3, _, Δ5, M5, R3, hb, fun σ5 φ5 H5 e5 R5 => ⟨φ5, Δ5, M5, R5, (e2.trans e3).trans e5, hw⟩⟩
      · rename_i Δ5 M5 hb
        cases hw
        exact ⟨Z, φ3, Δ2, M3, _, _, _, R3, hb, fun σ5 φ5 H5 e5 R5 => q σ5 φ5 H5 ((e2.trans e3).trans e5) R5⟩
      · rename_i w Δ5 M5 hb
        cases hw
        exact ⟨Z, φ3, Δ2, M3, _, _, _, R3, hb, fun v5 φ5 H5 e5 m5 r5 => q v5 φ5 H5 ((e2.trans e3).trans e5) m5 r5⟩
      · cases hw
    · rename_i M3 hc
      cases hw
      refine ⟨Z, φ2, _, M2, false, _, R2, hc, fun φ3 H3 e3 m3 => ?_⟩
      simp only [Bool.false_eq_true, if_false]
      exact q σ2 φ3 H3 (e2.trans e3) (R2.step e3 m3)
    · cases hw
end
end Ek

/-! Ek7: further operations: slices, append, items stored; keywords -/
namespace Ek
open PySem PySem.Spec PyProof.Rows L2
/-! ### slices -/
def cutD (xs : List PD) (lo hi : Option Int) : List PD := (xs.drop (HT.sIx xs.length 0 lo)).take (HT.sIx xs.length xs.length hi - HT.sIx xs.length 0 lo)
theorem cut_dq {K : PySem.W.Frag} {H : Hp} {vs : List V} {ds : List PD} (h : DqAll K H vs ds) (lo hi : Option Int) : DqAll K H (cutV vs lo hi) (cutD ds lo hi) := by
  unfold cutV cutD
  rw [dpa_length h]
  exact dpa_take _ (dpa_drop _ h)
theorem cut_all {xs : List PD} {lo hi : Option Int} (h : HT.sIx xs.length 0 lo = 0 ∧ HT.sIx xs.length xs.length hi = xs.length) : cutD xs lo hi = xs := by
  unfold cutD
  rw [h.1, h.2]
  simp
/-- an end of a slice -/
def mPart : Option (Sm W) → Sm (Option Int)
  | none => fun _ M => some (none, M)
  | some m => fun Δ M => match m Δ M with
    | some (.d _ (.int i), M1) => some (some i, M1)
    | _ => none
def mSl (a : Sm W) (l h : Sm (Option Int)) : Sm W := fun Δ M => match a Δ M with
  | some (w, M1) => (match l Δ M1 with
    | some (lo, M2) => (match h Δ M2 with
      | some (hi, M3) => (match w with
        | .d t (.tuple xs) => some (.d t (.tuple (cutD xs lo hi)), M3)
        | _ => (match rdL w M3 with
          | some (t, xs) => some (.d t (.list (cutD xs lo hi)), M3)
          | none => none))
      | none => none)
    | none => none)
  | none => none
def mRev (a : Sm W) : Sm W := fun Δ M => match a Δ M with
  | some (w, M1) => (match rdL w M1 with
    | some (t, xs) => some (.d t (.list xs.reverse), M1)
    | none => none)
  | none => none
def tOfO (K : PySem.W.Frag) (m : Sm (Option Int)) : TO := fun σ H Q => ∃ Z φ Δ M o M', Rep K Z σ H φ Δ M ∧ m Δ M = some (o, M') ∧ ∀ φ' H', Ext Z φ M H φ' M' H' → Mem K Z H' φ' M' → Q o H'
theorem dpa_rev {K : PySem.W.Frag} {H : Hp} : ∀ {vs : List V} {ds : List PD}, DqAll K H vs ds → DqAll K H vs.reverse ds.reverse
  | _, [], h => by cases h; exact .nil
  | _, d :: ds, h => by
    cases h with
    | cons h1 h2 =>
      rw [List.reverse_cons, List.reverse_cons]
      exact dpa_append (dpa_rev h2) (dpa_one h1)
section
variable {X : Cx} {a b c e o : Expr} {es : List Expr} {p p1 p2 p3 pos : Pos} {x : Str}
theorem po_imp {oe : Option Expr} {t t' : TO} (h : PO X oe t) (i : ∀ σ H Q, t' σ H Q → t σ H Q) : PO X oe t' := ⟨fun pins s σ H Q I q => h.run pins s σ H Q I (i σ H Q q)⟩
theorem po_mnone : PO X none (tOfO X.K (mPart none)) := po_imp po_none fun σ H Q ⟨Z, φ, Δ, M, o, M', R, h, q⟩ => by cases h; exact q φ H Ext.refl R.mem
theorem po_msome {m : Sm W} (h : PE X e (tOf X.K m)) : PO X (some e) (tOfO X.K (mPart (some m))) := by
  refine po_imp (po_some h) fun σ H Q ⟨Z, φ, Δ, M, o, M', R, h, q⟩ => ?_
  simp only [mPart] at h
  split at h
  · rename_i t i M1 hx
    cases h
    refine ⟨Z, φ, Δ, M, _, _, R, hx, fun v φ1 H1 e1 m1 r1 => ?_⟩
    cases r1
    exact ⟨i, rfl, q φ1 H1 e1 m1⟩
  · cases h
theorem pe_msl {m : Sm W} {l h : Sm (Option Int)} {lo hi : Option Expr} (he : PE X e (tOf X.K m)) (hl : PO X lo (tOfO X.K l)) (hh : PO X hi (tOfO X.K h)) : PE X (.Subscript e (.Slice lo hi none p2) pos) (tOf X.K (mSl m l h)) := by
  refine pe_imp (pe_slice (sl_tupA.or sl_list) he hl hh) fun σ H Q ⟨Z, φ, Δ, M, w, M', R, h, q⟩ => ?_
  unfold mSl at h
  split at h
  · rename_i w1 M1 hx
    split at h
    · rename_i lo' M2 hlo
      split at h
      · rename_i hi' M3 hhi
        refine ⟨Z, φ, Δ, M, w1, M1, R, hx, fun v φ1 H1 e1 m1 r1 => ?_⟩
        have R1 := R.step e1 m1
        refine ⟨Z, φ1, Δ, M1, lo', M2, R1, hlo, fun φ2 H2 e2 m2 => ?_⟩
        have R2 := R1.step e2 m2
        refine ⟨Z, φ2, Δ, M2, hi', M3, R2, hhi, fun φ3 H3 e3 m3 => ?_⟩
        have r3 := r1.ext (e2.trans e3)
        have q3 := q.step ((e1.trans e2).trans e3)
        split at h
        · cases h
          cases r3 with
          | tup h1 h2 => exact .inl ⟨_, _, rfl, (tupU (sq_t fz_sub h1)).sq, fun hw => q3.same m3 (by
              rw [cut_all (by rw [← dpa_length h2]; exact hw)]
              exact .tup h1 h2), fun _ => q3.newT m3 (cut_dq h2 _ _)⟩
        · split at h
          · rename_i t xs hr
            cases h
            obtain ⟨a, vs, rfl, ha, hd⟩ := rdL_ok m3 r3 hr
            exact .inr ⟨a, vs, rfl, ha, q3.newL m3 (cut_dq hd _ _)⟩
          · cases h
      · cases h
    · cases h
  · cases h
theorem pe_mrev {m : Sm W} {k : Nat} (he : PE X e (tOf X.K m)) : PE X (.Subscript e (.Slice none none (some (.UnaryOp .USub (.Constant (.int 1) k p1) p2)) p3) pos) (tOf X.K (mRev m)) := by
  refine pe_imp (pe_revL he) fun σ H Q ⟨Z, φ, Δ, M, w, M', R, h, q⟩ => ?_
  unfold mRev at h
  split at h
  · rename_i w1 M1 hx
    split at h
    · rename_i t xs hr
      cases h
      refine ⟨Z, φ, Δ, M, w1, _, R, hx, fun v φ1 H1 e1 m1 r1 => ?_⟩
      obtain ⟨a, vs, rfl, ha, hd⟩ := rdL_ok m1 r1 hr
      exact ⟨a, vs, rfl, ha, (q.step e1).newL m1 (dpa_rev hd)⟩
    · cases h
  · cases h
/-! ### append -/
def mApp (o : Sm W) (e : Sm W) : Sm W := fun Δ M => match o Δ M with
  | some (.loc n, M1) => (match M1[n]? with
    | some (.lst _ _) => (match e Δ M1 with
      | some (w, M2) => (match fz1 w M2 with
        | some (s, x, M3) => (match M3[n]? with
          | some (.lst t xs) => if xs.length ≤ 100000 then some (.d true .none, M3.set n (.lst (t && s) (xs ++ [x]))) else none
          | _ => none)
        | none => none)
      | none => none)
    | _ => none)
  | _ => none
theorem pe_mapp {m n : Sm W} {apos cpos : Pos} (ho : PE X o (tOf X.K m)) (he : PE X e (tOf X.K n)) (hbase : attributeBase o "append" X.env (eval o X.env) = eval o X.env) (hs : starEach [e] X.env = [(false, eval e X.env)])
    (hline : (apos.endLine == cpos.line) = true) : PE X (.Call (.Attribute o "append" apos) [e] [] cpos) (tOf X.K (mApp m n)) := by
  have ha : PA X [e] (tOfA X.K (mArgs [n])) := pa_mcons he pa_mnil hs
  refine pe_imp (pe_bm PySem.F.plainAttrs_list PySem.F.slot_list_append PySem.F.type_list_append mt_append ho ha hbase (by rw [hs]; rfl) hline hs rfl) fun σ H Q ⟨Z, φ, Δ, M, w, M', R, h, q⟩ => ?_
  unfold mApp at h
  split at h
  · rename_i k M1 hx
    split at h
    · rename_i t0 xs0 h0
      split at h
      · rename_i w2 M2 hy
        split at h
        · rename_i s y M3 hf
          split at h
          · rename_i t xs hn
            split at h
            · rename_i hl
              cases h
              refine ⟨Z, φ, Δ, M, _, M1, R, hx, fun v φ1 H1 e1 m1 r1 => ?_⟩
              obtain ⟨a, ha1, rfl⟩ := r1
              obtain ⟨vs0, hv0, _⟩ := m1.obj k a _ ha1 h0
              refine ⟨.inl ⟨rfl, vs0, .inl (.inl hv0)⟩, Z, φ1, Δ, M1, [w2], M2, R.step e1 m1, by simp only [mArgs, hy], fun us φ2 H2 e2 m2 r2 => ?_⟩
              obtain ⟨u, rfl, ru⟩ := rws1 r2
              obtain ⟨e3, m3, d3⟩ := fz1_ok m2 ru hf
              obtain ⟨tl, htl⟩ := e2.pre
              have ha2 : φ2[k]? = some a := by
                rw [htl, List.getElem?_append_left (List.getElem?_eq_some_iff.mp ha1).1]
                exact ha1
              obtain ⟨vs, hv, hd⟩ := m3.obj k a _ ha2 hn
              refine ⟨a, vs, u, rfl, rfl, hv, by rw [dpa_length hd]; exact Nat.lt_of_le_of_lt hl (by decide), ?_⟩
              obtain ⟨e4, m4, f4⟩ := m3.put (o' := .lst (t && s) (xs ++ [y])) (u := .lst (vs ++ [u])) ha2 hn rfl rfl ⟨_, upd_same, dpa_append (kkLs s hd) (dpa_one (kkR t d3))⟩
              exact q _ φ2 _ (((e1.trans e2).trans e3).trans e4) m4 .non
            · cases h
          · cases h
        · cases h
      · cases h
    · cases h
  · cases h
/-! ### xs[i] = e -/
def setAt (n : Nat) (i : Int) (s : Bool) (x : PD) (M : MS) : Option MS := match M[n]? with
  | some (.lst t xs) => (match ixN xs.length i with
    | some j => some (M.set n (.lst (t && s) (xs.set j x)))
    | none => none)
  | _ => none
theorem setAt_ok {K : PySem.W.Frag} {Z : Addr → Prop} {H : Hp} {φ : List Addr} {M M' : MS} {n : Nat} {i : Int} {s : Bool} {x : PD} {v : V} {a : Addr} {Q : Hp → Prop} (m : Mem K Z H φ M) (ha : φ[n]? = some a) (hd : Dq (kk s K) (Fz Z φ M H) v x) (h : setAt n i s x M = some M')
    (q : ∀ H', Ext Z φ M H φ M' H' → Mem K Z H' φ M' → Q H') : rSetL (.ref a) (.int i) v H Q := by
  unfold setAt at h
  split at h
  · rename_i t xs hn
    split at h
    · rename_i j hj
      cases h
      obtain ⟨vs, hv, hd2⟩ := m.obj n a _ ha hn
      obtain ⟨e4, m4, f4⟩ := m.put (o' := .lst (t && s) (xs.set j x)) (u := .lst (vs.set j v)) ha hn rfl rfl ⟨_, upd_same, dpa_set (kkR t hd) j (kkLs s hd2)⟩
      exact ⟨a, vs, i, j, rfl, rfl, hv, by rw [dpa_length hd2]; exact hj, q _ e4 m4⟩
    · cases h
  · cases h
def sSub0 (o i e : Sm W) : Ss := fun Δ M => match e Δ M with
  | some (w, M1) => (match fz1 w M1 with
    | some (s, x, M2) => (match o Δ M2 with
      | some (.loc n, M3) => (match i Δ M3 with
        | some (.d _ (.int k), M4) => (match setAt n k s x M4 with
          | some M5 => some (.nx, Δ, M5)
          | none => none)
        | _ => none)
      | _ => none)
    | none => none)
  | none => none
theorem ps_msub0 {mo mi me : Sm W} {i : Expr} {tpos : Pos} (ho : PE X o (tOf X.K mo)) (hi : PE X i (tOf X.K mi)) (he : PE X e (tOf X.K me)) (hg : ∀ {to ti : TE}, PE X o to → PE X i ti → PG X (.Subscript o i tpos) (L2.gSub to ti rSetL))
    (hs : swapsWithSole [.Subscript o i tpos] e pos.line X.env = pure false) (hw : swappedStores [.Subscript o i tpos] e X.env = pure none) : PS X (.Assign [.Subscript o i tpos] e pos) (tOfS X.K (sSub0 mo mi me)) := by
  refine ps_imp (ps_asg he (hg ho hi) hs hw rfl) fun D σ H ⟨Z, φ, Δ, M, f, Δ', M', R, h, q⟩ => ?_
  unfold sSub0 at h
  split at h
  · rename_i w M1 hx
    split at h
    · rename_i s x M2 hf
      split at h
      · rename_i n M3 hn
        split at h
        · rename_i t k M4 hk
          split at h
          · rename_i M5 h5
            cases h
            refine ⟨Z, φ, Δ, M, w, M1, R, hx, fun v φ1 H1 e1 m1 r1 => ?_⟩
            obtain ⟨e2, m2, d2⟩ := fz1_ok m1 r1 hf
            have R2 := R.step (e1.trans e2) m2
            refine ⟨Z, φ1, Δ, M2, _, M3, R2, hn, fun u φ3 H3 e3 m3 r3 => ?_⟩
            obtain ⟨a, ha, rfl⟩ := r3
            refine ⟨Z, φ3, Δ, M3, _, M4, R2.step e3 m3, hk, fun z φ4 H4 e4 m4 r4 => ?_⟩
            cases r4
            obtain ⟨tl, htl⟩ := e4.pre
            have ha4 : φ4[n]? = some a := by
              rw [htl, List.getElem?_append_left (List.getElem?_eq_some_iff.mp ha).1]
              exact ha
            refine setAt_ok m4 ha4 (dp_mono (e3.trans e4).fz _ d2) h5 fun H5 e5 m5 => ?_
            have e := (((e1.trans e2).trans e3).trans e4).trans e5
            exact q σ φ4 H5 e (R.step e m5)
          · cases h
        · cases h
      · cases h
    · cases h
  · cases h
/-! ### o[i], x = e -/
def sSubNm (o i : Sm W) (j : Nat) (e : Sm W) : Ss := fun Δ M => match e Δ M with
  | some (.d t (.tuple [x, y]), M1) => (match o Δ M1 with
    | some (.loc n, M3) => (match i Δ M3 with
      | some (.d _ (.int k), M4) => (match setAt n k t x M4 with
        | some M5 => some (.nx, Δ.set j (some (.d (nf t y) y)), M5)
        | none => none)
      | _ => none)
    | _ => none)
  | _ => none
theorem ps_msubnm {mo mi me : Sm W} {i : Expr} {tg : Expr} {n : Nat} (ho : PE X o (tOf X.K mo)) (hi : PE X i (tOf X.K mi)) (he : PE X e (tOf X.K me)) (hg : ∀ {to ti : TE}, PE X o to → PE X i ti → PG X tg (gTup X.K 2 (gCons (L2.gSub to ti rSetL) (gCons (gName n) gNil))))
    (hs : swapsWithSole [tg] e pos.line X.env = pure false) (hw : swappedStores [tg] e X.env = pure none) (h1 : (assignEach [tg] X.env).map (·.2) = [assign tg X.env]) : PS X (.Assign [tg] e pos) (tOfS X.K (sSubNm mo mi n me)) := by
  refine ps_imp (ps_asg he (hg ho hi) hs hw h1) fun D σ H ⟨Z, φ, Δ, M, f, Δ', M', R, h, q⟩ => ?_
  unfold sSubNm at h
  split at h
  · rename_i t x y M1 hx
    split at h
    · rename_i n M3 hn
      split at h
      · rename_i t k M4 hk
        split at h
        · rename_i M5 h5
          cases h
          refine ⟨Z, φ, Δ, M, _, M1, R, hx, fun v φ1 H1 e1 m1 r1 => ?_⟩
          cases r1 with
          | tup ht hd =>
            cases hd with
            | cons dx hd =>
              cases hd with
              | cons dy hd =>
                cases hd
                refine ⟨_, _, rfl, (tupU (sq_t fz_sub ht)).sq, rfl, _, _, rfl, ?_⟩
                have R1 := R.step e1 m1
                refine ⟨Z, φ1, Δ, M1, _, M3, R1, hn, fun u φ3 H3 e3 m3 r3 => ?_⟩
                obtain ⟨a, ha, rfl⟩ := r3
                refine ⟨Z, φ3, Δ, M3, _, M4, R1.step e3 m3, hk, fun z φ4 H4 e4 m4 r4 => ?_⟩
                cases r4
                obtain ⟨tl, htl⟩ := e4.pre
                have ha4 : φ4[n]? = some a := by
                  rw [htl, List.getElem?_append_left (List.getElem?_eq_some_iff.mp ha).1]
                  exact ha
                refine setAt_ok m4 ha4 (dp_mono (e3.trans e4).fz _ dx) h5 fun H5 e5 m5 => ?_
                have e := ((e1.trans e3).trans e4).trans e5
                refine ⟨_, _, rfl, rfl, q _ φ4 H5 e ((R.step e m5).set _ (w := .d _ y) (dq_nf (dp_mono ((e3.trans e4).trans e5).fz _ dy)))⟩
        · cases h
      · cases h
    · cases h
  · cases h
/-! ### keywords -/
theorem pk_imp {kws : List Keyword} {t t' : TA} (h : PK X kws t) (i : ∀ σ H Q, t' σ H Q → t σ H Q) : PK X kws t' := ⟨fun pos pins s σ H Q I q => h.run pos pins s σ H Q I (i σ H Q q)⟩
theorem pk_mnil : PK X [] (tOfA X.K (mArgs [])) := by
  refine pk_imp pk_nil fun σ H Q ⟨Z, φ, Δ, M, w, M', R, h, q⟩ => ?_
  cases h
  exact q [] φ H Ext.refl R.mem .nil
theorem pk_mcons {m : Sm W} {ms : List (Sm W)} {kws : List Keyword} {nm : Option Str} {kpos : Pos} (ha : PE X e (tOf X.K m)) (hr : PK X kws (tOfA X.K (mArgs ms))) : PK X (⟨nm, e, kpos⟩ :: kws) (tOfA X.K (mArgs (m :: ms))) := by
  refine pk_imp (pk_cons ha hr) fun σ H Q ⟨Z, φ, Δ, M, w, M', R, h, q⟩ => ?_
  unfold mArgs at h
  split at h
  · rename_i x M1 hx
    split at h
    · rename_i xs M2 hxs
      cases h
      refine ⟨Z, φ, Δ, M, x, M1, R, hx, fun v φ1 H1 e1 m1 r1 => ?_⟩
      exact ⟨Z, φ1, Δ, M1, xs, M', R.step e1 m1, hxs, fun vs φ2 H2 e2 m2 r2 => q _ φ2 H2 (e1.trans e2) m2 (.cons (r1.ext e2) r2)⟩
    · cases h
  · cases h
/-- the places of the parameters behind the given ones, by the keywords' places -/
def pick {α : Type} (pm : List Nat) (zs : List α) : List α := pm.filterMap fun i => zs[i]?
def pickK {α : Type} (n0 nk : Nat) (pm : List Nat) (us zs : List α) : List α := if us.length = n0 ∧ zs.length = nk then us ++ pick pm zs else []
def mCallK (n n0 nk : Nat) (pm : List Nat) (f : Fd) (a k : Sm (List W)) : Sm W := fun Δ M => match a Δ M with
  | some (ws, M1) => (match k Δ M1 with
    | some (zs, M2) => if (pickK n0 nk pm ws zs).length = n then f (pickK n0 nk pm ws zs) M2 else none
    | none => none)
  | none => none
theorem rws_append {K : PySem.W.Frag} {F : Hp} {φ : List Addr} : ∀ {vs us : List V} {ws zs : List W}, RWs K F φ vs ws → RWs K F φ us zs → RWs K F φ (vs ++ us) (ws ++ zs)
  | _, _, _, _, .nil, r => r
  | _, _, _, _, .cons h t, r => .cons h (rws_append t r)
theorem rws_get {K : PySem.W.Frag} {F : Hp} {φ : List Addr} : ∀ {vs : List V} {ws : List W} (i : Nat), RWs K F φ vs ws → (vs[i]? = none ∧ ws[i]? = none) ∨ ∃ v w, vs[i]? = some v ∧ ws[i]? = some w ∧ RW K F φ v w
  | _, _, _, .nil => .inl ⟨rfl, rfl⟩
  | _, _, 0, .cons h t => .inr ⟨_, _, rfl, rfl, h⟩
  | _, _, i + 1, .cons h t => by simpa using rws_get i t
theorem rws_pick {K : PySem.W.Frag} {F : Hp} {φ : List Addr} {vs : List V} {ws : List W} (r : RWs K F φ vs ws) : ∀ pm : List Nat, RWs K F φ (pick pm vs) (pick pm ws)
  | [] => .nil
  | i :: pm => by
    have ih := rws_pick r pm
    unfold pick at ih ⊢
    rcases rws_get i r with ⟨h1, h2⟩ | ⟨v, w, h1, h2, h3⟩
    · rw [List.filterMap_cons_none h1, List.filterMap_cons_none h2]
      exact ih
    · rw [List.filterMap_cons_some h1, List.filterMap_cons_some h2]
      exact .cons h3 ih
theorem vals_get : ∀ {vs : List V} {us : List Value} (i : Nat), Vals vs us → (vs[i]? = none ∧ us[i]? = none) ∨ ∃ v u, vs[i]? = some v ∧ us[i]? = some u ∧ RelV v u
  | _, _, _, .nil => .inl ⟨rfl, rfl⟩
  | _, _, 0, .cons h t => .inr ⟨_, _, rfl, rfl, h⟩
  | _, _, i + 1, .cons h t => by simpa using vals_get i t
theorem vals_pick {vs : List V} {us : List Value} (r : Vals vs us) : ∀ pm : List Nat, Vals (pick pm vs) (pick pm us)
  | [] => .nil
  | i :: pm => by
    have ih := vals_pick r pm
    unfold pick at ih ⊢
    rcases vals_get i r with ⟨h1, h2⟩ | ⟨v, w, h1, h2, h3⟩
    · rw [List.filterMap_cons_none h1, List.filterMap_cons_none h2]
      exact ih
    · rw [List.filterMap_cons_some h1, List.filterMap_cons_some h2]
      exact .cons h3 ih
/-- how a call with keywords ks binds, told for this def -/
structure KwOk (K : PySem.W.Frag) (fd : FuncData) (ps ks : List Str) (pm : List Nat) : Prop where
  ne : ps ≠ []
  to : ∀ (s : Shared) (us ws : List Value), us.length = ps.length - ks.length → ws.length = ks.length → BindsTo s fd ⟨us, ks.zip ws⟩ (ps.zip (us ++ pick pm ws))
theorem KwOk.kb {K : PySem.W.Frag} {fd : FuncData} {ps ks : List Str} {pm : List Nat} (h : KwOk K fd ps ks pm) : KBinds K fd ps ks (pickK (ps.length - ks.length) ks.length pm) (pickK (ps.length - ks.length) ks.length pm) := by
  refine ⟨fun s us ws _ hl => ?_, fun {vs us zs ws} r z => ?_⟩
  · unfold pickK at hl ⊢
    split at hl
    · rename_i hh
      rw [if_pos hh]
      exact h.to s us ws hh.1 hh.2
    · exact absurd (List.length_eq_zero_iff.mp hl.symm) h.ne
  · unfold pickK
    rw [← r.length, ← z.length]
    split
    · exact r.append (vals_pick z pm)
    · exact .nil
theorem rws_pickK {K : PySem.W.Frag} {F : Hp} {φ : List Addr} {vs us : List V} {ws zs : List W} (r : RWs K F φ vs ws) (q : RWs K F φ us zs) (n0 nk : Nat) (pm : List Nat) : RWs K F φ (pickK n0 nk pm vs us) (pickK n0 nk pm ws zs) := by
  unfold pickK
  rw [r.length, q.length]
  split
  · exact rws_append r (rws_pick q pm)
  · exact .nil
variable {k : Nat} {f : Addr} {fd : FuncData} {ps ks : List Str} {n : Nat} {g : Fd} {ms mk : Sm (List W)} {pm : List Nat} {n0 nk : Nat}
theorem tCallK_of {E : XK} {K : PySem.W.Frag} : ∀ σ H Q, tOf K (mCallK n n0 nk pm g ms mk) σ H Q → tCallK (spOf K n g) (pickK n0 nk pm) E (tOfA K ms) (tOfA K mk) σ H Q := by
  intro σ H Q ⟨Z, φ, Δ, M, w, M', R, h, q⟩
  unfold mCallK at h
  split at h
  · rename_i ws M1 hx
    split at h
    · rename_i zs M2 hz
      split at h
      · rename_i hl
        refine ⟨Z, φ, Δ, M, ws, M1, R, hx, fun vs φ1 H1 e1 m1 r1 => ?_⟩
        refine ⟨Z, φ1, Δ, M1, zs, M2, R.step e1 m1, hz, fun us φ2 H2 e2 m2 r2 => ?_⟩
        exact ⟨Z, φ2, M2, _, w, M', m2, rws_pickK (r1.ext e2) r2 n0 nk pm, hl, h, q.step (e1.trans e2)⟩
      · cases h
    · cases h
  · cases h
theorem pe_mcallK {kws : List Keyword} (F : FnG X.prog X.w X.K X.mg X.base k f fd ps (spOf X.K n g)) (hr : Room k X.A) (hq : Quiet X.A) (hg : Gl X x) (hm : X.mg x = some (.ref f)) (hk : PySem.W.keepIn X.K (.ref f) = true) (hb : KwOk X.K fd ps ks pm)
    (ha : PA X (e :: es) (tOfA X.K ms)) (hkw : PK X kws (tOfA X.K mk)) (hall : (backToKw pos (keywordEach kws X.env)).all (·.1.isSome) = true) (hks : (backToKw pos (keywordEach kws X.env)).filterMap (·.1) = ks)
    (hdb : (x == ("__debug__" : Str)) = false) (he : starEach (e :: es) X.env = (false, eval e X.env) :: starEach es X.env)
    (hpl : ((backTo pos (starEach (e :: es) X.env)).any (·.1) || (backToKw pos (keywordEach kws X.env)).any (·.1.isNone)) = false) : PE X (.Call (.Name x p) (e :: es) kws pos) (tOf X.K (mCallK n (ps.length - ks.length) ks.length pm g ms mk)) :=
  pe_imp (peGk F hr hq hg hm hk hb.kb ha hkw hall hks hdb he hpl) tCallK_of
theorem pe_mcallK0 {kws : List Keyword} (F : FnG X.prog X.w X.K X.mg X.base k f fd ps (spOf X.K n g)) (hr : Room k X.A) (hq : Quiet X.A) (hg : Gl X x) (hm : X.mg x = some (.ref f)) (hk : PySem.W.keepIn X.K (.ref f) = true) (hb : KwOk X.K fd ps ks pm)
    (hkw : PK X kws (tOfA X.K mk)) (hall : (backToKw pos (keywordEach kws X.env)).all (·.1.isSome) = true) (hks : (backToKw pos (keywordEach kws X.env)).filterMap (·.1) = ks)
    (hdb : (x == ("__debug__" : Str)) = false) (hpl : ((backTo pos (starEach [] X.env)).any (·.1) || (backToKw pos (keywordEach kws X.env)).any (·.1.isNone)) = false) : PE X (.Call (.Name x p) [] kws pos) (tOf X.K (mCallK n (ps.length - ks.length) ks.length pm g (mArgs []) mk)) := by
  refine pe_imp (peGk0 F hr hq hg hm hk hb.kb hkw hall hks hdb hpl) fun σ H Q h => ?_
  obtain ⟨Z, φ, Δ, M, ws, M', R, h1, q⟩ := tCallK_of (E := E0) σ H Q h
  cases h1
  exact q [] φ H Ext.refl R.mem .nil
end
end Ek

/-! EkS: sorted(set(xs)), xs a list of ints -/
namespace Ek
open PySem PySem.Spec PyProof.Rows L2
/-- an empty set, just made -/
abbrev mtS (w : World) : Obj := { cls := .type "set", dict := none, data := .set #[] 0 (.fresh 0 0 (!w.params.followText "set-order")) }
set_option maxHeartbeats 3200000 in
theorem setL {P : Program} {w : World} {A : Around} {E : Value → Shared → Prop} {s : Shared} {l : Addr} {xs : Array Value} (ns : List Int) {Q : Value → Shared → Prop}
    (hh : A.handled = none) (hl : s.heap.IsList l xs) (ia : IntsAre xs.toList ns) (hb : ns.length + 1 < scanBound)
    (fin : ∀ (h' : Heap) (tk c : Nat), SetR w h' s.heap.objs.size (fun j => decide (j ∈ ns)) c → c ≤ ns.length → (∀ b o, s.heap.get? b = some o → h'.get? b = some o) → Q (.ref s.heap.objs.size) { s with heap := h', toks := tk }) :
    wpAny (model P w) A (call (.type "set") [.ref l]) Q E s := by
  have sz : xs.size = ns.length := by have q := IntsAre.length ia; rw [Array.length_toList] at q; exact q
  obtain ⟨c, tl, mr⟩ := F.called_set.mro
  have md := F.called_set.made; have sb := F.called_set.sub
  refine wpAny_call (codeAny_of_tree (show wpAny _ _ (callAny (.type "set") _) _ _ _ from ?_))
  refine wpAny_pure ⟨Code.quiet_builtin _ (by decide +kernel), codeAny_builtin F.entry_type_call ?_⟩
  rw [show A.under _ = _ from Around.under_plain (weight_type_call_type "set" [.ref l] []) rfl]
  have n1 := F.called_set.notType; have n2 := F.called_set.canCreate; have n3 := F.typeCall_set_1 (.ref l)
  repeat any_goals first | assumption | wp_step
  refine codeAny_mono (code_set_led1 (.ref l) (E := E) (Q₁ := fun obj s₁ => obj = .ref s.heap.objs.size ∧ s₁ = { s with heap := s.heap.push (mtS w) }) ⟨rfl, rfl⟩) fun r s₁ hr => ?_
  rcases r with e | fl
  · exact hr
  rcases fl with _ | _ | _ | obj
  · exact hr.elim
  · exact hr.elim
  · exact hr.elim
  · obtain ⟨rfl, rfl⟩ := hr
    have g0 : (s.heap.push (mtS w)).get? s.heap.objs.size = some (mtS w) := Heap.get?_push_size _ rfl
    have ty : Shared.TypeIs { s with heap := s.heap.push (mtS w) } (.ref s.heap.objs.size) "set" := ⟨_, g0, rfl⟩
    have i1 := F.called_set.init.lookup; have i2 := F.called_set.init.bind (.ref s.heap.objs.size)
    repeat any_goals first | assumption | wp_step
    refine codeAny_mono (codeAny_call_builtin (R := wants (fun r s₂ => r = .none ∧ ∃ h' tk c, s₂ = { s with heap := h', toks := tk } ∧ SetR w h' s.heap.objs.size (fun j => decide (j ∈ ns)) c ∧ c ≤ ns.length ∧ (∀ b o, s.heap.get? b = some o → h'.get? b = some o)) E) F.called_set.init.plain F.entry_set_init (check_set_init_1 ty ?_)) fun r₂ s₂ hr₂ => ?_
    · obtain ⟨⟨cl, od, dt, sl⟩, gl, cl1, nl, dt1⟩ := hl
      obtain rfl : cl = _ := cl1
      obtain rfl : dt = _ := dt1
      have gl' : (s.heap.push (mtS w)).get? l = some { cls := .type "list", dict := od, data := .seq xs nl, slots := sl } := Heap.get?_push_of_some _ gl
      have q1 := F.sub_list_set; have q2 := F.sub_list_frozenset
      have q3 : (Value.type "list" == Value.type "dict") = false := by decide
      have hl1 : (s.heap.push (mtS w)).IsList l xs := ⟨_, gl', rfl, nl, rfl⟩
      unfold Builtin.«set.__init__» noKeywords Builtin.Frozenset.updateFrom
      generalize hP : pyIter = PI
      wp_walk
      subst hP
      refine wpAny_pyIter_list hl1 (wpAny_bind (wpAny_runValue ?_))
      have ls : l < s.heap.objs.size := Heap.lt_size gl
      have h3 : A.in1.in1.in1.handled = none := by simp [hh]
      have ne1 : l ≠ (s.heap.push (mtS w)).objs.size := by rw [Heap.size_push]; exact Nat.ne_of_lt (Nat.lt_succ_of_lt ls)
      have nf : s.heap.objs.size ∉ [(s.heap.push (mtS w)).objs.size, l] := by
        rw [Heap.size_push]
        intro z
        rcases List.mem_cons.mp z with z | z
        · exact absurd z (Nat.ne_of_lt (Nat.lt_succ_self _))
        · exact absurd (List.mem_singleton.mp z) (Nat.ne_of_gt ls)
      have vals : ∀ (i : Nat) (v : Value), xs[i]? = some v → ∃ k t, ns[i]? = some k ∧ v = .int k t := fun i v hv => by
        have hi : i < ns.length := sz ▸ (Array.getElem?_eq_some_iff.mp hv).1
        obtain ⟨t, e⟩ := IntsAre.int_at ia i v (by rw [Array.getElem?_toList]; exact hv)
        exact ⟨ns[i], t, List.getElem?_eq_getElem hi, by rw [e, List.getD_eq_getElem?_getD, List.getElem?_eq_getElem hi] <;> rfl⟩
      refine set_update_ints ((Walks.list h3 _ l ne1 xs).toS) s.heap.objs.size nf ns sz hb vals (xs.size - 0) 0 _ (by omega) (Nat.zero_le _) ⟨⟨_, Heap.get?_push_size _ rfl, rfl, rfl⟩, hl1.push _⟩ ⟨0, Nat.le_refl 0, setR_new_at (Heap.get?_push_of_some _ g0)⟩ ?_
      rintro ⟨h', g2, d', tk', os'⟩ c' mv hc' hS'
      obtain rfl : g2 = s.gens := mv.gens
      obtain rfl : d' = s.drawn := mv.drawn
      obtain rfl : os' = s.os := mv.os
      show wpAny _ _ _ _ _ _
      refine wpAny_pure ?_
      (show wpAny _ _ (ret Value.none) _ _ _); refine wpAny_pure ⟨rfl, h', tk', c', rfl, hS', sz ▸ hc', fun b o e => ?_⟩
      have b0 : b < s.heap.objs.size := Heap.lt_size e
      refine mv.heap b o (fun z => ?_) (Heap.get?_push_of_some _ (Heap.get?_push_of_some _ e))
      rcases List.mem_cons.mp z with z | z
      · exact absurd z (Nat.ne_of_lt b0)
      · have z := List.mem_singleton.mp z
        rw [Heap.size_push] at z
        rw [z] at b0
        exact absurd b0 (Nat.not_lt_of_le (Nat.le_succ _))
    · rcases r₂ with e | fl₂
      · exact hr₂
      rcases fl₂ with _ | _ | _ | r
      · exact hr₂.elim
      · exact hr₂.elim
      · exact hr₂.elim
      · obtain ⟨rfl, h', tk, c', rfl, hS', hc', hk'⟩ := hr₂
        repeat any_goals first | assumption | wp_step
        exact fin _ _ _ hS' hc' hk'
/-! ### the one strictly rising list of some ints -/
def insU (x : Int) : List Int → List Int
  | [] => [x]
  | y :: r => if x < y then x :: y :: r else if x = y then y :: r else y :: insU x r
def upI : List Int → List Int
  | [] => []
  | x :: r => insU x (upI r)
theorem insU_mem {x k : Int} : ∀ {l : List Int}, k ∈ insU x l ↔ k = x ∨ k ∈ l
  | [] => by simp [insU]
  | y :: r => by
    unfold insU
    split
    · simp
    · split
      · rename_i h
        subst h
        simp
      · have ih := insU_mem (x := x) (k := k) (l := r)
        simp only [List.mem_cons, ih]
        constructor
        · rintro (h | h | h)
          · exact .inr (.inl h)
          · exact .inl h
          · exact .inr (.inr h)
        · rintro (h | h | h)
          · exact .inr (.inl h)
          · exact .inl h
          · exact .inr (.inr h)
theorem insU_up {x : Int} : ∀ {l : List Int}, l.Pairwise (· < ·) → (insU x l).Pairwise (· < ·)
  | [], _ => by simp [insU]
  | y :: r, h => by
    have hh := List.pairwise_cons.mp h
    unfold insU
    split
    · rename_i hx
      refine List.pairwise_cons.mpr ⟨fun z hz => ?_, h⟩
      rcases List.mem_cons.mp hz with rfl | hz
      · exact hx
      · have := hh.1 z hz; omega
    · split
      · exact h
      · refine List.pairwise_cons.mpr ⟨fun z hz => ?_, insU_up hh.2⟩
        rcases insU_mem.mp hz with rfl | hz
        · omega
        · exact hh.1 z hz
theorem upI_up : ∀ l : List Int, (upI l).Pairwise (· < ·)
  | [] => .nil
  | x :: r => insU_up (upI_up r)
theorem upI_mem {k : Int} : ∀ {l : List Int}, k ∈ upI l ↔ k ∈ l
  | [] => by simp [upI]
  | x :: r => by
    unfold upI
    rw [insU_mem, upI_mem, List.mem_cons]
theorem up_one : ∀ {a b : List Int}, a.Pairwise (· < ·) → b.Pairwise (· < ·) → (∀ k, k ∈ a ↔ k ∈ b) → a = b
  | [], [], _, _, _ => rfl
  | [], y :: r, _, _, h => by have := (h y).mpr (by simp); simp at this
  | x :: r, [], _, _, h => by have := (h x).mp (by simp); simp at this
  | x :: r, y :: t, ha, hb, h => by
    have a1 := List.pairwise_cons.mp ha
    have b1 := List.pairwise_cons.mp hb
    have e : x = y := by
      rcases List.mem_cons.mp ((h x).mp (by simp)) with e | e
      · exact e
      · rcases List.mem_cons.mp ((h y).mpr (by simp)) with e2 | e2
        · exact e2.symm
        · have := b1.1 x e
          have := a1.1 y e2
          omega
    subst e
    congr 1
    refine up_one a1.2 b1.2 fun k => ⟨fun hk => ?_, fun hk => ?_⟩
    · rcases List.mem_cons.mp ((h k).mp (by simp [hk])) with e | e
      · have := a1.1 k hk; omega
      · exact e
    · rcases List.mem_cons.mp ((h k).mpr (by simp [hk])) with e | e
      · have := b1.1 k hk; omega
      · exact e
section
variable {X : Cx}
def rSetI (K : PySem.W.Frag) (w : World) : List V → Hp → VK → Prop := fun xs H Q => ∃ (a : Addr) (ns : List Int), xs = [V.ref a] ∧ SqL K H a (ns.map V.int) ∧ ns.length < 64 ∧ ∀ p c, H p = none → c ≤ ns.length → Q (.ref p) (upd H p (SetO w p (fun j => decide (j ∈ ns)) c))
theorem cr_setI (hc : X.calm = true) : CallR X (.type "set") (rSetI X.K X.w) := by
  intro pins s σ H xs us Q I r h
  obtain ⟨a, ns, rfl, hs, hl, q⟩ := h
  obtain ⟨its, rv, pl, hz⟩ := I.list hs
  rw [Vals.ref1 r]
  refine setL ns (I.ok.hd hc) pl.isList (intsAre_of rv) (Nat.lt_of_lt_of_le (Nat.succ_lt_succ hl) (by decide)) fun h' tk c R hcl keep => ?_
  exact ⟨.ref _, upd H s.heap.objs.size (SetO X.w s.heap.objs.size (fun j => decide (j ∈ ns)) c), I.laid (t' := tk) (fun b u e => keep b u e) (Nat.le_refl _) (setO_new R), rfl, q _ c I.fresh hcl⟩
def mSortSet (e : Sm W) : Sm (Bool × List PD) := fun Δ M => match e Δ M with
  | some (w, M1) => (match rdL w M1 with
    | some (_, xs) => (match asInts xs with
      | some l => if l.length < 64 then some ((true, (upI l).map PyData.int), M1) else none
      | none => none)
    | none => none)
  | none => none
theorem pe_msortset {e : Expr} {m : Sm W} {p p2 pos pos2 : Pos} (hc : X.calm = true) (h1 : Gl X "sorted") (m1 : X.mg "sorted" = none) (h2 : Gl X "set") (m2 : X.mg "set" = none) (he : PE X e (tOf X.K m)) (hs : starEach [e] X.env = [(false, eval e X.env)]) :
    PE X (.Call (.Name "sorted" p) [.Call (.Name "set" p2) [e] [] pos2] [] pos) (tOfN X.K (mSortSet m)) := by
  have ha : PA X [e] (tOfA X.K (mArgs [m])) := pa_mcons he pa_mnil hs
  refine pe_imp (pe_callB (cr_sortedSet hc) h1 m1 (by decide +kernel) (pa_cons (pe_callTy (cr_setI hc) h2 m2 (by decide +kernel) ha (by decide) (by decide) hs rfl) pa_nil rfl) (by decide) (by decide) rfl rfl) fun σ H Q ⟨Z, φ, Δ, M, t, xs, M', R, h, q⟩ => ?_
  unfold mSortSet at h
  split at h
  · rename_i w1 M1 hx
    split at h
    · rename_i t1 ys hy
      split at h
      · rename_i l hl
        split at h
        · rename_i h64
          cases h
          refine ⟨Z, φ, Δ, M, [w1], M', R, by simp only [mArgs, hx], fun vs φ1 H1 e1 n1 r1 => ?_⟩
          obtain ⟨v, rfl, rv⟩ := rws1 r1
          obtain ⟨a, us, rfl, ha, hd⟩ := rdL_ok n1 rv hy
          rw [asInts_eq hl] at hd
          have hu := dq_ints hd
          subst hu
          refine ⟨a, l, rfl, ha, h64, fun p c hp hcl => ?_⟩
          obtain ⟨e2, n2, _⟩ := n1.new hp (SetO X.w p (fun j => decide (j ∈ l)) c)
          refine ⟨p, _, c, rfl, upd_same, Nat.lt_of_le_of_lt hcl h64, fun ns p2 hpw hmem hlen hp2 => ?_⟩
          have en : ns = upI l := up_one hpw (upI_up l) fun k => by rw [hmem, upI_mem, decide_eq_true_eq]
          subst en
          obtain ⟨e3, n3, _⟩ := n2.born (o := .lst true ((upI l).map PyData.int)) hp2 (u := .lst ((upI l).map V.int)) rfl ⟨_, upd_same, ints_dq _⟩
          exact q p2 φ1 _ e1.pre ((e1.trans e2).trans e3) n3
        · cases h
      · cases h
    · cases h
  · cases h
end
end Ek

/-! EkT: t[::-1], t a tuple -/
namespace Ek
open PySem PySem.Spec PyProof.Rows L2
section
variable {P : Program} {w : World} {A : Around} {E : Value → Shared → Prop} {s : Shared}
theorem adj_rev (n : Nat) : Builtin.Slice.sliceAdjust none none (-1) (n : Int) = ((n : Int) - 1, -1) := by
  unfold Builtin.Slice.sliceAdjust
  simp
theorem plc_rev (n : Nat) : Builtin.Slice.slicePlaces ((n : Int) - 1) (-1) (-1) = n := by
  unfold Builtin.Slice.slicePlaces
  simp
  split <;> omega
theorem fm_congr {α β : Type} {f g : α → Option β} : ∀ {l : List α}, (∀ a ∈ l, f a = g a) → l.filterMap f = l.filterMap g
  | [], _ => rfl
  | a :: r, h => by
    have e := h a (by simp)
    have ih := fm_congr (l := r) fun x hx => h x (by simp [hx])
    rw [List.filterMap_cons, List.filterMap_cons, e, ih]
theorem pick_rev (xs : Array Value) : ((List.range xs.size).filterMap fun (k : Nat) => xs[((xs.size : Int) - 1 + (k : Int) * (-1)).toNat]?).toArray = xs.toList.reverse.toArray := by
  congr 1
  have e : ((List.range xs.size).filterMap fun (k : Nat) => xs[((xs.size : Int) - 1 + (k : Int) * (-1)).toNat]?) = (List.range xs.size).filterMap fun k => xs.toList.reverse[k]? := by
    refine fm_congr fun k hk => ?_
    have hk' : k < xs.size := List.mem_range.mp hk
    rw [List.getElem?_reverse (by simpa using hk')]
    have : ((xs.size : Int) - 1 + (k : Int) * (-1)).toNat = xs.size - 1 - k := by omega
    rw [this, Array.getElem?_toList]
    rfl
  rw [e]
  have hl : xs.size = xs.toList.reverse.length := by simp
  rw [hl]
  generalize xs.toList.reverse = l
  clear hl e
  induction l with
  | nil => rfl
  | cons a r ih =>
    rw [List.length_cons, List.range_succ_eq_map, List.filterMap_cons_some (show (a :: r)[0]? = some a from rfl), List.filterMap_map]
    congr 1
theorem sl_rev {sl : Addr} {vl vu vs : Value} {n : Nat} {Q : Int × Int × Nat → Shared → Prop} (hs : s.heap.IsSliceOf sl vl vu vs) (pl : IsPart vl none) (pu : IsPart vu none) (ps : IsPart vs (some (-1)))
    (h : Q ((n : Int) - 1, -1, n) s) : wpAny (model P w) A (Builtin.Slice.sliceApplied (.ref sl) (pure (n : Int))) Q E s := by
  obtain ⟨os, g, cs, ds⟩ := id hs
  unfold Builtin.Slice.sliceApplied Builtin.Slice.sliceFields
  refine wpAny_bind (wpAny_bind (wpAny_field g ds (x := vl) rfl (wpAny_bind (wpAny_field g ds (x := vu) rfl (wpAny_bind (wpAny_field g ds (x := vs) rfl (wpAny_pure ?_)))))))
  refine wpAny_bind (HT.slicePart_ ps ?_)
  (show wpAny _ _ (if ((-1 : Int) == 0) = true then _ else _) _ _ s); rw [if_neg (by decide)]
  refine wpAny_bind (HT.slicePart_ pl (wpAny_bind (HT.slicePart_ pu (wpAny_bind (wpAny_pure ?_)))))
  show wpAny _ _ (match Builtin.Slice.sliceAdjust none none (-1) (n : Int) with | (lo, hi) => pure (lo, (-1 : Int), Builtin.Slice.slicePlaces lo hi (-1))) _ _ s
  rw [adj_rev n]
  show wpAny _ _ (pure ((n : Int) - 1, (-1 : Int), Builtin.Slice.slicePlaces ((n : Int) - 1) (-1) (-1))) _ _ s
  rw [plc_rev]
  exact wpAny_pure h
theorem item_rev {t sl : Addr} {xs : Array Value} {vl vu vs : Value} {Q : Value → Shared → Prop} (ht : IsTup s.heap t xs) (hs : s.heap.IsSliceOf sl vl vu vs) (pl : IsPart vl none) (pu : IsPart vu none) (ps : IsPart vs (some (-1)))
    (h : Q (.ref s.heap.objs.size) { s with heap := s.heap.push { cls := .type "tuple", data := .seq xs.toList.reverse.toArray } }) (hsz : xs.size ≤ sizeLine) : wpAny (model P w) A (getItem (.ref t) (.ref sl)) Q E s := by
  have ok : sizeOk (.seq xs.toList.reverse.toArray) := (show xs.toList.reverse.toArray.size ≤ sizeLine by simpa using hsz)
  obtain ⟨os, g, cs, ds⟩ := id hs
  have ty : s.TypeIs (.ref sl) "slice" := ⟨os, g, cs⟩
  unfold getItem
  try (with_reducible refine wpAny_holding ?_)
  first | refine wpAny_bind (wpAny_pure ?_) | skip
  refine wpAny_bind (wpAny_sequenceKey ht.typeIs (by decide) (wpAny_bind (wpAny_callSpecial?_slot (name := Str.ofString "__getitem__") ht.typeIs PyProof.Rows.slot_tuple_getitem (wpAny_call_entry PyProof.Rows.slot_tuple_getitem ht.typeIs entry_tuple_getitem ?_ (args_tuple_getitem _ _)))))
  (show wpAny _ _ (Builtin.Tuple.tupleItemsOf (.ref t) >>= _) _ _ s); refine wpAny_bind (tupleItemsOf_ ht (wpAny_bind (wpAny_typeOf ty ?_)))
  rw [if_pos (by decide)]
  refine wpAny_bind (sl_rev hs pl pu ps ?_)
  have no : ¬ (((xs.size : Int) - 1 == 0 && (-1 : Int) == 1 && xs.size == xs.size) = true) := by
    intro q
    rw [Bool.and_eq_true, Bool.and_eq_true] at q
    exact absurd (eq_of_beq q.1.2) (by decide)
  (show wpAny _ _ (if ((xs.size : Int) - 1 == 0 && (-1 : Int) == 1 && xs.size == xs.size) = true then _ else _) _ _ s); rw [if_neg no, pick_rev]
  first
    | exact wpAny_bind (m := Builtin.Tuple.tupleExact _) (wpAny_newObj_type (wpAny_pure ⟨_, rfl, wpAny_pure h⟩) ok)
    | exact wpAny_bind (m := Builtin.Tuple.tupleExact _) (wpAny_newObj_type (wpAny_bind (wpAny_pure (wpAny_pure ⟨_, rfl, wpAny_pure h⟩))) ok)
    | exact wpAny_bind (wpAny_bind (m := Builtin.Tuple.tupleExact _) (wpAny_newObj_type (wpAny_pure (wpAny_pure ⟨_, rfl, wpAny_pure h⟩)) ok))
    | exact wpAny_bind (wpAny_bind (m := Builtin.Tuple.tupleExact _) (wpAny_newObj_type (wpAny_pure ⟨_, rfl, wpAny_pure h⟩) ok))
end
section
variable {X : Cx}
/-- a list or a tuple from behind -/
def tRevQ (K : PySem.W.Frag) (te : TE) : TE := fun σ H Q => te σ H fun x H1 => ∃ a xs, x = .ref a ∧ SqT K H1 a xs ∧ ∀ p, H1 p = none → Q (.ref p) (upd H1 p (.tup xs.reverse))
theorem pe_revT {e : Expr} {te : TE} {k : Nat} {p1 p2 p3 pos : Pos} (he : PE X e te) : PE X (.Subscript e (.Slice none none (some (.UnaryOp .USub (.Constant (.int 1) k p1) p2)) p3) pos) (tRevQ X.K te) := by
  refine ⟨fun pins s σ H Q I h => Subscript_ (thn (he.run pins s σ H _ I h) fun v s1 ⟨x, H1, I1, r1, a, xs, ex, hx, q⟩ => ?_)⟩
  subst ex
  cases r1
  have st : PO X (some (.UnaryOp .USub (.Constant (.int 1) k p1) p2)) (tPart (tUn (rU fun i => .int (-i)) (tC (.int 1)))) := po_some (pe_un un_neg pe_int)
  refine wpAny_Slice (thn (po_none.run pins s1 σ H1 (fun o H2 => o = none ∧ H2 = H1) I1 ⟨rfl, rfl⟩) fun vl s2 ⟨l, H2, I2, pl, el, e2⟩ => ?_)
  subst el; subst e2
  refine thn (po_none.run pins s2 σ H2 (fun o H3 => o = none ∧ H3 = H2) I2 ⟨rfl, rfl⟩) fun vu s3 ⟨u, H3, I3, pu, eu, e3⟩ => ?_
  subst eu; subst e3
  refine thn (st.run pins s3 σ H3 (fun o H4 => o = some (-1) ∧ H4 = H3) I3 ⟨1, rfl, -1, rfl, rfl, rfl⟩) fun vs s4 ⟨o, H4, I4, ps, eo, e4⟩ => ?_
  subst eo; subst e4
  have I5 : L2.Inv X pins σ H4 { s4 with heap := s4.heap.push { cls := .type "slice", data := .fields #[vl, vu, vs] } } := I4.kept (t' := s4.toks) fun b ob q => Heap.get?_push_of_some _ q
  obtain ⟨its, r, ht, hz⟩ := I5.tuple hx
  have hl := r.length
  (show wpAny (model X.prog X.w) X.A (subscriptTail e (.Slice none none (some (.UnaryOp .USub (.Constant (.int 1) k p1) p2)) p3) (.ref a) (.ref s4.heap.objs.size)) (EP X pins σ Q) X.xe { s4 with heap := s4.heap.push { cls := .type "slice", data := .fields #[vl, vu, vs] } })
  refine tail_any (ops := [.ref a, .ref s4.heap.objs.size]) ht.typeIs PyProof.Rows.slot_tuple_getitem.lookup ?_ (by with_unfolding_all rfl)
  refine item_rev ht (Heap.IsSliceOf.new _ vl vu vs) pl pu ps ?_ (by rw [List.size_toArray]; omega)
  refine ⟨.ref _, _, I5.laid (t' := s4.toks) (o := .tup xs.reverse) (fun b ob q => Heap.get?_push_of_some _ q) (Nat.le_refl _) ?_, rfl, q _ (I5.hok.fresh (Nat.le_refl _))⟩
  exact ⟨by rw [List.length_reverse]; exact hz, _, r.reverse, IsTup.new _ _⟩
theorem pe_or {e : Expr} {t t' : TE} (h : PE X e t) (h' : PE X e t') : PE X e (fun σ H Q => t σ H Q ∨ t' σ H Q) := ⟨fun pins s σ H Q I q => q.elim (fun q => h.run pins s σ H Q I q) fun q => h'.run pins s σ H Q I q⟩
def mRevQ (a : Sm W) : Sm W := fun Δ M => match a Δ M with
  | some (.d t (.tuple xs), M1) => some (.d t (.tuple xs.reverse), M1)
  | some (w, M1) => (match rdL w M1 with
    | some (t, xs) => some (.d t (.list xs.reverse), M1)
    | none => none)
  | none => none
theorem pe_mrevq {e : Expr} {m : Sm W} {k : Nat} {p1 p2 p3 pos : Pos} (he : PE X e (tOf X.K m)) : PE X (.Subscript e (.Slice none none (some (.UnaryOp .USub (.Constant (.int 1) k p1) p2)) p3) pos) (tOf X.K (mRevQ m)) := by
  refine pe_imp (pe_or (pe_revT he) (pe_revL he)) fun σ H Q ⟨Z, φ, Δ, M, w, M', R, h, q⟩ => ?_
  unfold mRevQ at h
  split at h
  · rename_i t xs M1 hx
    cases h
    refine .inl ⟨Z, φ, Δ, M, _, _, R, hx, fun v φ1 H1 e1 m1 r1 => ?_⟩
    cases r1 with
    | tup h1 h2 => exact ⟨_, _, rfl, (tupU (sq_t fz_sub h1)).sq, (q.step e1).newT m1 (dpa_rev h2)⟩
  · rename_i w1 M1 _ hx
    split at h
    · rename_i t xs hr
      cases h
      refine .inr ⟨Z, φ, Δ, M, w1, _, R, hx, fun v φ1 H1 e1 m1 r1 => ?_⟩
      obtain ⟨a, vs, rfl, ha, hd⟩ := rdL_ok m1 r1 hr
      exact ⟨a, vs, rfl, ha, (q.step e1).newL m1 (dpa_rev hd)⟩
    · cases h
  · cases h
end
end Ek

/-! EkC: rules for dicts whose keys are tuples of numbers and such tuples, wherever these stand -/
namespace Ek
open PySem PySem.Spec PyProof.Rows L2
mutual
theorem hash_any (w w' : World) : ∀ (d : PD) {k : NestedKey}, nk d = some k → k.hash w = k.hash w'
  | .none, k, h => by cases h; rfl
  | .int i, k, h => by cases h; rfl
  | .bool b, k, h => by cases h; rfl
  | .str x, k, h => by cases h
  | .list ds, k, h => by cases h
  | .dict ds, k, h => by cases h
  | .tuple ds, k, h => by
    unfold nk at h
    split at h
    · rename_i ks hk
      cases h
      unfold NestedKey.hash
      rw [hashes_any w w' ds hk]
    · cases h
theorem hashes_any (w w' : World) : ∀ (ds : List PD) {ks : List NestedKey}, nks ds = some ks → NestedKey.hashes w ks = NestedKey.hashes w' ks
  | [], ks, h => by cases h; rfl
  | d :: ds, ks, h => by
    unfold nks at h
    split at h
    · rename_i k ks' h1 h2
      cases h
      unfold NestedKey.hashes
      rw [hash_any w w' d h1, hashes_any w w' ds h2]
    · cases h
end
section
variable {X : Cx} {pins : List (Addr × Obj)} {σ : L2.St} {H : Hp} {s : Shared} {a b : Addr} {k : NestedKey} {xs : List (NestedKey × Addr × Value)} {A : Around} {E : Value → Shared → Prop}
theorem tup_is (I : Inv X pins σ H s) {vs : List V} (h : TupR X.K H b vs) : ∃ (o : Obj) (its : Array Value) (n : Nat), s.heap.get? b = some o ∧ o.cls = .type "tuple" ∧ o.data = .seq its n ∧ Vals vs its.toList := by
  rcases h with h | ⟨o, its, n, h1, h2, h3, h4, h5⟩
  · obtain ⟨_, its, r, o, h1, h2, n, h3⟩ := (show ObjOk X.prog X.w H s.heap b (.tup vs) from I.hok b _ h)
    exact ⟨o, its.toArray, n, h1, h2, h3, by simpa using r⟩
  · exact ⟨o, its, n, I.bk _ _ (I.mod.kin _ _ h1), h2, h3, h5⟩
mutual
theorem nk_is (I : Inv X pins σ H s) : ∀ (d : PD) {v : V} {k : NestedKey} {u : Value}, Dq X.K H v d → nk d = some k → RelV v u → NestedIs s.heap k u
  | .none, v, k, u, h, e, r => by cases h; cases e; cases (show u = Value.none from r); exact .none
  | .int i, v, k, u, h, e, r => by
    cases h; cases e
    obtain ⟨t, rfl⟩ := (show ∃ t, u = Value.int i t from r)
    exact .int _ _
  | .bool b, v, k, u, h, e, r => by
    cases h; cases e
    cases (show u = Value.bool b from r)
    exact .bool rfl
  | .str x, v, k, u, h, e, r => by cases e
  | .list ds, v, k, u, h, e, r => by cases e
  | .dict ds, v, k, u, h, e, r => by cases e
  | .tuple ds, v, k, u, h, e, r => by
    unfold nk at e
    split at e
    · rename_i ks hk
      cases e
      cases h with
      | tup h1 h2 =>
        rename_i a vs
        cases (show u = Value.ref a from r)
        obtain ⟨o, its, n, e1, e2, e3, e4⟩ := tup_is I h1
        exact .tup e1 e2 e3 (nks_is I ds h2 hk e4)
    · cases e
theorem nks_is (I : Inv X pins σ H s) : ∀ (ds : List PD) {vs : List V} {ks : List NestedKey} {us : List Value}, DqAll X.K H vs ds → nks ds = some ks → Vals vs us → NestedAll s.heap ks us
  | [], vs, ks, us, h, e, r => by cases h; cases e; cases r; exact .nil
  | d :: ds, vs, ks, us, h, e, r => by
    cases h with
    | cons h1 h2 =>
      unfold nks at e
      split at e
      · rename_i k ks' e1 e2
        cases e
        cases r with
        | cons r1 r2 => exact .cons (nk_is I d h1 e1 r1) (nks_is I ds h2 e2 r2)
      · cases e
end
/-- the tuple at b is the key k -/
def KeyAt (K : PySem.W.Frag) (H : Hp) (k : NestedKey) (b : Addr) : Prop := k.depth ≤ 8 ∧ ∃ d, nk d = some k ∧ Dq K H (.ref b) d
theorem KeyAt.is (I : Inv X pins σ H s) (h : KeyAt X.K H k b) : (nestedKind X.prog X.w).is s.heap k b := by
  obtain ⟨h1, d, h2, h3⟩ := h
  exact ⟨nk_is I d h3 h2 rfl, h1⟩
/-- a dict that may be read -/
structure XD (K : PySem.W.Frag) (H : Hp) (a : Addr) (xs : List (NestedKey × Addr × Value)) : Prop where
  at_ : H a = some (.ext (DtO a xs))
  keys : ∀ x, x ∈ xs → KeyAt K H x.1 x.2.1
theorem ent_any {P P' : Program} {w w' : World} {K : PySem.W.Frag} : ∀ {xs : List (NestedKey × Addr × Value)}, (∀ x, x ∈ xs → KeyAt K H x.1 x.2.1) → xs.map (entryOfKey (nestedKind P w)) = xs.map (entryOfKey (nestedKind P' w'))
  | [], _ => rfl
  | x :: xs, h => by
    rw [List.map_cons, List.map_cons, ent_any (xs := xs) fun y hy => h y (List.mem_cons_of_mem _ hy)]
    obtain ⟨_, d, hd, _⟩ := h x (List.mem_cons_self ..)
    have : entryOfKey (nestedKind P w) x = entryOfKey (nestedKind P' w') x := by
      show DictEntry.mk (x.1.hash w) _ _ = DictEntry.mk (x.1.hash w') _ _
      rw [hash_any w w' d hd]
    rw [this]
theorem xd_of (I : Inv X pins σ H s) (d : XD X.K H a xs) : (a == sysModules) = false ∧ xs.length ≤ sizeLine ∧ s.heap.DictOfH (nestedKind X.prog X.w) a xs := by
  obtain ⟨⟨n, z, y, P, w, o, es, ep, h1, h2, h3, h4⟩, _, _⟩ := (show ObjOk X.prog X.w H s.heap a (.ext (DtO a xs)) from I.hok a _ d.at_)
  exact ⟨y, z, o, es, ep, h1, h2, h3, by rw [h4]; exact ent_any d.keys, fun x hx => (d.keys x hx).is I, n⟩
/-- what the dict holds at a key -/
def valX (xs : List (NestedKey × Addr × Value)) (k : NestedKey) : Option Value := (atKey xs k).map (·.2)
theorem nest_room {A : Around} (hu : A.units + 9 < cLine) : (nestedKind X.prog X.w).room A.in1 := by
  show A.units + 1 + 8 < cLine
  omega
theorem x_getItem {r : Value} {Q : Value → Shared → Prop} (hu : A.units + 9 < cLine) (I : Inv X pins σ H s) (d : XD X.K H a xs) (hk : KeyAt X.K H k b) (hv : valX xs k = some r) (h : ∀ s', Inv X pins σ H s' → Q r s') :
    wpAny (model X.prog X.w) A (getItem (.ref a) (.ref b)) Q E s := by
  obtain ⟨y, z, dd⟩ := xd_of I d
  obtain ⟨p, hp, hp2⟩ := Option.map_eq_some_iff.mp hv
  refine wpAny_getItem_heap (nest_room hu) (hk.is I) dd hp ?_
  rw [hp2]
  exact h _ (I.tok _)
theorem x_in {Q : Value → Shared → Prop} (hu : A.units + 9 < cLine) (I : Inv X pins σ H s) (d : XD X.K H a xs) (hk : KeyAt X.K H k b) (h : ∀ s', Inv X pins σ H s' → Q (.bool (valX xs k).isSome) s') :
    wpAny (model X.prog X.w) A (compareOp .In (.ref b) (.ref a)) Q E s := by
  obtain ⟨y, z, dd⟩ := xd_of I d
  refine wpAny_in_heap (nest_room hu) (hk.is I) y dd ?_
  have := h _ (I.tok (s.toks + (nestedKind X.prog X.w).draws k))
  unfold valX at this
  rw [Option.isSome_map] at this
  exact this
theorem x_notIn {Q : Value → Shared → Prop} (hu : A.units + 9 < cLine) (I : Inv X pins σ H s) (d : XD X.K H a xs) (hk : KeyAt X.K H k b) (h : ∀ s', Inv X pins σ H s' → Q (.bool (!(valX xs k).isSome)) s') :
    wpAny (model X.prog X.w) A (compareOp .NotIn (.ref b) (.ref a)) Q E s := by
  obtain ⟨y, z, dd⟩ := xd_of I d
  refine wpAny_notIn_heap (nest_room hu) (hk.is I) y dd ?_
  have := h _ (I.tok (s.toks + (nestedKind X.prog X.w).draws k))
  unfold valX at this
  rw [Option.isSome_map] at this
  exact this
theorem x_get2 {r : Value} {Q : Value → Shared → Prop} (hu : A.units + 9 < cLine) (I : Inv X pins σ H s) (d : XD X.K H a xs) (hk : KeyAt X.K H k b) (h : ∀ s', Inv X pins σ H s' → Q ((valX xs k).getD r) s') :
    wpAny (model X.prog X.w) A (call (.builtin "dict.get") [.ref a, .ref b, r]) Q E s := by
  obtain ⟨y, z, dd⟩ := xd_of I d
  exact call_meetsIn PySem.F.slot_dict_get dd.typeIs PySem.F.entry_dict_get (PySem.F.args_dict_get_3 _ _ _) (meetsH_dict_get_default (nestedKind X.prog X.w) a b y r) ⟨nest_room hu, k, xs, hk.is I, dd, h _ (I.tok _)⟩
theorem ext_ok {P : Program} {w : World} {h' : Heap} {H' : Hp} (dd : h'.DictOfH (nestedKind P w) a xs) (z : xs.length ≤ sizeLine) (y : (a == sysModules) = false) : ObjOk P w H' h' a (.ext (DtO a xs)) := by
  obtain ⟨o, es, ep, h1, h2, h3, h4, _, h5⟩ := dd
  refine ⟨⟨h5, z, y, P, w, o, es, ep, h1, h2, h3, h4⟩, ⟨o, h1⟩, fun g1 g2 ⟨n, z, y, P, w, o, es, ep, h1, h2, h3, h4⟩ k => ⟨n, z, y, P, w, o, es, ep, k o h1, h2, h3, h4⟩⟩
theorem x_setItem {r : Value} {Q : Unit → Shared → Prop} (hu : A.units + 9 < cLine) (I : Inv X pins σ H s) (d : XD X.K H a xs) (hk : KeyAt X.K H k b) (hl : xs.length < sizeLine)
    (h : ∀ s', Inv X pins σ (upd H a (.ext (DtO a (storedH xs k b r)))) s' → Q () s') : wpAny (model X.prog X.w) A (setItem (.ref a) (.ref b) r) Q E s := by
  obtain ⟨y, z, dd⟩ := xd_of I d
  refine wpAny_setItem_heap (hsz := z) (nest_room hu) (hk.is I) dd fun h' dd' hs => h _ ?_
  have he : ∃ q, h'.get? a = some q := let ⟨q, _, _, hq, _⟩ := dd'; ⟨q, hq⟩
  have ln : (storedH xs k b r).length ≤ sizeLine := by
    unfold storedH
    split
    · rw [List.length_map]; exact z
    · rw [List.length_append]; exact hl
  exact d_write I (by rw [d.at_]; exact True.intro) hs he (ext_ok dd' ln y)
/-! ### the rules -/
/-- what is at y in the dict at a -/
def XGet (K : PySem.W.Frag) (H : Hp) (a : Addr) (y : V) (r : Option V) : Prop := ∃ xs k b, XD K H a xs ∧ y = .ref b ∧ KeyAt K H k b ∧ ((r = none ∧ valX xs k = none) ∨ ∃ v u, r = some v ∧ valX xs k = some u ∧ RelV v u)
def IsX (K : PySem.W.Frag) (H : Hp) (a : Addr) : Prop := ∃ xs, XD K H a xs
theorem isX_at (I : Inv X pins σ H s) (h : IsX X.K H a) : s.TypeIs (.ref a) "dict" ∧ ∀ b, Value.ref a = .ref b → ∃ ob, s.heap.get? b = some ob ∧ ob.dict = none := by
  obtain ⟨xs, d⟩ := h
  obtain ⟨y, z, dd⟩ := xd_of I d
  obtain ⟨o, _, _, ho, hx, _⟩ := id dd
  exact ⟨dd.typeIs, fun b q => by cases q; exact ⟨o, ho, hx.2.1⟩⟩
theorem XGet.isX {K : PySem.W.Frag} {y : V} {r : Option V} (h : XGet K H a y r) : IsX K H a := let ⟨xs, _, _, d, _⟩ := h; ⟨xs, d⟩
end
section
variable {X : Cx} {o i e f : Expr} {pos tpos apos cpos : Pos} {td ty tv tx : TE}
def tXGet (K : PySem.W.Frag) (td ty : TE) : TE := fun σ H Q => td σ H fun x H1 => ty σ H1 fun y H2 => ∃ a v, x = .ref a ∧ XGet K H2 a y (some v) ∧ Q v H2
theorem pe_xget (hu : X.A.units + 9 < cLine) (ho : PE X o td) (hi : PE X i ty) (hs : NoSl i) : PE X (.Subscript o i pos) (tXGet X.K td ty) := by
  refine ⟨fun pins s σ H Q I h => ?_⟩
  refine subD_of PySem.F.slot_dict_getitem.lookup hs (thn (ho.run pins s σ H _ I h) fun u s1 ⟨x, H1, I1, rx, q1⟩ => thn (hi.run pins s1 σ H1 _ I1 q1) fun iv s2 ⟨y, H2, I2, ry, a, v, ex, g, q2⟩ => ?_)
  subst ex
  obtain rfl : u = Value.ref a := rx
  refine ⟨(isX_at I2 g.isX).1, ?_⟩
  obtain ⟨xs, k, b, d, ey, hk, hr⟩ := g
  subst ey
  cases (show iv = Value.ref b from ry)
  rcases hr with ⟨z, _⟩ | ⟨v', w', z, hv, rv⟩
  · cases z
  · cases z
    exact x_getItem hu I2 d hk hv fun s3 I3 => ⟨v, H2, I3, rv, q2⟩
def rXIn (K : PySem.W.Frag) : R2 := fun x y H Q => ∃ a o, y = .ref a ∧ XGet K H a x o ∧ Q (.bl o.isSome) H
def rXNotIn (K : PySem.W.Frag) : R2 := fun x y H Q => ∃ a o, y = .ref a ∧ XGet K H a x o ∧ Q (.bl (!o.isSome)) H
theorem xv_some {xs : List (NestedKey × Addr × Value)} {k : NestedKey} {r : Option V} (h : (r = none ∧ valX xs k = none) ∨ ∃ v u, r = some v ∧ valX xs k = some u ∧ RelV v u) : (valX xs k).isSome = r.isSome := by
  rcases h with ⟨rfl, h⟩ | ⟨v, u, rfl, h, _⟩ <;> rw [h] <;> rfl
theorem op_xin (hu : X.A.units + 9 < cLine) : OpR X (compareOp .In) (rXIn X.K) := fun pins s σ H x y v u Q I rx ry ⟨a, o, e, g, q⟩ => by
  subst e
  cases (show u = Value.ref a from ry)
  obtain ⟨xs, k, b, d, ey, hk, hr⟩ := g
  subst ey
  cases (show v = Value.ref b from rx)
  exact x_in hu I d hk fun s3 I3 => ⟨.bl o.isSome, H, I3, by rw [xv_some hr]; rfl, q⟩
theorem op_xnotin (hu : X.A.units + 9 < cLine) : OpR X (compareOp .NotIn) (rXNotIn X.K) := fun pins s σ H x y v u Q I rx ry ⟨a, o, e, g, q⟩ => by
  subst e
  cases (show u = Value.ref a from ry)
  obtain ⟨xs, k, b, d, ey, hk, hr⟩ := g
  subst ey
  cases (show v = Value.ref b from rx)
  exact x_notIn hu I d hk fun s3 I3 => ⟨.bl (!o.isSome), H, I3, by rw [xv_some hr]; rfl, q⟩
def tXNew : TE := fun _ H Q => ∀ p, H p = none → Q (.ref p) (upd H p (.ext (DtO p [])))
theorem x_empty {P : Program} {w : World} {H : Hp} (h : Heap) (hb : sysModules < h.objs.size) : ObjOk P w H (h.push { cls := .type "dict", data := .dict #[] }) h.objs.size (.ext (DtO h.objs.size [])) :=
  ext_ok (P := P) (w := w) ⟨_, #[], 0, Heap.get?_push_size _ rfl, ⟨rfl, rfl, rfl⟩, rfl, rfl, (fun x hx => by cases hx), List.nodup_nil⟩ (Nat.zero_le _) (beq_eq_false_iff_ne.mpr (Ne.symm (Nat.ne_of_lt hb)))
theorem pe_xnew : PE X (.Dict [] [] pos) tXNew := ⟨fun pins s σ H Q I h =>
  wpAny_Dict_empty ⟨.ref s.heap.objs.size, _, I.laid (a := s.heap.objs.size) (o := .ext (DtO s.heap.objs.size [])) (t' := s.toks) (fun _ _ q => Heap.get?_push_of_some _ q) (Nat.le_refl _) (x_empty s.heap I.big), rfl, h _ (I.hok.fresh (Nat.le_refl _))⟩⟩
def tXGet2 (K : PySem.W.Frag) (td ty tx : TE) : TE := fun σ H Q => td σ H fun x H1 => ∃ a, x = .ref a ∧ IsX K H1 a ∧ ty σ H1 fun y H2 => tx σ H2 fun z H3 => ∃ o, XGet K H3 a y o ∧ Q (o.getD z) H3
theorem pe_xget2 (hu : X.A.units + 9 < cLine) (ho : PE X o td) (he : PE X e ty) (hf : PE X f tx) (m : M2 X o "get" apos e f cpos) : PE X (.Call (.Attribute o "get" apos) [e, f] [] cpos) (tXGet2 X.K td ty tx) := by
  refine ⟨fun pins s σ H Q I h => ?_⟩
  refine wpAny_Call_method m.base m.few m.line PySem.F.plainAttrs_dict PySem.F.slot_dict_get PySem.F.type_dict_get (thn (ho.run pins s σ H _ I h) fun u s1 ⟨x, H1, I1, rx, a, ex, d, q1⟩ => ?_)
  subst ex
  obtain rfl : u = Value.ref a := rx
  obtain ⟨t1, t2⟩ := isX_at I1 d
  refine ⟨t1, t2, ?_⟩
  rw [m.trees]
  refine Calls.callWith_builtin rfl (Calls.evalArgs_plain (Calls.spliced_cons (thn (he.run pins s1 σ H1 _ I1 q1) fun iv s2 ⟨y, H2, I2, ry, q2⟩ =>
    Calls.spliced_cons (thn (hf.run pins s2 σ H2 _ I2 q2) fun fv s3 ⟨z, H3, I3, rz, ov, g, q3⟩ => Calls.spliced_nil ?_))))
  obtain ⟨xs, k, b, d3, ey, hk, hr⟩ := g
  subst ey
  cases (show iv = Value.ref b from ry)
  refine x_get2 hu I3 d3 hk fun s4 I4 => ⟨_, H3, I4, ?_, q3⟩
  rcases hr with ⟨rfl, h⟩ | ⟨v, u, rfl, h, r⟩
  · rw [h]; exact rz
  · rw [h]; exact r
/-- the dict at a, y put in -/
def XPut (K : PySem.W.Frag) (H : Hp) (a : Addr) (y v : V) (Q : Hp → Prop) : Prop := ∃ xs k b, XD K H a xs ∧ y = .ref b ∧ KeyAt K H k b ∧ xs.length < sizeLine ∧ ∀ r, RelV v r → Q (upd H a (.ext (DtO a (storedH xs k b r))))
def sXPut (K : PySem.W.Frag) (td ty tv : TE) : TS := fun D σ H => tv σ H fun v H1 => td σ H1 fun x H2 => ty σ H2 fun y H3 => ∃ a, x = .ref a ∧ XPut K H3 a y v (D.nx σ)
theorem ps_xput {value : Expr} (hu : X.A.units + 9 < cLine) (ho : PE X o td) (hi : PE X i ty) (hv : PE X value tv) (hs : swapsWith value (some (.Subscript o i tpos)) pos.line X.env = pure false) :
    PS X (.Assign [.Subscript o i tpos] value pos) (sXPut X.K td ty tv) := by
  refine ⟨fun pins s σ H D I h => ?_⟩
  refine wpAny_Assign_Subscript (thn (hv.run pins s σ H _ I h) fun r s1 ⟨v, H1, I1, rv, q1⟩ => thn (ho.run pins s1 σ H1 _ I1 q1) fun u s2 ⟨x, H2, I2, rx, q2⟩ => thn (hi.run pins s2 σ H2 _ I2 q2) fun iv s3 ⟨y, H3, I3, ry, a, ex, g⟩ => ?_) hs
  subst ex
  obtain rfl : u = Value.ref a := rx
  obtain ⟨xs, k, b, d3, ey, hk, hl, q3⟩ := g
  subst ey
  cases (show iv = Value.ref b from ry)
  exact x_setItem hu I3 d3 hk hl fun s4 I4 => ⟨σ, _, I4, q3 r rv⟩
/-- list(d) -/
theorem call_list_x (hc : X.calm = true) : CallR X (.type "list") (fun zs H Q => ∃ d xs, zs = [V.ref d] ∧ XD X.K H d xs ∧ ∀ p, H p = none → Q (.ref p) (upd H p (.lst ((xs.map fun x => x.2.1).map V.ref)))) := by
  intro pins s σ H zs us Q I r h
  obtain ⟨d, xs, rfl, hd, q⟩ := h
  obtain ⟨u, rfl, rx⟩ := r.one
  cases rx
  obtain ⟨y, z, o, es, ep, ho, hx, hdt, he, _, hn⟩ := xd_of I hd
  have l1 : es.size = xs.length := size_of_entries he
  refine PySem.W.kdl_call (kdl_raw y hx hdt) (I.ok.hd hc) ho (by omega) fun h' tk acc' c' kp e it => ?_
  have ea : acc'.toList = xs.map fun x => Value.ref x.2.1 := by
    have hl : acc'.toList.length = xs.length := by rw [Array.length_toList, it.1]; exact l1
    apply List.ext_getElem?
    intro j
    rw [List.getElem?_map]
    cases hj : acc'.toList[j]? with
    | none =>
      have h1 := List.getElem?_eq_none_iff.mp hj
      rw [List.getElem?_eq_none (by omega)]
      all_goals rfl
    | some v =>
      obtain ⟨en, hen, hv⟩ := it.2 j v (by rw [← Array.getElem?_toList]; exact hj)
      have qe := entry_at he j
      rw [hen] at qe
      cases hb : xs[j]? with
      | none =>
        rw [hb] at qe
        exact nomatch (show some en = none from qe)
      | some b =>
        rw [hb] at qe
        have e2 : en = entryOfKey (nestedKind X.prog X.w) b := Option.some.inj qe
        rw [hv, e2]
        all_goals rfl
  have eb : acc'.toList = (xs.map fun x => x.2.1).map Value.ref := by rw [ea, List.map_map]; all_goals rfl
  have rv : Vals ((xs.map fun x => x.2.1).map V.ref) acc'.toList := by rw [eb]; exact vals_refs _
  have hz : ((xs.map fun x => x.2.1).map V.ref).length ≤ sizeLine := by rw [List.length_map, List.length_map]; omega
  refine ⟨.ref s.heap.objs.size, _, I.laid (t' := tk) (o := .lst ((xs.map fun x => x.2.1).map V.ref)) kp (Nat.le_refl _) ?_, rfl, q _ (I.hok.fresh (Nat.le_refl _))⟩
  exact ⟨hz, acc'.toList, c', rv, by rw [Array.toArray_toList]; exact e⟩
end
/-! ### a dict is walked -/
theorem frzX {X : Cx} {pins : List (Addr × Obj)} {σ : L2.St} {H : Hp} {s : Shared} {d : Addr} {od : Obj} {us : List (NestedKey × Addr × Value)} (I : Inv X pins σ H s) (h : H d = some (.frz od (.ext (DtO d us)))) :
    (d == sysModules) = false ∧ s.heap.get? d = some od ∧ od.ExactDict ∧ ∃ (es : Array DictEntry) (ep : Nat), od.data = .dict es ep ∧ es.size = us.length ∧ ∀ (i : Nat) (p : NestedKey × Addr × Value), us[i]? = some p → ∃ en : DictEntry, es[i]? = some en ∧ en.key = .ref p.2.1 := by
  obtain ⟨hd, ⟨n, z, hs, P, w, o', es, ep, ho, hx, hdt, he⟩, _⟩ := (show ObjOk X.prog X.w H s.heap d (.frz od (.ext (DtO d us))) from I.hok d _ h)
  rw [hd] at ho
  cases ho
  refine ⟨hs, hd, hx, es, ep, hdt, size_of_entries he, fun i p e => ?_⟩
  have q := entry_at he i
  rw [e] at q
  exact ⟨_, q, rfl⟩
def ItX (d : Addr) (od : Obj) (us : List (NestedKey × Addr × Value)) : It :=
  ⟨fun i H => H d = some (.frz od (.ext (DtO d us))) ∧ i < us.length, fun i H x H' => H' = H ∧ ∃ p, us[i]? = some p ∧ x = .ref p.2.1, fun i H => H d = some (.frz od (.ext (DtO d us))) ∧ us.length ≤ i⟩
theorem turn_x {P : Program} {w : World} {K : PySem.W.Frag} {tg : Expr} {d : Addr} {od : Obj} {us : List (NestedKey × Addr × Value)} {es : Array DictEntry} {ep : Nat} (it : Addr) (hod : od.data = .dict es ep) : Turn P w K tg (ItX d od us) [it] it (fun i h => h.IsKeyIter it d i us.length ep) where
  mem := by simp
  obj := fun i h st b hb => by
    have e : b = it := by simpa using hb
    subst e
    obtain ⟨oi, e, c, dd⟩ := st
    exact ⟨oi, e, fun v z => by rw [dd] at z; cases z⟩
  keep := fun i h h' st k => st.at fun oi e => k it (by simp) oi e
  item := by
    intro X hP hw hK hc i pins s σ H E I hf st hg
    subst hP hw hK
    obtain ⟨hd, hi⟩ := hg
    obtain ⟨f0, f1, f2, f3, f4, f5⟩ := hf it (by simp)
    obtain ⟨hs, hgd, hx, es', ep', hdt, hsz, ent⟩ := frzX I hd
    obtain ⟨rfl, rfl⟩ := dict_ep hod hdt
    have hkv : us[i]? = some us[i] := List.getElem?_eq_getElem hi
    obtain ⟨en, hen, hkey⟩ := ent i _ hkv
    refine next_key_item st hgd hdt hsz hen fun h' st' sb => ?_
    have I1 : Inv X pins σ H { s with heap := h' } := I.turned (t' := s.toks) (fun b ob hb e => (sb.2 b hb).trans e) f0 f1 f3 f4 f5
    obtain ⟨oi, e, c, dd⟩ := id st'
    exact ⟨en.key, rfl, go_of (s := { s with heap := h' }) e c dd (by decide) ⟨.ref us[i].2.1, H, I1, hkey, ⟨rfl, us[i], hkv, rfl⟩, st', fun b hb => (hf b hb).1⟩⟩
  done := by
    intro X hP hw hK hc i pins s σ H E I hf st hg
    subst hP hw hK
    obtain ⟨hd, hi⟩ := hg
    obtain ⟨f0, f1, f2, f3, f4, f5⟩ := hf it (by simp)
    obtain ⟨hs, hgd, hx, es', ep', hdt, hsz, ent⟩ := frzX I hd
    obtain ⟨rfl, rfl⟩ := dict_ep hod hdt
    exact next_key_end (I.ok.hd hc) st hgd hdt hsz hi fun h' eb => ⟨rfl, I.turned (t' := s.toks) (fun b ob hb e => eb b ob hb e) f0 f1 f3 f4 f5⟩
  self := fun A i s Q E st h => by
    refine wpAny_pyIter_slot st.typeIs F.slot_dict_keyiterator_iter (wpAny_call_entry F.slot_dict_keyiterator_iter st.typeIs F.entry_dict_keyiterator_iter ?_ (F.args_dict_keyiterator_iter_1 _))
    show wpAny _ _ (ret (.ref it)) _ _ s
    exact wpAny_pure ⟨_, rfl, "dict_keyiterator", _, st.typeIs, F.slot_dict_keyiterator_next.lookup, h⟩
def iXK (td : TE) : TI := fun σ H R => td σ H fun x H1 => ∃ d us, x = .ref d ∧ ((H1 d = some (.ext (DtO d us)) ∧ ∀ od, R (ItX d od us) (upd H1 d (.frz od (.ext (DtO d us))))) ∨ ∃ od, H1 d = some (.frz od (.ext (DtO d us))) ∧ R (ItX d od us) H1)
theorem pi_xkeys {X : Cx} {tg e : Expr} {td : TE} (he : PE X e td) : PI X tg e (iXK td) := by
  refine ⟨fun pins s σ H R I h => ?_⟩
  refine thn (he.run pins s σ H _ I h) fun u s1 ⟨x, H1, I1, rx, d, us, ex, q⟩ => ?_
  subst ex
  obtain rfl : u = Value.ref d := rx
  rcases q with ⟨hd, q⟩ | ⟨od, hd, q⟩
  · obtain ⟨od, I2⟩ := I1.lock hd trivial
    obtain ⟨hs, hgd, hx, es, ep, hdt, hsz, ent⟩ := frzX (us := us) (od := od) I2 upd_same
    refine iter_keys hs hgd hx hdt (pi_one (tk := s1.toks) I2 _ (turn_x _ hdt) ⟨_, Heap.get?_push_size _ rfl, rfl, ?_⟩ (q od))
    rw [hsz] <;> rfl
  · obtain ⟨hs, hgd, hx, es, ep, hdt, hsz, ent⟩ := frzX I1 hd
    refine iter_keys hs hgd hx hdt (pi_one (tk := s1.toks) I1 _ (turn_x _ hdt) ⟨_, Heap.get?_push_size _ rfl, rfl, ?_⟩ q)
    rw [hsz] <;> rfl
theorem px_get {K : PySem.W.Frag} {F : Hp} : ∀ {us : List (NestedKey × Addr × Value)} {kvs : List (PD × PD)} {i : Nat} {x : PD}, PX K F us kvs → (kvs.map Prod.fst)[i]? = some x → ∃ p, us[i]? = some p ∧ Dq K F (.ref p.2.1) x
  | _, _, i, x, .nil, h => by simp at h
  | _, _, 0, x, .cons r t, h => by
    simp at h
    subst h
    exact ⟨_, rfl, r.2.2.1⟩
  | _, _, i + 1, x, .cons r t, h => by simpa using px_get (i := i) t (by simpa using h)
theorem walks_x {K : PySem.W.Frag} {F : Hp} {d : Addr} {od : Obj} {us : List (NestedKey × Addr × Value)} {kvs : List (PD × PD)} (ha : F d = some (.frz od (.ext (DtO d us)))) (hd : PX K F us kvs) : Walks K false (ItX d od us) F (kvs.map Prod.fst) := by
  intro Z φ M H m s
  have hs : H d = some (.frz od (.ext (DtO d us))) := fz_sub _ _ (s _ _ ha)
  have hl : us.length = kvs.length := Paired.length hd
  refine ⟨fun i x hx => ?_, fun i hi => ⟨hs, by rw [hl]; simpa using hi⟩⟩
  obtain ⟨p, hp, dp⟩ := px_get hd hx
  refine ⟨⟨hs, (List.getElem?_eq_some_iff.mp hp).1⟩, fun u H' ⟨e, p', hp', hu⟩ => ?_⟩
  subst e
  rw [hp] at hp'
  cases hp'
  subst hu
  exact ⟨Ext.refl, m, dp_mono s _ dp⟩
section
variable {K : PySem.W.Frag} {Z : Addr → Prop} {H : Hp} {φ : List Addr} {M : MS} {n : Nat} {a : Addr}
/-- a dict stands still from here on -/
theorem Mem.freezeD (m : Mem K Z H φ M) {kvs : List (PD × PD)} (hm : M[n]? = some (.dT kvs)) (hn : φ[n]? = some a) : ∃ us, H a = some (.ext (DtO a us)) ∧ ∀ od,
    Ext Z φ M H φ (M.set n (.fdT kvs)) (upd H a (.frz od (.ext (DtO a us)))) ∧ Mem K Z (upd H a (.frz od (.ext (DtO a us)))) φ (M.set n (.fdT kvs)) ∧ Fz Z φ (M.set n (.fdT kvs)) (upd H a (.frz od (.ext (DtO a us)))) a = some (.frz od (.ext (DtO a us))) ∧ PX K (Fz Z φ (M.set n (.fdT kvs)) (upd H a (.frz od (.ext (DtO a us))))) us kvs := by
  have hlt : n < M.length := (List.getElem?_eq_some_iff.mp hm).1
  have la : Lv φ M a := ⟨n, _, hn, hm, rfl⟩
  have nz : ¬ Z a := fun z => m.zl a z la
  have la' : ¬ Lv φ (M.set n (.fdT kvs)) a := by
    rintro ⟨i, u, h1, h2, h3⟩
    have hi : n = i := nd_ix m.nd hn h1
    subst hi
    rw [List.getElem?_set_self hlt] at h2
    cases h2
    cases h3
  obtain ⟨us, hv, hd⟩ := m.obj n a _ hn hm
  refine ⟨us, hv, fun od => ?_⟩
  have hs : Same (Fz Z φ M H) (Fz Z φ (M.set n (.fdT kvs)) (upd H a (.frz od (.ext (DtO a us))))) := fun b u h => by
    obtain ⟨z1, z2, z3⟩ := fz_some h
    have hb : b ≠ a := fun e => z2 (e ▸ la)
    rw [fz_mk z1 (fun z => z2 ((lv_set m hn hb).mp z)), upd_ne hb]
    exact z3
  have hF : Fz Z φ (M.set n (.fdT kvs)) (upd H a (.frz od (.ext (DtO a us)))) a = some (.frz od (.ext (DtO a us))) := by rw [fz_mk nz la', upd_same]
  have hd' : PX K (Fz Z φ (M.set n (.fdT kvs)) (upd H a (.frz od (.ext (DtO a us))))) us kvs := paired_imp (fun _ _ ⟨a, b, c, v, r, d⟩ => ⟨a, b, dp_mono hs _ c, v, r, dp_mono hs _ d⟩) hd
  refine ⟨⟨hs, fun b z => upd_ne fun e => nz (e ▸ z), ⟨[], by simp⟩, fun _ h => .inl h⟩, ⟨by simp [m.len], m.nd, fun z hz => ?_, fun z hz => ?_, fun i b x h1 h2 => ?_⟩, hF, hd'⟩
  · obtain ⟨vs, h⟩ := m.zk z hz
    have hza : z ≠ a := fun e => nz (e ▸ hz)
    exact ⟨vs, (upd_ne hza).trans h⟩
  · by_cases hb : z = a
    · subst hb; exact la'
    · rw [lv_set m hn hb]; exact m.zl z hz
  · by_cases hi : n = i
    · subst hi
      rw [hn] at h1
      cases h1
      rw [List.getElem?_set_self hlt] at h2
      cases h2
      exact ⟨us, od, hF, hd'⟩
    · rw [List.getElem?_set_ne hi] at h2
      have hb : b ≠ a := fun e => hi (nd_ix m.nd hn (e ▸ h1))
      exact objr_mono hs (fun _ => upd_ne hb) (m.obj i b x h1 h2)
end
theorem pi_mitems {X : Cx} {tg l : Expr} {m : Sm W} (hl : PE X l (tOf X.K m)) : PI X tg l (tOfI X.K (mItems m)) := by
  refine pi_imp (pi_or (pi_or (pi_list hl) (pi_tup hl)) (pi_xkeys hl)) fun σ H Q ⟨Z, φ, Δ, M, t, xs, M', R, h, q⟩ => ?_
  unfold mItems at h
  split at h
  · rename_i w M1 hx
    by_cases ht : ∃ s ys, w = .d s (.tuple ys)
    · obtain ⟨s, ys, rfl⟩ := ht
      refine .inl (.inr ⟨Z, φ, Δ, M, _, M1, R, hx, fun v φ1 H1 e1 m1 r1 => ?_⟩)
      cases h
      cases r1 with
      | tup h1 h2 => exact ⟨_, rfl, ⟨_, (tupU (sq_t fz_sub h1)).sq⟩, q _ φ1 H1 e1 m1 (walks_t (tupU h1) h2)⟩
    by_cases hdd : ∃ n kvs, w = .loc n ∧ (M1[n]? = some (.dT kvs) ∨ M1[n]? = some (.fdT kvs))
    · obtain ⟨n, kvs, rfl, hk⟩ := hdd
      refine .inr ⟨Z, φ, Δ, M, _, M1, R, hx, fun v φ1 H1 e1 m1 r1 => ?_⟩
      obtain ⟨a, ha, rfl⟩ := r1
      rcases hk with hk | hk
      · have h2 : fzQ (.loc n) M1 = some ((false, kvs.map Prod.fst), M1.set n (.fdT kvs)) := by simp only [fzQ, hk]
        rw [h2] at h
        cases h
        obtain ⟨us, hv, hq⟩ := m1.freezeD hk ha
        refine ⟨a, us, rfl, .inl ⟨hv, fun od => ?_⟩⟩
        obtain ⟨e2, m2, hF, hp⟩ := hq od
        exact q _ φ1 _ (e1.trans e2) m2 (walks_x hF hp)
      · have h2 : fzQ (.loc n) M1 = some ((false, kvs.map Prod.fst), M1) := by simp only [fzQ, hk]
        rw [h2] at h
        cases h
        obtain ⟨us, od, hF, hp⟩ := m1.obj _ _ _ ha hk
        exact ⟨a, us, rfl, .inr ⟨od, fz_sub _ _ hF, q _ φ1 H1 e1 m1 (walks_x hF hp)⟩⟩
    · refine .inl (.inl ⟨Z, φ, Δ, M, _, M1, R, hx, fun v φ1 H1 e1 m1 r1 => ?_⟩)
      have hl : ∃ a vs, v = .ref a ∧ Ext Z φ1 M1 H1 φ1 M' H1 ∧ Mem X.K Z H1 φ1 M' ∧ SqL X.K (Fz Z φ1 M' H1) a vs ∧ DqAll (kk t X.K) (Fz Z φ1 M' H1) vs xs := by
        unfold fzQ at h
        split at h
        · exact absurd ⟨_, _, rfl⟩ ht
        · cases h
          cases r1 with
          | lst h1 h2 => exact ⟨_, _, rfl, Ext.refl, m1, .inl (.inl h1), h2⟩
        · obtain ⟨a, ha, rfl⟩ := r1
          split at h
          · rename_i s ys hy
            cases h
            obtain ⟨e, m', d⟩ := m1.freeze hy ha
            cases d with
            | lst h1 h2 => exact ⟨a, _, rfl, e, m', .inl (.inl h1), h2⟩
          · rename_i ys hy
            cases h
            obtain ⟨vs, hv, hd⟩ := m1.obj _ _ _ ha hy
            exact ⟨a, _, rfl, Ext.refl, m1, .inl (.inl hv), hd⟩
          · rename_i kvs hk
            exact absurd ⟨_, kvs, rfl, .inl hk⟩ hdd
          · rename_i kvs hk
            exact absurd ⟨_, kvs, rfl, .inr hk⟩ hdd
          · cases h
        · cases h
          obtain ⟨a, vs, rfl, h1, h2⟩ := r1
          exact ⟨a, vs, rfl, Ext.refl, m1, h1, h2⟩
        · cases h
      obtain ⟨a, vs, rfl, e2, m2, hr, hd⟩ := hl
      exact ⟨a, rfl, ⟨vs, sq_l fz_sub hr⟩, q _ φ1 H1 (e1.trans e2) m2 (walks_l hr hd)⟩
  · cases h
end Ek

/-! EkD: dicts whose keys are tuples -/
namespace Ek
open PySem PySem.Spec PyProof.Rows L2
def valD (kvs : List (PD × PD)) (k : NestedKey) : Option PD := (kvs.find? fun kv => decide (nk kv.1 = some k)).map (·.2)
def putD (kvs : List (PD × PD)) (d : PD) (k : NestedKey) (v : PD) : List (PD × PD) :=
  if (kvs.any fun kv => decide (nk kv.1 = some k)) = true then kvs.map (fun kv => if nk kv.1 = some k then (kv.1, v) else kv) else kvs ++ [(d, v)]
section
variable {K : PySem.W.Frag} {F : Hp}
theorem px_val (k : NestedKey) : ∀ {us : List (NestedKey × Addr × Value)} {kvs : List (PD × PD)}, PX K F us kvs → (valX us k = none ∧ valD kvs k = none) ∨ ∃ u v d, valX us k = some u ∧ valD kvs k = some d ∧ RelV v u ∧ Dq K F v d
  | _, _, .nil => .inl ⟨rfl, rfl⟩
  | _, _, .cons (a := p) (b := q) h t => by
    obtain ⟨e, _, _, v, rv, hd⟩ := h
    by_cases hk : p.1 = k
    · have hk2 : nk q.1 = some k := by rw [e, hk]
      exact .inr ⟨p.2.2, v, q.2, by simp [valX, atKey, List.find?_cons, hk], by simp [valD, List.find?_cons, hk2], rv, hd⟩
    · have hk2 : ¬ nk q.1 = some k := fun z => hk (by rw [e] at z; exact Option.some.inj z)
      rcases px_val k t with ⟨h1, h2⟩ | ⟨u, v, d, h1, h2, h3⟩
      · exact .inl ⟨by simpa [valX, atKey, List.find?_cons, hk] using h1, by simpa [valD, List.find?_cons, hk2] using h2⟩
      · exact .inr ⟨u, v, d, by simpa [valX, atKey, List.find?_cons, hk] using h1, by simpa [valD, List.find?_cons, hk2] using h2, h3⟩
theorem px_any (k : NestedKey) : ∀ {us : List (NestedKey × Addr × Value)} {kvs : List (PD × PD)}, PX K F us kvs → (atKey us k).isSome = (kvs.any fun kv => decide (nk kv.1 = some k))
  | _, _, .nil => rfl
  | _, _, .cons (a := p) (b := q) h t => by
    obtain ⟨e, _⟩ := h
    rw [List.any_cons, ← px_any k t, e]
    by_cases hk : p.1 = k
    · simp [atKey, List.find?_cons, hk]
    · simp [atKey, List.find?_cons, hk]
theorem px_map (k : NestedKey) {v : V} {u : Value} {d : PD} (rv : RelV v u) (hd : Dq K F v d) : ∀ {us : List (NestedKey × Addr × Value)} {kvs : List (PD × PD)}, PX K F us kvs → PX K F (us.map (PySem.putAt k u)) (kvs.map fun kv => if nk kv.1 = some k then (kv.1, d) else kv)
  | _, _, .nil => .nil
  | _, _, .cons (a := p) (b := q) h t => by
    refine .cons ?_ (px_map k rv hd t)
    obtain ⟨e, h1, h2, h3⟩ := h
    unfold PySem.putAt
    by_cases hk : p.1 = k
    · have hk2 : nk q.1 = some k := by rw [e, hk]
      simp only [if_pos hk, if_pos hk2]
      exact ⟨e, h1, h2, v, rv, hd⟩
    · have hk2 : ¬ nk q.1 = some k := fun z => hk (by rw [e] at z; exact Option.some.inj z)
      simp only [if_neg hk, if_neg hk2]
      exact ⟨e, h1, h2, h3⟩
theorem px_snoc {p : NestedKey × Addr × Value} {q : PD × PD} (h0 : PX1 K F p q) : ∀ {us : List (NestedKey × Addr × Value)} {kvs : List (PD × PD)}, PX K F us kvs → PX K F (us ++ [p]) (kvs ++ [q])
  | _, _, .nil => .cons h0 .nil
  | _, _, .cons h t => .cons h (px_snoc h0 t)
theorem px_put (k : NestedKey) {kd : PD} {b : Addr} {v : V} {u : Value} {d : PD} (hk : nk kd = some k) (h8 : k.depth ≤ 8) (hb : Dq K F (.ref b) kd) (rv : RelV v u) (hd : Dq K F v d) {us : List (NestedKey × Addr × Value)} {kvs : List (PD × PD)} (h : PX K F us kvs) : PX K F (storedH us k b u) (putD kvs kd k d) := by
  unfold storedH putD
  rw [px_any k h]
  split
  · exact px_map k rv hd h
  · exact px_snoc ⟨hk, h8, hb, v, rv, hd⟩ h
theorem px_len : ∀ {us : List (NestedKey × Addr × Value)} {kvs : List (PD × PD)}, PX K F us kvs → us.length = kvs.length
  | _, _, .nil => rfl
  | _, _, .cons _ t => by simp [px_len t]
theorem px_keys {H : Hp} (e : Same F H) : ∀ {us : List (NestedKey × Addr × Value)} {kvs : List (PD × PD)}, PX K F us kvs → ∀ x, x ∈ us → KeyAt K H x.1 x.2.1
  | _, _, .nil, x, hx => by cases hx
  | _, _, .cons (a := p) (b := q) h t, x, hx => by
    rcases List.mem_cons.mp hx with rfl | hx
    · exact ⟨h.2.1, q.1, h.1, dp_mono e _ h.2.2.1⟩
    · exact px_keys e t x hx
theorem px_refs : ∀ {us : List (NestedKey × Addr × Value)} {kvs : List (PD × PD)}, PX K F us kvs → DqAll K F ((us.map fun x => x.2.1).map V.ref) (kvs.map (·.1))
  | _, _, .nil => .nil
  | _, _, .cons h t => .cons h.2.2.1 (px_refs t)
end
/-! ### reading -/
def dKey : W → Option (PD × NestedKey)
  | .d _ (.tuple ks) => match nks ks with
    | some l => if (NestedKey.tup l).depth ≤ 8 then some (.tuple ks, .tup l) else none
    | none => none
  | _ => none
def dGet (x y : W) (M : MS) : Option (Option PD) := match x with
  | .loc n => (match M[n]?, dKey y with
    | some (.dT kvs), some k => some (valD kvs k.2)
    | _, _ => none)
  | _ => none
section
variable {K : PySem.W.Frag} {Z : Addr → Prop} {φ : List Addr} {M M' : MS} {H : Hp}
theorem dKey_ok {y : V} {wy : W} {k : PD × NestedKey} (m : Mem K Z H φ M) (r : RW K (Fz Z φ M H) φ y wy) (h : dKey wy = some k) : ∃ b, y = .ref b ∧ nk k.1 = some k.2 ∧ k.2.depth ≤ 8 ∧ Dq K (Fz Z φ M H) (.ref b) k.1 := by
  unfold dKey at h
  split at h
  · rename_i t ks
    split at h
    · rename_i l hl
      split at h
      · rename_i h8
        cases h
        have r := kkU (show Dq (kk t K) (Fz Z φ M H) y (.tuple ks) from r)
        cases r with
        | tup h1 h2 => exact ⟨_, rfl, by unfold nk; rw [hl], h8, .tup h1 h2⟩
      · cases h
    · cases h
  · cases h
theorem xd_mem {kvs : List (PD × PD)} {n : Nat} {a : Addr} (m : Mem K Z H φ M) (ha : φ[n]? = some a) (hn : M[n]? = some (.dT kvs)) : ∃ us, XD K H a us ∧ PX K (Fz Z φ M H) us kvs := by
  obtain ⟨us, hu, hp⟩ := m.obj n a _ ha hn
  exact ⟨us, ⟨hu, px_keys fz_sub hp⟩, hp⟩
theorem dGet_ok {x y : V} {wx wy : W} {o : Option PD} (m : Mem K Z H φ M) (rx : RW K (Fz Z φ M H) φ x wx) (ry : RW K (Fz Z φ M H) φ y wy) (h : dGet wx wy M = some o) :
    ∃ a r, x = .ref a ∧ IsX K H a ∧ XGet K H a y r ∧ ((r = none ∧ o = none) ∨ ∃ v d, r = some v ∧ o = some d ∧ Dq K (Fz Z φ M H) v d) := by
  unfold dGet at h
  split at h
  · rename_i n
    split at h
    · rename_i kvs k hn hk
      cases h
      obtain ⟨a, ha, rfl⟩ := rx
      obtain ⟨us, hu, hp⟩ := xd_mem m ha hn
      obtain ⟨b, rfl, h1, h2, h3⟩ := dKey_ok m ry hk
      have kat : KeyAt K H k.2 b := ⟨h2, k.1, h1, dp_mono fz_sub _ h3⟩
      rcases px_val k.2 hp with ⟨e1, e2⟩ | ⟨u, v, d, e1, e2, rv, hd⟩
      · exact ⟨a, none, rfl, ⟨us, hu⟩, ⟨us, k.2, b, hu, rfl, kat, .inl ⟨rfl, e1⟩⟩, .inl ⟨rfl, e2⟩⟩
      · exact ⟨a, some v, rfl, ⟨us, hu⟩, ⟨us, k.2, b, hu, rfl, kat, .inr ⟨v, u, rfl, e1, rv⟩⟩, .inr ⟨v, d, rfl, e2, hd⟩⟩
    · cases h
  · cases h
def gIx : W → W → MS → Option (W × MS) := fun x y M => match dGet x y M with
  | some (some v) => some (.d (nf false v) v, M)
  | some none => none
  | none => gIx0 x y M
def gIn (neg : Bool) : W → W → MS → Option (W × MS) := fun x y M => match dGet y x M with
  | some o => some (.d true (.bool (neg != o.isSome)), M)
  | none => gIn0 neg x y M
end
section
variable {X : Cx} {a b e o i f : Expr} {pos : Pos}
theorem pe_mixd {ma mb : Sm W} (hu : X.A.units + 9 < cLine) (ha : PE X a (tOf X.K ma)) (hb : PE X b (tOf X.K mb)) (hs : PlainIx b) : PE X (.Subscript a b pos) (tOf X.K (mBin gIx ma mb)) := by
  have h1 := pe_xget (pos := pos) hu ha hb (show NoSl b from hs)
  have h2 : PE X (.Subscript a b pos) (tOf X.K (mBin gIx0 ma mb)) := pe_mix ix_seq gIx0_ok ha hb hs
  have h3 : PE X (.Subscript a b pos) (fun σ H Q => tXGet X.K (tOf X.K ma) (tOf X.K mb) σ H Q ∨ tOf X.K (mBin gIx0 ma mb) σ H Q) := ⟨fun pins s σ H Q I q => q.elim (h1.run pins s σ H Q I) (h2.run pins s σ H Q I)⟩
  refine pe_imp h3 fun σ H Q ⟨Z, φ, Δ, M, w, M', R, h, q⟩ => ?_
  unfold mBin at h
  split at h
  · rename_i x M1 hx
    split at h
    · rename_i y M2 hy
      unfold gIx at h
      split at h
      · rename_i v hv
        cases h
        refine .inl ⟨Z, φ, Δ, M, x, M1, R, hx, fun vx φ1 H1 e1 m1 r1 => ?_⟩
        refine ⟨Z, φ1, Δ, M1, y, _, R.step e1 m1, hy, fun vy φ2 H2 e2 m2 r2 => ?_⟩
        obtain ⟨a, r, rfl, _, g, hr⟩ := dGet_ok m2 (r1.ext e2) r2 hv
        rcases hr with ⟨_, z⟩ | ⟨u, d, rfl, z, hd⟩
        · cases z
        · cases z
          exact ⟨a, u, rfl, g, q u φ2 H2 (e1.trans e2) m2 (dq_nf (t := false) hd)⟩
      · cases h
      · refine .inr ⟨Z, φ, Δ, M, w, M', R, ?_, q⟩
        unfold mBin
        rw [hx]
        simp only []
        rw [hy]
        exact h
    · cases h
  · cases h
theorem op_alt {fn : Value → Value → Sem Value} {r r' : R2} (h : OpR X fn r) (h' : OpR X fn r') : OpR X fn (fun x y H Q => r x y H Q ∨ r' x y H Q) := fun pins s σ H x y v u Q I rx ry q => q.elim (h pins s σ H x y v u Q I rx ry) (h' pins s σ H x y v u Q I rx ry)
theorem call_alt {fn : Value} {r r' : List V → Hp → VK → Prop} (h : CallR X fn r) (h' : CallR X fn r') : CallR X fn (fun xs H Q => r xs H Q ∨ r' xs H Q) := fun pins s σ H xs us Q I rx q => q.elim (h pins s σ H xs us Q I rx) (h' pins s σ H xs us Q I rx)
theorem isSome_of {r : Option V} {o : Option PD} {K : PySem.W.Frag} {F : Hp} (h : (r = none ∧ o = none) ∨ ∃ v d, r = some v ∧ o = some d ∧ Dq K F v d) : r.isSome = o.isSome := by
  rcases h with ⟨rfl, rfl⟩ | ⟨v, d, rfl, rfl, _⟩ <;> rfl
theorem gInD_ok {K : PySem.W.Frag} {r : R2} (h0 : OpD K r (gIn0 false)) : OpD K (fun x y H Q => rXIn K x y H Q ∨ r x y H Q) (gIn false) := by
  intro Z φ M H x y wx wy w M' Q m rx ry hg q
  unfold gIn at hg
  split at hg
  · rename_i o ho
    cases hg
    obtain ⟨a, r, rfl, _, g, hr⟩ := dGet_ok m ry rx ho
    refine .inl ⟨a, r, rfl, g, ?_⟩
    rw [isSome_of hr]
    refine q _ φ H Ext.refl m ?_
    rw [Bool.false_bne]
    exact .bl _
  · exact .inr (h0 Z φ M H x y wx wy w M' Q m rx ry hg q)
theorem gNotInD_ok {K : PySem.W.Frag} {r : R2} (h0 : OpD K r (gIn0 true)) : OpD K (fun x y H Q => rXNotIn K x y H Q ∨ r x y H Q) (gIn true) := by
  intro Z φ M H x y wx wy w M' Q m rx ry hg q
  unfold gIn at hg
  split at hg
  · rename_i o ho
    cases hg
    obtain ⟨a, r, rfl, _, g, hr⟩ := dGet_ok m ry rx ho
    refine .inl ⟨a, r, rfl, g, ?_⟩
    rw [isSome_of hr]
    refine q _ φ H Ext.refl m ?_
    rw [Bool.true_bne]
    exact .bl _
  · exact .inr (h0 Z φ M H x y wx wy w M' Q m rx ry hg q)
/-! ### a new one -/
def mNewD : Sm W := fun _ M => some (.loc M.length, M ++ [.dT []])
theorem pe_mnewD : PE X (.Dict [] [] pos) (tOf X.K mNewD) := by
  refine pe_imp pe_xnew fun σ H Q ⟨Z, φ, Δ, M, w, M', R, h, q⟩ => ?_
  cases h
  intro p hp
  obtain ⟨e1, m1, f1⟩ := R.mem.born (o := .dT []) (u := .ext (DtO p [])) hp rfl ⟨[], upd_same, .nil⟩
  refine q (.ref p) _ _ e1 m1 ⟨p, ?_, rfl⟩
  rw [← R.mem.len]
  simp
/-! ### d.get(k, x) -/
def mGet2 (o e f : Sm W) : Sm W := fun Δ M => match o Δ M with
  | some (.loc n, M1) => (match M1[n]? with
    | some (.dT _) => (match e Δ M1 with
      | some (y, M2) => (match f Δ M2 with
        | some (z, M3) => (match dGet (.loc n) y M3 with
          | some (some v) => some (.d (nf false v) v, M3)
          | some none => some (z, M3)
          | none => none)
        | none => none)
      | none => none)
    | _ => none)
  | _ => none
theorem pe_mget2 {mo me mf : Sm W} {apos cpos : Pos} (hu : X.A.units + 9 < cLine) (ho : PE X o (tOf X.K mo)) (he : PE X e (tOf X.K me)) (hf : PE X f (tOf X.K mf)) (m : M2 X o "get" apos e f cpos) : PE X (.Call (.Attribute o "get" apos) [e, f] [] cpos) (tOf X.K (mGet2 mo me mf)) := by
  refine pe_imp (pe_xget2 hu ho he hf m) fun σ H Q ⟨Z, φ, Δ, M, w, M', R, h, q⟩ => ?_
  unfold mGet2 at h
  split at h
  · rename_i n M1 hx
    split at h
    · rename_i kvs hn
      split at h
      · rename_i y M2 hy
        split at h
        · rename_i z M3 hz
          have key : ∀ oo, dGet (.loc n) y M3 = some oo → (∀ (v : V) (φ3 : List Addr) (H3 : Hp), Ext Z φ M H φ3 M3 H3 → Mem X.K Z H3 φ3 M3 → ∀ zv, RW X.K (Fz Z φ3 M3 H3) φ3 zv z → ∀ r, ((r = none ∧ oo = none) ∨ ∃ v d, r = some v ∧ oo = some d ∧ Dq X.K (Fz Z φ3 M3 H3) v d) → Q (r.getD zv) H3) → tXGet2 X.K (tOf X.K mo) (tOf X.K me) (tOf X.K mf) σ H Q := by
            intro oo hoo fin
            refine ⟨Z, φ, Δ, M, _, M1, R, hx, fun vx φ1 H1 e1 m1 r1 => ?_⟩
            obtain ⟨a, ha, rfl⟩ := r1
            obtain ⟨us, hus, hp⟩ := xd_mem m1 ha hn
            refine ⟨a, rfl, ⟨us, hus⟩, Z, φ1, Δ, M1, y, M2, R.step e1 m1, hy, fun vy φ2 H2 e2 m2 r2 => ?_⟩
            refine ⟨Z, φ2, Δ, M2, z, M3, R.step (e1.trans e2) m2, hz, fun vz φ3 H3 e3 m3 r3 => ?_⟩
            have ra : RW X.K (Fz Z φ3 M3 H3) φ3 (.ref a) (.loc n) := RW.ext (w := .loc n) ⟨a, ha, rfl⟩ (e2.trans e3)
            obtain ⟨a', r, ea, _, g, hr⟩ := dGet_ok m3 ra (r2.ext e3) hoo
            cases ea
            exact ⟨r, g, fin .non φ3 H3 ((e1.trans e2).trans e3) m3 vz r3 r hr⟩
          split at h
          · rename_i v hv
            cases h
            refine key _ hv fun _ φ3 H3 e3 m3 zv rz r hr => ?_
            rcases hr with ⟨_, z⟩ | ⟨u, d, rfl, z, hd⟩
            · cases z
            · cases z
              exact q u φ3 H3 e3 m3 (dq_nf (t := false) hd)
          · rename_i hv
            cases h
            refine key _ hv fun _ φ3 H3 e3 m3 zv rz r hr => ?_
            rcases hr with ⟨rfl, _⟩ | ⟨u, d, rfl, z, hd⟩
            · exact q zv φ3 H3 e3 m3 rz
            · cases z
          · cases h
        · cases h
      · cases h
    · cases h
  · cases h
/-! ### d[k] = x -/
def putAt (n : Nat) (y : W) (x : PD) (M : MS) : Option MS := match M[n]?, dKey y with
  | some (.dT kvs), some k => if kvs.length < 100000 then some (M.set n (.dT (putD kvs k.1 k.2 x))) else none
  | _, _ => none
def sPutD (o i e : Sm W) : Ss := fun Δ M => match e Δ M with
  | some (w, M1) => (match fz1 w M1 with
    | some (s, x, M2) => (match o Δ M2 with
      | some (.loc n, M3) => (match i Δ M3 with
        | some (y, M4) => (match putAt n y x M4 with
          | some M5 => some (.nx, Δ, M5)
          | none => none)
        | none => none)
      | _ => none)
    | none => none)
  | none => none
theorem ps_putD {mo mi me : Sm W} {tpos : Pos} (hu : X.A.units + 9 < cLine) (ho : PE X o (tOf X.K mo)) (hi : PE X i (tOf X.K mi)) (he : PE X e (tOf X.K me)) (hs : swapsWith e (some (.Subscript o i tpos)) pos.line X.env = pure false) : PS X (.Assign [.Subscript o i tpos] e pos) (tOfS X.K (sPutD mo mi me)) := by
  refine ps_imp (ps_xput hu ho hi he hs) fun D σ H ⟨Z, φ, Δ, M, f, Δ', M', R, h, q⟩ => ?_
  unfold sPutD at h
  split at h
  · rename_i w M1 hx
    split at h
    · rename_i s x M2 hf
      split at h
      · rename_i n M3 hn
        split at h
        · rename_i y M4 hk
          split at h
          · rename_i M5 h5
            cases h
            refine ⟨Z, φ, Δ, M, w, M1, R, hx, fun v φ1 H1 e1 m1 r1 => ?_⟩
            obtain ⟨e2, m2, d2⟩ := fz1_ok m1 r1 hf
            have R2 := R.step (e1.trans e2) m2
            refine ⟨Z, φ1, Δ, M2, _, M3, R2, hn, fun u φ3 H3 e3 m3 r3 => ?_⟩
            obtain ⟨a, ha, rfl⟩ := r3
            refine ⟨Z, φ3, Δ, M3, _, M4, R2.step e3 m3, hk, fun z φ4 H4 e4 m4 r4 => ?_⟩
            obtain ⟨tl, htl⟩ := e4.pre
            have ha4 : φ4[n]? = some a := by
              rw [htl, List.getElem?_append_left (List.getElem?_eq_some_iff.mp ha).1]
              exact ha
            unfold putAt at h5
            split at h5
            · rename_i kvs k hnn hkk
              split at h5
              · rename_i hlen
                cases h5
                obtain ⟨us, hus, hp⟩ := xd_mem m4 ha4 hnn
                obtain ⟨b, rfl, k1, k2, k3⟩ := dKey_ok m4 r4 hkk
                have dv : Dq X.K (Fz Z φ4 M4 H4) v x := kkU (dp_mono (e3.trans e4).fz _ d2)
                refine ⟨a, rfl, us, k.2, b, hus, rfl, ⟨k2, k.1, k1, dp_mono fz_sub _ k3⟩, by rw [px_len hp]; exact Nat.lt_of_lt_of_le hlen (by decide), fun r rv => ?_⟩
                obtain ⟨e5, m5, f5⟩ := m4.put (o' := .dT (putD kvs k.1 k.2 x)) (u := .ext (DtO a (storedH us k.2 b r))) ha4 hnn rfl rfl ⟨_, upd_same, px_put k.2 k1 k2 k3 rv dv hp⟩
                have e := (((e1.trans e2).trans e3).trans e4).trans e5
                exact q σ φ4 _ e (R.step e m5)
              · cases h5
            · cases h5
          · cases h
        · cases h
      · cases h
    · cases h
  · cases h
/-- xs[i] = e, d[k] = e -/
def sSub (o i e : Sm W) : Ss := fun Δ M => match sPutD o i e Δ M with
  | some r => some r
  | none => sSub0 o i e Δ M
theorem ps_msub {mo mi me : Sm W} {tpos : Pos} (h1 : PS X (.Assign [.Subscript o i tpos] e pos) (tOfS X.K (sPutD mo mi me))) (h2 : PS X (.Assign [.Subscript o i tpos] e pos) (tOfS X.K (sSub0 mo mi me))) : PS X (.Assign [.Subscript o i tpos] e pos) (tOfS X.K (sSub mo mi me)) := by
  have h3 : PS X (.Assign [.Subscript o i tpos] e pos) (fun D σ H => tOfS X.K (sPutD mo mi me) D σ H ∨ tOfS X.K (sSub0 mo mi me) D σ H) := ⟨fun pins s σ H D I q => q.elim (h1.run pins s σ H D I) (h2.run pins s σ H D I)⟩
  refine ps_imp h3 fun D σ H ⟨Z, φ, Δ, M, f, Δ', M', R, h, q⟩ => ?_
  unfold sSub at h
  split at h
  · rename_i r hr
    cases h
    exact .inl ⟨Z, φ, Δ, M, f, Δ', M', R, hr, q⟩
  · exact .inr ⟨Z, φ, Δ, M, f, Δ', M', R, h, q⟩
/-! ### range(a, b, -1) -/
def rangeDn (hi : Int) (n : Nat) : List PD := (List.range n).map fun (i : Nat) => PyData.int (hi - (i : Int))
theorem walks_dn {K : PySem.W.Frag} {F : Hp} (hi : Int) (n : Nat) : Walks K true (Itc hi (-1) n) F (rangeDn hi n) := by
  intro Z φ M H m sm
  refine ⟨fun i x hx => ?_, fun i hge => ?_⟩
  · unfold rangeDn at hx
    rw [List.getElem?_map] at hx
    have hi' : i < n := by
      rcases Nat.lt_or_ge i n with h | h
      · exact h
      · rw [List.getElem?_eq_none (by simpa using h)] at hx; cases hx
    rw [List.getElem?_range hi'] at hx
    cases hx
    refine ⟨hi', fun v H' hy => ?_⟩
    obtain ⟨rfl, rfl⟩ := hy
    refine ⟨Ext.refl, m, ?_⟩
    have e : hi + (i : Int) * (-1) = hi - (i : Int) := by omega
    rw [e]
    exact .int _
  · have : n ≤ i := by simpa [rangeDn] using hge
    exact this
def mRangeDn (a : Sm (List W)) : Sm (Bool × List PD) := fun Δ M => match a Δ M with
  | some ([.d _ (.int i), .d _ (.int j), .d _ (.int c)], M1) => if c = -1 ∧ -(2 ^ 62) ≤ i ∧ i < 2 ^ 62 ∧ -(2 ^ 62) ≤ j ∧ j < 2 ^ 62 then some ((true, rangeDn i (i - j).toNat), M1) else none
  | _ => none
theorem rws3 {K : PySem.W.Frag} {F : Hp} {φ : List Addr} {vs : List V} {a b c : W} (r : RWs K F φ vs [a, b, c]) : ∃ u v w, vs = [u, v, w] ∧ RW K F φ u a ∧ RW K F φ v b ∧ RW K F φ w c := by
  cases r with
  | cons h1 r =>
    cases r with
    | cons h2 r =>
      cases r with
      | cons h3 r =>
        cases r
        exact ⟨_, _, _, rfl, h1, h2, h3⟩
theorem pi_mrangeDn {ms : Sm (List W)} {tg : Expr} {c : Expr} {p : Pos} (hg : Gl X "range") (hm : X.mg "range" = none) (ha : PA X [a, b, c] (tOfA X.K ms)) (hs : starEach [a, b, c] X.env = (false, eval a X.env) :: starEach [b, c] X.env) (hpl : (backTo pos (starEach [b, c] X.env)).any (·.1) = false) : PI X tg (.Call (.Name "range" p) [a, b, c] [] pos) (tOfI X.K (mRangeDn ms)) := by
  refine pi_imp (pi_range3 hg hm ha hs hpl) fun σ H Q ⟨Z, φ, Δ, M, t, xs, M', R, h, q⟩ => ?_
  unfold mRangeDn at h
  split at h
  · rename_i s1 i s2 j s3 c' M1 hx
    split at h
    · rename_i hc
      cases h
      refine ⟨Z, φ, Δ, M, _, _, R, hx, fun vs φ1 H1 e1 m1 r1 => ?_⟩
      obtain ⟨u, v, w, rfl, ru, rv, rw'⟩ := rws3 r1
      cases ru
      cases rv
      cases rw'
      obtain ⟨rfl, h1, h2, h3, h4⟩ := hc
      exact ⟨i, j, -1, _, rfl, RgC.neg h1 h2 h3 h4, q _ φ1 H1 e1 m1 (walks_dn i _)⟩
    · cases h
  · cases h
theorem dGet_int {x : W} {s : Bool} {i : Int} {M : MS} : dGet x (.d s (.int i)) M = none := by
  unfold dGet
  cases x with
  | loc n =>
    have : dKey (.d s (.int i)) = none := rfl
    simp only [this]
    split
    · rename_i h; cases h
    · rfl
  | d t y => rfl
  | s xs => rfl
  | fn n => rfl
theorem gIx_int {x : W} {s : Bool} {i : Int} {M : MS} : gIx x (.d s (.int i)) M = gIx0 x (.d s (.int i)) M := by
  unfold gIx
  rw [dGet_int]
/-! ### list(d) -/
def bKeys : Fd
  | [.loc n], M => match M[n]? with
    | some (.dT kvs) => some (.d false (.list (kvs.map (·.1))), M)
    | _ => none
  | _, _ => none
def bList : Fd := fun ws M => match bKeys ws M with
  | some r => some r
  | none => bList0 ws M
theorem bList_at {k : Nat} {M : MS} {t : Bool} {xs : List PD} (h : M[k]? = some (.lst t xs) ∨ M[k]? = some (.fzn t xs)) : bList [.loc k] M = bList0 [.loc k] M := by
  unfold bList bKeys
  rcases h with h | h <;> simp only [h]
theorem bList_ok {K : PySem.W.Frag} {r : List V → Hp → VK → Prop} (h0 : FnD K r bList0) : FnD K (fun zs H Q => (∃ d xs, zs = [V.ref d] ∧ XD K H d xs ∧ ∀ p, H p = none → Q (.ref p) (upd H p (.lst ((xs.map fun x => x.2.1).map V.ref)))) ∨ r zs H Q) bList := by
  intro Z φ M H xs ws w M' Q m rs h q
  unfold bList at h
  split at h
  · rename_i z hz
    cases h
    unfold bKeys at hz
    split at hz
    · rename_i n
      split at hz
      · rename_i kvs hn
        cases hz
        obtain ⟨v, rfl, rv⟩ := rws1 rs
        obtain ⟨a, ha, rfl⟩ := rv
        obtain ⟨us, hus, hp⟩ := xd_mem m ha hn
        refine .inl ⟨a, us, rfl, hus, fun p hpn => ?_⟩
        exact q.newL (t := false) m (px_refs hp) p hpn
      · cases hz
    · cases hz
  · exact .inr (h0 Z φ M H xs ws w M' Q m rs h q)
/-! ### the text of data -/
def bRepr : Fd
  | [w], M => match rdD w M with
    | some x => if PyData.showable x = true ∧ x.shown.length ≤ 1000000 ∧ SeqAt.shaped x = true then some (.d true (.str x.shown), M) else none
    | none => none
  | _, _ => none
def rRepr (K : PySem.W.Frag) : List V → Hp → VK → Prop := fun xs H Q => ∃ v d, xs = [v] ∧ Dp K H v d ∧ PyData.showable d = true ∧ d.shown.length ≤ 1000000 ∧ SeqAt.shaped d = true ∧ Q (.str d.shown) H
theorem bRepr_ok {K : PySem.W.Frag} : FnD K (rRepr K) bRepr := by
  intro Z φ M H xs ws w M' Q m r h q
  unfold bRepr at h
  split at h
  · split at h
    · rename_i x hx
      split at h
      · rename_i hc
        cases h
        obtain ⟨v, rfl, rv⟩ := rws1 r
        exact ⟨v, x, rfl, dq_dp _ (rdD_ok m rv hx), hc.1, hc.2.1, hc.2.2, q _ φ H Ext.refl m (.str _)⟩
      · cases h
    · cases h
  · cases h
theorem call_reprD (hq : Quiet X.A) (hu : X.A.units + 65 < cLine) : CallR X (.builtin "repr") (rRepr X.K) := by
  intro pins s σ H xs us Q I r h
  obtain ⟨v, d, rfl, hd, sh, sz, hp, q⟩ := h
  obtain ⟨u, rfl, ru⟩ := vals1 r
  have lay := SeqAt.canLay_of_shaped hp
  have dep := SeqAt.depth_of_shaped hp
  have sz' : d.shown.length ≤ sizeLine := Nat.le_trans sz (by decide)
  obtain ⟨as, rd⟩ := Dp.reads I d v u hd ru
  cases rd with
  | none => exact PySem.P.repr_of_none ⟨.str _, H, I.tok _, ⟨_, rfl⟩, q⟩
  | bool b => exact PySem.P.repr_of_bool ⟨.str _, H, I.tok _, ⟨_, rfl⟩, q⟩
  | int i t => exact PySem.P.repr_of_int (of_decide_eq_true sh) ⟨.str _, H, I.tok _, ⟨_, rfl⟩, q⟩
  | str x t => exact PySem.P.repr_of_str ⟨.str _, H, I.tok _, ⟨_, rfl⟩, q⟩ sz'
  | list h1 h2 h3 h4 =>
    exact repr_of_reads' (.list h1 h2 h3 h4) sh (PyData.noDict_hsm (PyData.hasDict_of_canLay _ lay)) hq (by omega) (fun _ _ e => e) (fun h' u tk kp => ⟨.str _, H, I.kept (t' := tk) kp, ⟨_, rfl⟩, q⟩) sz'
  | tuple h1 h2 h3 h4 =>
    exact repr_of_reads' (.tuple h1 h2 h3 h4) sh (PyData.noDict_hsm (PyData.hasDict_of_canLay _ lay)) hq (by omega) (fun _ _ e => e) (fun h' u tk kp => ⟨.str _, H, I.kept (t' := tk) kp, ⟨_, rfl⟩, q⟩) sz'
  | dict h1 h2 h3 h4 h5 => cases lay
end
end Ek

/-! EkSp: sorted of pairs whose first things are unlike ints -/
namespace Ek
open PySem PySem.Spec PyProof.Rows L2
/-! ### sorting by an int, plain -/
section
variable {α β : Type}
def insBy (key : α → Int) (x : α) : List α → List α
  | [] => [x]
  | y :: l => if key x ≤ key y then x :: y :: l else y :: insBy key x l
def sortBy (key : α → Int) : List α → List α
  | [] => []
  | x :: l => insBy key x (sortBy key l)
theorem insBy_perm (key : α → Int) (x : α) : ∀ l : List α, (insBy key x l).Perm (x :: l)
  | [] => List.Perm.refl _
  | y :: l => by
    unfold insBy
    split
    · exact List.Perm.refl _
    · exact ((insBy_perm key x l).cons y).trans (List.Perm.swap _ _ _)
theorem sortBy_perm (key : α → Int) : ∀ l : List α, (sortBy key l).Perm l
  | [] => List.Perm.refl _
  | x :: l => (insBy_perm key x _).trans ((sortBy_perm key l).cons x)
theorem insBy_up {key : α → Int} {x : α} : ∀ {l : List α}, l.Pairwise (fun a b => key a ≤ key b) → (insBy key x l).Pairwise (fun a b => key a ≤ key b)
  | [], _ => List.pairwise_singleton _ _
  | y :: l, h => by
    have h1 := List.pairwise_cons.mp h
    unfold insBy
    split
    · rename_i hxy
      refine List.pairwise_cons.mpr ⟨fun z hz => ?_, h⟩
      rcases List.mem_cons.mp hz with e | hz
      · subst e; exact hxy
      · exact Int.le_trans hxy (h1.1 z hz)
    · rename_i hxy
      refine List.pairwise_cons.mpr ⟨fun z hz => ?_, insBy_up h1.2⟩
      rcases List.mem_cons.mp ((insBy_perm key x l).mem_iff.mp hz) with e | hz
      · subst e; omega
      · exact h1.1 z hz
theorem sortBy_up (key : α → Int) : ∀ l : List α, (sortBy key l).Pairwise (fun a b => key a ≤ key b)
  | [] => .nil
  | x :: l => insBy_up (sortBy_up key l)
theorem insBy_map (f : α → β) (key : β → Int) (x : α) : ∀ l : List α, insBy key (f x) (l.map f) = (insBy (fun a => key (f a)) x l).map f
  | [] => rfl
  | y :: l => by
    rw [List.map_cons]
    unfold insBy
    split
    · rfl
    · rw [List.map_cons, insBy_map f key x l]
theorem sortBy_map (f : α → β) (key : β → Int) : ∀ l : List α, sortBy key (l.map f) = (sortBy (fun a => key (f a)) l).map f
  | [] => rfl
  | x :: l => by
    rw [List.map_cons]
    unfold sortBy
    rw [sortBy_map f key l, insBy_map]
theorem up_strict {key : α → Int} {l : List α} (nd : (l.map key).Nodup) (h : l.Pairwise fun a b => key a ≤ key b) : l.Pairwise fun a b => key a < key b := by
  have h2 := List.pairwise_map.mp (List.nodup_iff_pairwise_ne.mp nd)
  exact (h.and h2).imp fun ⟨a, b⟩ => by omega
theorem sortBy_strict {key : α → Int} {l : List α} (nd : (l.map key).Nodup) : (sortBy key l).Pairwise fun a b => key a < key b :=
  up_strict (((sortBy_perm key l).map key).nodup_iff.mpr nd) (sortBy_up key l)
/-- there is just one such list -/
theorem strict_one {key : α → Int} : ∀ {l m : List α}, l.Pairwise (fun a b => key a < key b) → m.Pairwise (fun a b => key a < key b) → l.Perm m → l = m
  | [], m, _, _, p => (List.Perm.eq_nil p.symm).symm
  | x :: l, [], _, _, p => absurd p.length_eq (by simp)
  | x :: l, y :: m, hl, hm, p => by
    have a := List.pairwise_cons.mp hl
    have b := List.pairwise_cons.mp hm
    have e : x = y := by
      rcases List.mem_cons.mp (p.mem_iff.mp (List.mem_cons_self (a := x) (l := l))) with e | h1
      · exact e
      · rcases List.mem_cons.mp (p.mem_iff.mpr (List.mem_cons_self (a := y) (l := m))) with e | h2
        · exact e.symm
        · have := a.1 y h2
          have := b.1 x h1
          omega
    subst e
    rw [strict_one a.2 b.2 p.cons_inv]
end
theorem pw_ne {α : Type} {f : α → Int} : ∀ {l : List α}, l.Pairwise (fun a b => f a ≠ f b) → ∀ {u v : α}, u ∈ l → v ∈ l → u ≠ v → f u ≠ f v
  | [], _, u, v, hu, _, _ => by cases hu
  | x :: l, h, u, v, hu, hv, n => by
    have a := List.pairwise_cons.mp h
    rcases List.mem_cons.mp hu with e | hu
    · rcases List.mem_cons.mp hv with e2 | hv
      · exact absurd (e.trans e2.symm) n
      · rw [e]; exact a.1 v hv
    · rcases List.mem_cons.mp hv with e2 | hv
      · rw [e2]; exact (a.1 u hu).symm
      · exact pw_ne a.2 hu hv n
/-! ### the rule -/
def kyD : PD → Int
  | .tuple [.int i, _] => i
  | _ => 0
def isKy : PD → Bool
  | .tuple [.int _, _] => true
  | _ => false
/-- the int in front of the pair at a value -/
def kyV (h : Heap) : Value → Int
  | .ref t => match h.get? t with
    | some o => (match o.data with
      | .seq its _ => (match its.toList with
        | [.int i _, _] => i
        | _ => 0)
      | _ => 0)
    | none => 0
  | _ => 0
def IsKy (h : Heap) (v : Value) (x : Int) : Prop := ∃ a o t u n, v = .ref a ∧ h.get? a = some o ∧ o.cls = .type "tuple" ∧ o.data = .seq #[.int x t, u] n
theorem IsKy.keeps {h h' : Heap} {v : Value} {x : Int} (p : IsKy h v x) (k : ∀ b o, h.get? b = some o → o.cls = .type "tuple" → h'.get? b = some o) : IsKy h' v x := by
  obtain ⟨a, o, t, u, n, e, ho, hc, hd⟩ := p
  exact ⟨a, o, t, u, n, e, k _ _ ho hc, hc, hd⟩
theorem IsKy.ky {h : Heap} {v : Value} {x : Int} (p : IsKy h v x) : kyV h v = x := by
  obtain ⟨a, o, t, u, n, rfl, ho, hc, hd⟩ := p
  simp only [kyV, ho, hd]
end Ek
namespace SrtO
open PySem PyProof.Rows Srt Ek
section
variable {prog : Program} {w : World} {A : Around} {s : Shared} {E : Value → Shared → Prop}
theorem swo_ky (k : Value → Int) : Swo fun v u => decide (k v < k u) := by
  refine ⟨fun x y h => ?_, fun x y z h1 h2 => ?_⟩
  · have := of_decide_eq_true h
    exact decide_eq_false (by omega)
  · have := of_decide_eq_false h1
    have := of_decide_eq_false h2
    exact decide_eq_false (by omega)
theorem ky_cmp {vs : List Value} {k : Value → Int} (hp : ∀ v ∈ vs, IsKy s.heap v (k v)) (inj : ∀ u ∈ vs, ∀ v ∈ vs, k u = k v → u = v) : Cmp prog w A s (tuples' true) (fun p => p.1 ∈ vs) (lt2 fun v u => decide (k v < k u)) := by
  intro p q hm hm'
  have h1 := hp _ hm
  have h2 := hp _ hm'
  have hi := inj _ hm _ hm'
  show wpAny (model prog w) A (keyLt' (tuples' true) p.1 q.1) (fun r s' => s' = s ∧ r = decide (k p.1 < k q.1)) (fun _ _ => False) s
  generalize k p.1 = x at h1 hi ⊢
  generalize k q.1 = x' at h2 hi ⊢
  obtain ⟨a, o, t, u, n, e, ho, hc, hd⟩ := h1
  obtain ⟨a', o', t', u', n', e', ho', hc', hd'⟩ := h2
  rw [e, e'] at hi ⊢
  refine PySem.W.kat_lt ho hd ho' hd' ?_
  show PySem.W.KatLex prog w A true (decide (2 < 2)) _ [(.int x t, .int x' t'), (u, u')] 0 s
  refine PySem.W.kat_cons (SeqAt.EqAt.int_int x t x' t' prog w _ _ ?_)
  refine PySem.W.kat_go (fun e1 => ?_) (fun e1 => ?_)
  · have ex : x = x' := by simpa using e1
    have ev := hi ex
    cases ev
    rw [ho] at ho'
    cases ho'
    rw [hd] at hd'
    injection hd' with hd1 hd2
    have hu : u = u' := by
      have := congrArg Array.toList hd1
      simpa using (List.cons.inj (List.cons.inj this).2).1
    subst hu
    refine PySem.W.kat_yes (PySem.W.kat_cons (SeqAt.EqAt.same u prog w _ _ ?_))
    exact PySem.W.kat_yes (PySem.W.kat_nil ⟨rfl, (decide_eq_false (by omega)).symm⟩)
  · exact PySem.W.kat_no (oneLt_int ⟨rfl, rfl⟩)
theorem ky_firsts {h : Heap} : ∀ {vs : List Value}, (∀ v ∈ vs, ∃ x, IsKy h v x) → ∃ fs : List Value, PySem.W.KatTups h vs fs ∧ fs.length = vs.length ∧ ∀ f ∈ fs, ∃ x t, f = Value.int x t
  | [], _ => ⟨[], PySem.W.KatTups.nil, rfl, fun _ hm => by simp at hm⟩
  | v :: vs, hp => by
    obtain ⟨fs, h1, h2, h3⟩ := ky_firsts (vs := vs) fun v' hm => hp v' (List.mem_cons_of_mem _ hm)
    obtain ⟨x, a, o, t, u, n, e, ho, hc, hd⟩ := hp v (List.mem_cons_self ..)
    subst e
    refine ⟨.int x t :: fs, PySem.W.KatTups.cons ho hc hd rfl h1, by rw [List.length_cons, List.length_cons, h2], fun f hm => ?_⟩
    rcases List.mem_cons.mp hm with rfl | hm
    · exact ⟨x, t, rfl⟩
    · exact h3 f hm
theorem ky_sortable {a : Addr} {vs : List Value} {k : Value → Int} (h0 : 0 < vs.length) (hp : ∀ v ∈ vs, IsKy s.heap v (k v)) (inj : ∀ u ∈ vs, ∀ v ∈ vs, k u = k v → u = v) (ha : ∀ o, s.heap.get? a = some o → o.cls ≠ .type "tuple") : SortableO prog w A s a vs fun v u => decide (k v < k u) := by
  intro h' keep
  have hp' : ∀ v ∈ vs, IsKy h' v (k v) := fun v hm => (hp v hm).keeps fun b o e c => keep b o (fun z => by subst z; exact ha o e c) e
  obtain ⟨fs, h1, h2, h3⟩ := ky_firsts fun v hm => ⟨_, hp' v hm⟩
  refine ⟨tuples' true, fun Q E hq => ?_, ky_cmp hp' inj⟩
  refine PySem.W.kat_kind (T := .type "int") h1 (by omega) (fun f hm => ?_) (by rfl) ?_
  · obtain ⟨x, t, rfl⟩ := h3 f hm
    exact PySem.W.Looks.now
  · have e : (Value.type "int" != Value.type "tuple") = true := by first | decide +kernel | rfl | decide
    rw [e]
    exact hq
theorem sorted_ky {l : Addr} {vs : List Value} {k : Value → Int} {Q : Value → Shared → Prop} (hl : s.heap.IsList l vs.toArray) (hz : vs.length ≤ sizeLine) (hp : ∀ v ∈ vs, IsKy s.heap v (k v)) (inj : ∀ u ∈ vs, ∀ v ∈ vs, k u = k v → u = v)
    (h : ∀ (h' : Heap) (d : Addr) (out : List Value), Srtd (fun v u => decide (k v < k u)) out → Stb (fun v u => decide (k v < k u)) out vs → (∀ b o, s.heap.get? b = some o → h'.get? b = some o) → s.heap.objs.size ≤ d → (∃ n, h'.get? d = some (seqObj "list" out.toArray n)) → Q (.ref d) { s with heap := h' }) :
    wpAny (model prog w) A (call (.builtin "sorted") [.ref l]) Q E s := by
  refine sorted_ord (swo_ky k) hl hz (fun h2 h₁ a ha kk => ?_) fun out hs hb => ?_
  · refine ky_sortable (s := { s with heap := h₁ }) (by omega) (fun v hm => (hp v hm).keeps fun b o e _ => (kk b o e).2) inj fun o e => ?_
    have e' : some o = some (seqObj "list" vs.toArray 0) := e.symm.trans ha
    cases e'
    intro c
    exact absurd (Value.type.inj c) (by decide)
  · exact h _ _ out hs hb (fun b o e => sortedAll_old e) (Nat.le_succ _) (sortedAll_at s.heap vs out.toArray)
end
end SrtO
namespace Ek
open PySem PySem.Spec PyProof.Rows L2
/-- sorted(xs): pairs with these ints in front, all unlike -/
def rSortX (K : PySem.W.Frag) : List V → Hp → VK → Prop := fun vs H Q => ∃ (a : Addr) (l : List (V × Int)), vs = [V.ref a] ∧ SqL K H a (l.map (·.1)) ∧ (∀ x ∈ l, ∃ t y, x.1 = V.ref t ∧ TupR K H t [.int x.2, y]) ∧ (l.map (·.2)).Nodup ∧
  ∀ (l' : List (V × Int)) p, l'.Perm l → l'.Pairwise (fun x y => x.2 < y.2) → H p = none → Q (.ref p) (upd H p (.lst (l'.map (·.1))))
theorem vals_pair {h : Heap} : ∀ {l : List (V × Int)} {us : List Value}, Vals (l.map (·.1)) us → (∀ x, x ∈ l → ∀ u, RelV x.1 u → IsKy h u x.2) → (∀ x, x ∈ l → ∃ a, x.1 = V.ref a) → l = us.map (fun u => (backV u, kyV h u))
  | [], us, r, _, _ => by cases r; rfl
  | x :: l, _, .cons (b := u) (l₂ := us) r1 r2, hk, hr => by
    rw [List.map_cons, ← vals_pair r2 (fun y hy => hk y (List.mem_cons_of_mem _ hy)) fun y hy => hr y (List.mem_cons_of_mem _ hy)]
    obtain ⟨a, ha⟩ := hr x List.mem_cons_self
    have h1 := (hk x List.mem_cons_self u r1).ky
    have r3 : RelV x.1 u := r1
    rw [ha] at r3
    cases (show u = Value.ref a from r3)
    rw [h1]
    show x :: l = (V.ref a, x.2) :: l
    rw [← ha]
theorem cr_sortX {X : Cx} : CallR X (.builtin "sorted") (rSortX X.K) := by
  intro pins s σ H vs us Q I r h
  obtain ⟨a, l, rfl, hs, hx, nd, q⟩ := h
  obtain ⟨its, rv, hl, hz⟩ := I.list hs
  obtain ⟨u, rfl, ru⟩ := vals1 r
  obtain rfl : u = Value.ref a := ru
  have hk : ∀ x, x ∈ l → ∀ u, RelV x.1 u → IsKy s.heap u x.2 := fun x m u ru => by
    obtain ⟨t, y, e, ht⟩ := hx x m
    rw [e] at ru
    cases (show u = Value.ref t from ru)
    obtain ⟨o, ts, n, ho, hc, hd, hv⟩ := tup_is I ht
    obtain ⟨u1, u2, e2, ri, rj⟩ := vals2 hv
    obtain ⟨t1, rfl⟩ := (show ∃ t1, u1 = Value.int x.2 t1 from ri)
    refine ⟨t, o, t1, u2, n, rfl, ho, hc, ?_⟩
    rw [hd, ← e2]
  have hr : ∀ x, x ∈ l → ∃ a, x.1 = V.ref a := fun x m => let ⟨t, _, e, _⟩ := hx x m; ⟨t, e⟩
  have hp := vals_pair rv hk hr
  obtain ⟨e1, e2⟩ := refs_back rv fun x m => by
    obtain ⟨y, hy, rfl⟩ := List.mem_map.mp m
    exact hr y hy
  have nd2 : (its.map (kyV s.heap)).Nodup := by
    have : l.map (·.2) = its.map (kyV s.heap) := by
      conv => lhs; rw [hp]
      rw [List.map_map]
      rfl
    rw [← this]
    exact nd
  refine SrtO.sorted_ky (k := kyV s.heap) hl.isList (by rw [← rv.length]; exact hz) (fun v hv => ?_) (fun u hu v hv e => ?_) fun h' d out h1 h2 kp hd hn => ?_
  · obtain ⟨t, rfl⟩ := e2 v hv
    have hm : (V.ref t, kyV s.heap (.ref t)) ∈ l := by rw [hp]; exact List.mem_map.mpr ⟨_, hv, rfl⟩
    exact hk _ hm _ rfl
  · have := List.pairwise_map.mp (List.nodup_iff_pairwise_ne.mp nd2)
    by_cases huv : u = v
    · exact huv
    · exact absurd e (pw_ne this hu hv huv)
  · have h3 : ∀ u ∈ out, ∃ a, u = Value.ref a := fun u hu => e2 u (h2.perm.mem_iff.mp hu)
    obtain ⟨n, hn⟩ := hn
    have hpm : (out.map fun u => (backV u, kyV s.heap u)).Perm l := by
      conv => rhs; rw [hp]
      exact h2.perm.map _
    have hm1 : (out.map fun u => (backV u, kyV s.heap u)).map (·.1) = out.map backV := by rw [List.map_map]; rfl
    have q2 := q (out.map fun u => (backV u, kyV s.heap u)) d hpm (by
      rw [List.pairwise_map]
      refine up_strict ((h2.perm.map _).nodup_iff.mpr nd2) (h1.imp fun h => ?_)
      have := of_decide_eq_false h
      omega) (I.hok.fresh hd)
    rw [hm1] at q2
    refine ⟨.ref d, upd H d (.lst (out.map backV)), I.laid (t' := s.toks) kp hd ⟨?_, out, n, vals_back h3, hn⟩, rfl, q2⟩
    rw [List.length_map, h2.perm.length_eq, ← rv.length]
    exact hz
/-! ### the meaning -/
def bSorted : Fd
  | [w], M => match rdL w M with
    | some (t, xs) => if xs.all isKy = true ∧ (xs.map kyD).Nodup then some (.d t (.list (sortBy kyD xs)), M) else none
    | none => none
  | _, _ => none
theorem dqa_pairs {K : PySem.W.Frag} {F : Hp} : ∀ {vs : List V} {xs : List PD}, DqAll K F vs xs → ∃ l : List (V × PD), l.map (·.1) = vs ∧ l.map (·.2) = xs ∧ ∀ p, p ∈ l → Dq K F p.1 p.2
  | _, _, .nil => ⟨[], rfl, rfl, fun p h => by cases h⟩
  | _, _, .cons (v := v) (d := d) h t => by
    obtain ⟨l, h1, h2, h3⟩ := dqa_pairs t
    refine ⟨(v, d) :: l, by rw [List.map_cons, h1], by rw [List.map_cons, h2], fun p hp => ?_⟩
    cases hp with
    | head => exact h
    | tail _ hp => exact h3 p hp
theorem dqa_of {K : PySem.W.Frag} {F : Hp} : ∀ {l : List (V × PD)}, (∀ p, p ∈ l → Dq K F p.1 p.2) → DqAll K F (l.map (·.1)) (l.map (·.2))
  | [], _ => .nil
  | p :: l, h => .cons (h p List.mem_cons_self) (dqa_of fun q hq => h q (List.mem_cons_of_mem _ hq))
theorem isKy_tup {K : PySem.W.Frag} {F : Hp} {v : V} {x : PD} (h : Dq K F v x) (hk : isKy x = true) : ∃ t y, v = V.ref t ∧ TupR K F t [.int (kyD x), y] := by
  unfold isKy at hk
  split at hk
  · rename_i i y
    cases h with
    | tup h1 h2 =>
      cases h2 with
      | cons a b =>
        cases a
        cases b with
        | cons c d =>
          cases d
          exact ⟨_, _, rfl, h1⟩
  · cases hk
theorem bSorted_ok {K : PySem.W.Frag} : FnD K (rSortX K) bSorted := by
  intro Z φ M H xs ws w M' Q m r h q
  unfold bSorted at h
  split at h
  · split at h
    · rename_i t ys hy
      split at h
      · rename_i hc
        cases h
        obtain ⟨v, rfl, rv⟩ := rws1 r
        obtain ⟨a, vs, rfl, ha, hd⟩ := rdL_ok m rv hy
        obtain ⟨l, l1, l2, l3⟩ := dqa_pairs hd
        subst l1 l2
        have hk : ∀ p, p ∈ l → isKy p.2 = true := fun p hp => List.all_eq_true.mp hc.1 _ (List.mem_map.mpr ⟨p, hp, rfl⟩)
        have nd := hc.2
        rw [List.map_map] at nd
        refine ⟨a, l.map fun p => (p.1, kyD p.2), rfl, by rw [List.map_map]; exact ha, fun x hx => ?_, by rw [List.map_map]; exact nd, fun l' p hp hs hn => ?_⟩
        · obtain ⟨p, hp, rfl⟩ := List.mem_map.mp hx
          obtain ⟨t2, y, e, ht⟩ := isKy_tup (kkU (l3 p hp)) (hk p hp)
          exact ⟨t2, y, e, sq_t fz_sub ht⟩
        · have e : l' = (sortBy (fun p : V × PD => kyD p.2) l).map fun p => (p.1, kyD p.2) := by
            refine strict_one (key := fun x : V × Int => x.2) hs ?_ (hp.trans ((sortBy_perm _ l).map _).symm)
            rw [List.pairwise_map]
            exact sortBy_strict nd
          rw [e, List.map_map]
          rw [sortBy_map (fun p : V × PD => p.2) kyD l] at q
          refine q.newL m ?_ p hn
          exact dqa_of fun p hp => l3 p ((sortBy_perm _ l).mem_iff.mp hp)
      · cases h
    · cases h
  · cases h
end Ek

/-! EkF: comprehensions with two fors; starred tuples -/
namespace Ek
open PySem PySem.Spec PyProof.Rows L2
def lc2Go (t : Bool) (g : Tg) (tt : Sm Bool) (it1 : Sm (Bool × List PD)) (g1 : Tg) (tt1 : Sm Bool) (te : Sm W) (vs1 : List Nat) (Δ : Sl) : List PD → MS → Option ((Bool × List PD) × MS)
  | [], M => some ((true, []), M)
  | x :: xs, M => match g t x Δ with
    | some Δ1 => (match tt Δ1 M with
      | some (true, M1) => (match it1 Δ1 M1 with
        | some ((t1, zs), M2) => if zs.length ≤ 1000 then (match lcGo t1 g1 tt1 te (wipeD Δ1 vs1) zs M2 with
          | some ((s, ys), M3) => (match lc2Go t g tt it1 g1 tt1 te vs1 Δ xs M3 with
            | some ((r, ws), M4) => some ((s && r, ys ++ ws), M4)
            | none => none)
          | none => none) else none
        | none => none)
      | some (false, M1) => lc2Go t g tt it1 g1 tt1 te vs1 Δ xs M1
      | none => none)
    | none => none
def mLc2 (it : Sm (Bool × List PD)) (g : Tg) (tt : Sm Bool) (it1 : Sm (Bool × List PD)) (g1 : Tg) (tt1 : Sm Bool) (te : Sm W) (vs vs1 : List Nat) : Sm (Bool × List PD) := fun Δ M => match it Δ M with
  | some ((t, xs), M1) => if xs.length ≤ 1000 then lc2Go t g tt it1 g1 tt1 te vs1 (wipeD Δ vs) xs M1 else none
  | none => none
theorem tLc2_of {K : PySem.W.Frag} {it it1 : Sm (Bool × List PD)} {g g1 : Tg} {S S1 : List Nat} {tt tt1 : Sm Bool} {te : Sm W} {vs vs1 : List Nat} (hS : ∀ i ∈ S, i ∈ vs) (hS1 : ∀ i ∈ S1, i ∈ vs1) :
    ∀ σ H Q, tOfN K (mLc2 it g tt it1 g1 tt1 te vs vs1) σ H Q → tLc2 (tOfI K it) (tOfG K g S) (tOfT K tt) (tOfI K it1) (tOfG K g1 S1) (tOfT K tt1) (tOf K te) vs vs1 σ H Q := by
  intro σ H Q ⟨Z, φ, Δ, M, tr, ys, M', R, h, q⟩
  unfold mLc2 at h
  split at h
  · rename_i tx xs M1 hx
    split at h
    · rename_i hlen
      refine ⟨Z, φ, Δ, M, tx, xs, M1, R, hx, fun J φ1 H1 e1 m1 wk D hD => ?_⟩
      have R1 := R.step e1 m1
      obtain ⟨fD1, fD2, fD3⟩ := m1.fresh hD
      refine ⟨fun i m H => m = xs.length - i ∧ i ≤ xs.length ∧ ∃ φi Mi accV ta acc tz rest, (∃ t, φi = φ1 ++ t) ∧ Mem K (hid Z D) H φi Mi ∧ (∀ a, a ∈ φi → a ∈ φ1 ∨ ¬ hid Z D a) ∧ H D = some (.lst accV) ∧ accV.length ≤ i * 1000 ∧ DqAll (kk ta K) (Fz (hid Z D) φi Mi H) accV acc ∧
        lc2Go tx g tt it1 g1 tt1 te vs1 (wipeD Δ vs) (xs.drop i) Mi = some ((tz, rest), M') ∧ tr = (ta && tz) ∧ ys = acc ++ rest ∧ Same (Fz Z φ1 M1 H1) (Fz (hid Z D) φi Mi H) ∧ (∀ z, Z z → H z = H1 z), ⟨xs.length, ?_⟩, ?_⟩
      · obtain ⟨hf, hm⟩ := m1.hide hD []
        refine ⟨rfl, Nat.zero_le _, φ1, M1, [], true, [], tr, ys, ⟨[], by simp⟩, hm, fun _ h => .inl h, upd_same, Nat.zero_le _, .nil, h, rfl, rfl, by rw [hf]; exact same_refl _, fun z hz => upd_ne fun e => fD2 (e ▸ hz)⟩
      · rintro i m H2 ⟨rfl, hi, φi, Mi, accV, ta, acc, tz, rest, ⟨t, ht⟩, mi, nD, hDv, hacc, dacc, hgo, htr, hys, sm, hz⟩
        have wi := wk (hid Z D) φi Mi H2 mi sm
        by_cases hlt : i < xs.length
        · have hxi : xs[i]? = some xs[i] := List.getElem?_eq_getElem hlt
          obtain ⟨go, yl⟩ := wi.1 i xs[i] hxi
          refine .inr ⟨go, fun H' => ∃ φi Mi accV ta acc tz rest, (∃ t, φi = φ1 ++ t) ∧ Mem K (hid Z D) H' φi Mi ∧ (∀ a, a ∈ φi → a ∈ φ1 ∨ ¬ hid Z D a) ∧ H' D = some (.lst accV) ∧ accV.length ≤ (i + 1) * 1000 ∧ DqAll (kk ta K) (Fz (hid Z D) φi Mi H') accV acc ∧
            lc2Go tx g tt it1 g1 tt1 te vs1 (wipeD Δ vs) (xs.drop (i + 1)) Mi = some ((tz, rest), M') ∧ tr = (ta && tz) ∧ ys = acc ++ rest ∧ Same (Fz Z φ1 M1 H1) (Fz (hid Z D) φi Mi H') ∧ (∀ z, Z z → H' z = H1 z), fun H' hN => ⟨xs.length - (i + 1), by omega, rfl, hlt, hN⟩, fun v H' hy => ?_⟩
          obtain ⟨ey, my, dy⟩ := yl v H' hy
          rw [List.drop_eq_getElem_cons hlt] at hgo
          unfold lc2Go at hgo
          -- the slots at this turn
          have Ri : Rep K (hid Z D) (L2.wipe σ vs) H' φi (wipeD Δ vs) Mi := by
            refine Rep.wipe ⟨my, R.len, fun j w hj => ?_⟩ vs
            obtain ⟨u, h1, h2⟩ := R1.sl j w hj
            exact ⟨u, h1, rw_mono (same_tr sm ey.fz) ⟨t, ht⟩ h2⟩
          split at hgo
          · rename_i Δ1 hg
            refine ⟨hid Z D, φi, wipeD Δ vs, Mi, tx, xs[i], Δ1, Ri, dy, hg, fun σ2 o2 R2 => ⟨wipe_only hS o2, ?_⟩⟩
            have hD' : H' D = some (.lst accV) := (ey.z D (.inr rfl)).trans hDv
            have dacc' := dpa_mono ey.fz _ dacc
            have sm' := same_tr sm ey.fz
            have hz' : ∀ z, Z z → H' z = H1 z := fun z zz => (ey.z z (.inl zz)).trans (hz z zz)
            split at hgo
            · rename_i M2 htt
              refine ⟨hid Z D, φi, Δ1, Mi, true, M2, R2, htt, fun φ3 H3 e3 m3 => ?_⟩
              simp only [if_true]
              split at hgo
              · rename_i tx1 zs M3 hit
                split at hgo
                · rename_i hzl
                  split at hgo
                  · rename_i s1 ys1 M5 hin
                    split at hgo
                    · rename_i tq ys' M6 hrest
                      cases hgo
                      refine ⟨hid Z D, φ3, Δ1, M2, tx1, zs, M3, R2.step e3 m3, hit, fun J1 φ4 H4 e4 m4 wk1 => ?_⟩
                      have R4 := (R2.step e3 m3).step e4 m4
                      have e34 := e3.trans e4
                      obtain ⟨t3, ht3⟩ := e3.pre
                      obtain ⟨t4, ht4⟩ := e4.pre
                      have n4 : ∀ a, a ∈ φ4 → a ∈ φ1 ∨ ¬ hid Z D a := fun a ha => (e34.nz a ha).elim (nD a) .inr
                      have pre4 : ∃ t, φ4 = φ1 ++ t := ⟨t ++ t3 ++ t4, by rw [ht4, ht3, ht]; simp⟩
                      have sm4 := same_tr sm' e34.fz
                      have hz4 : ∀ z, Z z → H4 z = H1 z := fun z zz => (e34.z z (.inl zz)).trans (hz' z zz)
                      refine ⟨fun j k H => k = zs.length - j ∧ j ≤ zs.length ∧ ∃ φj Mj accV ta acc sz rest, (∃ t, φj = φ4 ++ t) ∧ Mem K (hid Z D) H φj Mj ∧ (∀ a, a ∈ φj → a ∈ φ1 ∨ ¬ hid Z D a) ∧ H D = some (.lst accV) ∧ accV.length ≤ i * 1000 + j ∧ DqAll (kk ta K) (Fz (hid Z D) φj Mj H) accV acc ∧
                        lcGo tx1 g1 tt1 te (wipeD Δ1 vs1) (zs.drop j) Mj = some ((sz, rest), M5) ∧ tr = (ta && (sz && tq)) ∧ ys = acc ++ (rest ++ ys') ∧ Same (Fz (hid Z D) φ4 M3 H4) (Fz (hid Z D) φj Mj H) ∧ (∀ z, Z z → H z = H1 z), ⟨zs.length, rfl, Nat.zero_le _, φ4, M3, accV, ta, acc, s1, ys1, ⟨[], by simp⟩, m4, n4, (e34.z D (.inr rfl)).trans hD', by omega, dpa_mono e34.fz _ dacc', hin, htr, hys, same_refl _, hz4⟩, ?_⟩
                      rintro j k H5 ⟨rfl, hj, φj, Mj, accW, tb, bcc, sz, rst, ⟨t5, ht5⟩, mj, nj, hDj, haccj, daccj, hgoj, htrj, hysj, smj, hzj⟩
                      have wj := wk1 (hid Z D) φj Mj H5 mj smj
                      by_cases hlj : j < zs.length
                      · have hxj : zs[j]? = some zs[j] := List.getElem?_eq_getElem hlj
                        obtain ⟨go1, yl1⟩ := wj.1 j zs[j] hxj
                        refine .inr ⟨go1, fun H => ∃ φj Mj accV ta acc sz rest, (∃ t, φj = φ4 ++ t) ∧ Mem K (hid Z D) H φj Mj ∧ (∀ a, a ∈ φj → a ∈ φ1 ∨ ¬ hid Z D a) ∧ H D = some (.lst accV) ∧ accV.length ≤ i * 1000 + (j + 1) ∧ DqAll (kk ta K) (Fz (hid Z D) φj Mj H) accV acc ∧
                          lcGo tx1 g1 tt1 te (wipeD Δ1 vs1) (zs.drop (j + 1)) Mj = some ((sz, rest), M5) ∧ tr = (ta && (sz && tq)) ∧ ys = acc ++ (rest ++ ys') ∧ Same (Fz (hid Z D) φ4 M3 H4) (Fz (hid Z D) φj Mj H) ∧ (∀ z, Z z → H z = H1 z), fun H' hN => ⟨zs.length - (j + 1), by omega, rfl, hlj, hN⟩, fun v1 H6 hy1 => ?_⟩
                        obtain ⟨ey1, my1, dy1⟩ := yl1 v1 H6 hy1
                        rw [List.drop_eq_getElem_cons hlj] at hgoj
                        unfold lcGo at hgoj
                        have Rj : Rep K (hid Z D) (L2.wipe σ2 vs1) H6 φj (wipeD Δ1 vs1) Mj := by
                          refine Rep.wipe ⟨my1, R2.len, fun l w hl => ?_⟩ vs1
                          obtain ⟨u, h1, h2⟩ := R4.sl l w hl
                          exact ⟨u, h1, rw_mono (same_tr smj ey1.fz) ⟨t5, ht5⟩ h2⟩
                        split at hgoj
                        · rename_i Δ6 hg6
                          refine ⟨hid Z D, φj, wipeD Δ1 vs1, Mj, tx1, zs[j], Δ6, Rj, dy1, hg6, fun σ7 o7 R7 => ⟨wipe_only hS1 o7, ?_⟩⟩
                          have hD6 : H6 D = some (.lst accW) := (ey1.z D (.inr rfl)).trans hDj
                          have dacc6 := dpa_mono ey1.fz _ daccj
                          have sm6 := same_tr smj ey1.fz
                          have hz6 : ∀ z, Z z → H6 z = H1 z := fun z zz => (ey1.z z (.inl zz)).trans (hzj z zz)
                          split at hgoj
                          · rename_i M7 htt1
                            refine ⟨hid Z D, φj, Δ6, Mj, true, M7, R7, htt1, fun φ8 H8 e8 m8 => ?_⟩
                            simp only [if_true]
                            split at hgoj
                            · rename_i w M9 hte
                              split at hgoj
                              · rename_i ty y M10 hfz
                                split at hgoj
                                · rename_i tq1 ys1' M11 hrest1
                                  cases hgoj
                                  refine ⟨hid Z D, φ8, Δ6, M7, w, M9, R7.step e8 m8, hte, fun u φ9 H9 e9 m9 r9 => ?_⟩
                                  obtain ⟨e10, m10, d10⟩ := fz1_ok m9 r9 hfz
                                  have e35 := e8.trans (e9.trans e10)
                                  obtain ⟨t8, ht8⟩ := e8.pre
                                  obtain ⟨t9, ht9⟩ := e9.pre
                                  have n9' : ∀ a, a ∈ φ9 → a ∈ φ1 ∨ ¬ hid Z D a := fun a ha => ((e8.trans e9).nz a ha).elim (nj a) .inr
                                  have n9 : ∀ l : Nat, φ9[l]? ≠ some D := fun l hl => (n9' D (List.mem_of_getElem? hl)).elim fD1 fun z => z (.inr rfl)
                                  have hD9 : H9 D = some (.lst accW) := ((e8.trans e9).z D (.inr rfl)).trans hD6
                                  obtain ⟨hf, mt⟩ := m10.turn (D := D) (.inr rfl) n9 (accW ++ [u])
                                  refine ⟨accW, hD9, ?_, φ9, M10, accW ++ [u], tb && ty, bcc ++ [y], tq1, ys1', ⟨t5 ++ t8 ++ t9, by rw [ht9, ht8, ht5]; simp⟩, mt, n9', upd_same, by simp; omega, ?_, hrest1, by rw [htrj, Bool.and_assoc, Bool.and_assoc], by rw [hysj]; simp, ?_, fun z zz => ?_⟩
                                  · refine Nat.lt_of_le_of_lt haccj ?_
                                    have : i * 1000 + j < 1002000 := by omega
                                    exact Nat.lt_of_lt_of_le this (by decide)
                                  · rw [hf]
                                    exact dpa_append (kkLs _ (dpa_mono e35.fz _ dacc6)) (dpa_one (kkR _ d10))
                                  · rw [hf]
                                    exact same_tr sm6 e35.fz
                                  · have hne : z ≠ D := fun e => fD2 (e ▸ zz)
                                    rw [upd_ne hne]
                                    exact ((e8.trans e9).z z (.inl zz)).trans (hz6 z zz)
                                · cases hgoj
                              · cases hgoj
                            · cases hgoj
                          · rename_i M7 htt1
                            refine ⟨hid Z D, φj, Δ6, Mj, false, M7, R7, htt1, fun φ8 H8 e8 m8 => ?_⟩
                            simp only [Bool.false_eq_true, if_false]
                            obtain ⟨t8, ht8⟩ := e8.pre
                            refine ⟨φ8, M7, accW, tb, bcc, sz, rst, ⟨t5 ++ t8, by rw [ht8, ht5]; simp⟩, m8, fun a ha => (e8.nz a ha).elim (nj a) .inr, (e8.z D (.inr rfl)).trans hD6, by omega, dpa_mono e8.fz _ dacc6, hgoj, htrj, hysj, same_tr sm6 e8.fz, fun z zz => (e8.z z (.inl zz)).trans (hz6 z zz)⟩
                          · cases hgoj
                        · cases hgoj
                      · have e : j = zs.length := by omega
                        subst e
                        refine .inl ⟨wj.2 _ (Nat.le_refl _), ?_⟩
                        rw [List.drop_length] at hgoj
                        cases hgoj
                        obtain ⟨t4', ht4'⟩ := pre4
                        exact ⟨φj, _, accW, tb, bcc, tq, ys', ⟨t4' ++ t5, by rw [ht5, ht4']; simp⟩, mj, nj, hDj, by omega, daccj, hrest, by rw [htrj]; simp, by rw [hysj]; simp, same_tr sm4 smj, hzj⟩
                    · cases hgo
                  · cases hgo
                · cases hgo
              · cases hgo
            · rename_i M2 htt
              refine ⟨hid Z D, φi, Δ1, Mi, false, M2, R2, htt, fun φ3 H3 e3 m3 => ?_⟩
              simp only [Bool.false_eq_true, if_false]
              obtain ⟨t3, ht3⟩ := e3.pre
              refine ⟨φ3, M2, accV, ta, acc, tz, rest, ⟨t ++ t3, by rw [ht3, ht]; simp⟩, m3, fun a ha => (e3.nz a ha).elim (nD a) .inr, (e3.z D (.inr rfl)).trans hD', by omega, dpa_mono e3.fz _ dacc', hgo, htr, hys, same_tr sm' e3.fz, fun z zz => (e3.z z (.inl zz)).trans (hz' z zz)⟩
            · cases hgo
          · cases hgo
        · have e : i = xs.length := by omega
          subst e
          refine .inl ⟨wi.2 _ (Nat.le_refl _), ?_⟩
          rw [List.drop_length] at hgo
          cases hgo
          rw [List.append_nil] at hys
          rw [Bool.and_true] at htr
          subst hys
          subst htr
          have nD' : ∀ j : Nat, φi[j]? ≠ some D := fun j hj => (nD D (List.mem_of_getElem? hj)).elim fD1 fun z => z (.inr rfl)
          obtain ⟨hf, mu⟩ := mi.unhide fD2 nD' hDv dacc
          obtain ⟨t1, ht1⟩ := e1.pre
          refine q D φi H2 ⟨t1 ++ t, by rw [ht, ht1]; simp⟩ ⟨by rw [hf]; exact same_tr e1.fz sm, fun z zz => (hz z zz).trans (e1.z z zz), ⟨t1 ++ t ++ [D], by rw [ht, ht1]; simp⟩, fun a ha => ?_⟩ mu
          rcases List.mem_append.mp ha with ha | ha
          · exact (nD a ha).elim (e1.nz a) fun z => .inr fun zz => z (.inl zz)
          · rw [List.mem_singleton.mp ha]
            exact .inr fD2
    · cases h
  · cases h
/-! ### starred items of a tuple -/
def starD : W → Option (Bool × List PD)
  | .d t (.tuple xs) => some (t, xs)
  | .d t (.list xs) => some (t, xs)
  | _ => none
def mArgsS : List (Bool × Sm W) → Sm (List W)
  | [] => fun _ M => some ([], M)
  | (false, a) :: r => fun Δ M => match a Δ M with
    | some (x, M1) => (match mArgsS r Δ M1 with
      | some (xs, M2) => some (x :: xs, M2)
      | none => none)
    | none => none
  | (true, a) :: r => fun Δ M => match a Δ M with
    | some (x, M1) => (match starD x with
      | some (t, ds) => (match mArgsS r Δ M1 with
        | some (xs, M2) => some (ds.map (W.d t) ++ xs, M2)
        | none => none)
      | none => none)
    | none => none
theorem rws_ds {K : PySem.W.Frag} {F : Hp} {φ : List Addr} {t : Bool} : ∀ {vs : List V} {ds : List PD}, DqAll (kk t K) F vs ds → RWs K F φ vs (ds.map (W.d t))
  | _, [], h => by cases h; exact .nil
  | _, d :: ds, h => by
    cases h with
    | cons h1 h2 => exact .cons h1 (rws_ds h2)
theorem rws_app {K : PySem.W.Frag} {F : Hp} {φ : List Addr} : ∀ {vs us : List V} {ws zs : List W}, RWs K F φ vs ws → RWs K F φ us zs → RWs K F φ (vs ++ us) (ws ++ zs)
  | _, _, _, _, .nil, h => h
  | _, _, _, _, .cons a r, h => .cons a (rws_app r h)
section
variable {X : Cx} {e : Expr} {es : List Expr}
theorem pa_mscons {m : Sm W} {ms : List (Bool × Sm W)} (ha : PE X e (tOf X.K m)) (hr : PA X es (tOfA X.K (mArgsS ms))) (hs : starEach (e :: es) X.env = (false, eval e X.env) :: starEach es X.env) : PA X (e :: es) (tOfA X.K (mArgsS ((false, m) :: ms))) := by
  refine pa_imp (pa_cons ha hr hs) fun σ H Q ⟨Z, φ, Δ, M, w, M', R, h, q⟩ => ?_
  unfold mArgsS at h
  split at h
  · rename_i x M1 hx
    split at h
    · rename_i xs M2 hxs
      cases h
      refine ⟨Z, φ, Δ, M, x, M1, R, hx, fun v φ1 H1 e1 m1 r1 => ?_⟩
      exact ⟨Z, φ1, Δ, M1, xs, M', R.step e1 m1, hxs, fun vs φ2 H2 e2 m2 r2 => q _ φ2 H2 (e1.trans e2) m2 (.cons (r1.ext e2) r2)⟩
    · cases h
  · cases h
theorem pa_msstar {m : Sm W} {ms : List (Bool × Sm W)} {p : Pos} (ha : PE X e (tOf X.K m)) (hr : PA X es (tOfA X.K (mArgsS ms))) : PA X (.Starred e p :: es) (tOfA X.K (mArgsS ((true, m) :: ms))) := by
  refine pa_imp (StX.pa_star ha hr rfl) fun σ H Q ⟨Z, φ, Δ, M, w, M', R, h, q⟩ => ?_
  unfold mArgsS at h
  split at h
  · rename_i x M1 hx
    split at h
    · rename_i t ds hd
      split at h
      · rename_i xs M2 hxs
        cases h
        refine ⟨Z, φ, Δ, M, x, M1, R, hx, fun v φ1 H1 e1 m1 r1 => ?_⟩
        have key : ∃ a vs, v = V.ref a ∧ (SqT X.K H1 a vs ∨ SqL X.K H1 a vs) ∧ DqAll (kk t X.K) (Fz Z φ1 M1 H1) vs ds := by
          unfold starD at hd
          split at hd
          · cases hd
            have r1 : Dq (kk t X.K) (Fz Z φ1 M1 H1) v (.tuple ds) := r1
            cases r1 with
            | tup h1 h2 =>
              refine ⟨_, _, rfl, .inl ?_, h2⟩
              have h1' := sq_t fz_sub h1
              cases t with
              | true => exact TupR.sq (.inl h1'.own)
              | false => exact h1'.sq
          · cases hd
            have r1 : Dq (kk t X.K) (Fz Z φ1 M1 H1) v (.list ds) := r1
            cases r1 with
            | lst h1 h2 => exact ⟨_, _, rfl, .inr (.inl (.inl (fz_sub _ _ h1))), h2⟩
          · cases hd
        obtain ⟨a, vs, rfl, hsq, hda⟩ := key
        exact ⟨a, vs, rfl, hsq, Z, φ1, Δ, M1, xs, M', R.step e1 m1, hxs, fun us φ2 H2 e2 m2 r2 => q _ φ2 H2 (e1.trans e2) m2 (rws_app (rws_ds (dpa_mono e2.fz _ hda)) r2)⟩
      · cases h
    · cases h
  · cases h
theorem pa_msnil : PA X [] (tOfA X.K (mArgsS [])) := by
  refine pa_imp pa_nil fun σ H Q ⟨Z, φ, Δ, M, w, M', R, h, q⟩ => ?_
  cases h
  exact q [] φ H Ext.refl R.mem .nil
end
end Ek

/-! Ek8: the meaning of a text, and that it is so -/
namespace Ek
open PySem PySem.Spec PyProof.Rows L2
structure FE where
  ps : List Str
  f : Fd
  kw : List (List Str × List Nat)
structure GE where
  fn : List (Str × FE)
  cst : List (Str × Bool × PD)
  bl : List Str
  fv : List Str
def GE.tb (G : GE) (y : Str) : Option (Nat × Fd) := match G.fn.lookup y with
  | some fe => some (fe.ps.length, fe.f)
  | none => none
def isStar : Expr → Bool
  | .Starred _ _ => true
  | _ => false
def isComp : Expr → Bool
  | .ListComp _ _ _ _ => true
  | .SetComp _ _ _ _ => true
  | .DictComp _ _ _ _ _ => true
  | _ => false
def isSet : Expr → Bool
  | .Set _ _ _ => true
  | _ => false
def slotOf (N : List Str) (sc : Scope) (x : Str) : Option Nat :=
  if (x == ("__debug__" : Str)) = false ∧ (x == ("__classdict__" : Str)) = false ∧ (sc.names.lookup x = some .local ∨ sc.names.lookup x = some .cell ∨ sc.names.lookup x = some .free) then N.findIdx? (fun y => y == x) else none
def locOf (N : List Str) (sc : Scope) (ok : Str → Bool) (x : Str) : Option Nat :=
  if ok x = true ∧ (sc.names.lookup x = some .local ∨ sc.names.lookup x = some .cell) then N.findIdx? (fun y => y == x) else none
def isGl (sc : Scope) (x : Str) : Bool := decide (sc.names.lookup x = some .globalImplicit) && !(x == ("__debug__" : Str)) && !(x == ("__name__" : Str))
def rl (scope sc : Scope) : Scope := { scope with names := scope.names.map fun (n, k) => if (k == .free && sc.kind == .function && sc.names.lookup n == some .cell) then (n, .cell) else (n, k) }
def ownOf (N : List Str) (scope : Scope) : List (Str × Nat) := scope.names.filterMap fun y => match y.2 with
  | .local => (N.findIdx? (fun z => z == y.1)).map fun i => (y.1, i)
  | .cell => (N.findIdx? (fun z => z == y.1)).map fun i => (y.1, i)
  | _ => none
theorem findIdx_at {N : List Str} {x : Str} {i : Nat} (h : N.findIdx? (fun y => y == x) = some i) : N[i]? = some x := by
  rw [List.findIdx?_eq_some_iff_getElem] at h
  obtain ⟨hi, h1, _⟩ := h
  rw [List.getElem?_eq_getElem hi]
  exact congrArg some (eq_of_beq h1)
/-! ### targets -/
mutual
def denG (N : List Str) (sc : Scope) (ok : Str → Bool) : Nat → Expr → Option (Tg × List Nat)
  | 0, _ => none
  | n + 1, e => match e with
    | .Name x _ => (match locOf N sc ok x with
      | some i => some (gNm i, [i])
      | none => none)
    | .Tuple es _ _ => if es.any isStar = true then none else (match denGs N sc ok n es with
      | some (r, S) => some (gTp r, S)
      | none => none)
    | _ => none
def denGs (N : List Str) (sc : Scope) (ok : Str → Bool) : Nat → List Expr → Option (Tgs × List Nat)
  | 0, _ => none
  | n + 1, [] => some (gsNil, [])
  | n + 1, e :: es => match denG N sc ok n e with
    | some (g, S) => (match denGs N sc ok n es with
      | some (r, T) => some (gsCons g r, S ++ T)
      | none => none)
    | none => none
end
theorem each_star {e : Expr} {es : List Expr} (h : isStar e = false) (env : Env) : starEach (e :: es) env = (false, eval e env) :: starEach es env := by
  cases e <;> first | rfl | cases h
theorem each_stars : ∀ {es : List Expr} (_ : es.any isStar = false) (env : Env) (pos : Pos), (backTo pos (starEach es env)).any (·.1) = false
  | [], _, _, _ => rfl
  | e :: es, h, env, pos => by
    rw [List.any_cons, Bool.or_eq_false_iff] at h
    rw [each_star h.1]
    show (false || (backTo pos (starEach es env)).any (·.1)) = false
    rw [each_stars h.2 env pos]
    rfl
theorem each_asg {e : Expr} {es : List Expr} (h : isStar e = false) (env : Env) : assignEach (e :: es) env = (false, assign e env) :: assignEach es env := by
  cases e <;> first | rfl | cases h
theorem each_asgs : ∀ {es : List Expr} (_ : es.any isStar = false) (env : Env), (assignEach es env).length = es.length ∧ (assignEach es env).findIdx? (·.1) = none
  | [], _, _ => ⟨rfl, rfl⟩
  | e :: es, h, env => by
    rw [List.any_cons, Bool.or_eq_false_iff] at h
    obtain ⟨h1, h2⟩ := each_asgs h.2 env
    rw [each_asg h.1]
    refine ⟨by simp [h1], ?_⟩
    rw [List.findIdx?_cons, h2]
    rfl
theorem denGs_len {N : List Str} {sc : Scope} {ok : Str → Bool} : ∀ (n : Nat) {es : List Expr} {r : Tgs} {S : List Nat}, denGs N sc ok n es = some (r, S) → ∀ t xs Δ Δ', r t xs Δ = some Δ' → xs.length = es.length
  | 0, _, _, _, h => by cases h
  | n + 1, [], r, S, h => by
    cases h
    intro t xs Δ Δ' h
    cases xs with
    | nil => rfl
    | cons x xs => cases h
  | n + 1, e :: es, r, S, h => by
    simp only [denGs] at h
    split at h
    · rename_i g S1 hg
      split at h
      · rename_i r1 T hr
        cases h
        intro t xs Δ Δ' h
        cases xs with
        | nil => cases h
        | cons x xs =>
          simp only [gsCons] at h
          split at h
          · rename_i Δ1 h1
            simp [denGs_len n hr t xs Δ1 Δ' h]
          · cases h
      · cases h
    · cases h
section
variable {X : Cx}
def OkT (X : Cx) (ok : Str → Bool) : Prop := ∀ x, ok x = true → X.fn x = true ∨ X.env.scope.names.lookup x = some .local
mutual
theorem denG_ok (hN : X.N.Nodup) (hc : X.calm = true) {ok : Str → Bool} (hok : OkT X ok) : ∀ (n : Nat) (e : Expr) (g : Tg) (S : List Nat), denG X.N X.env.scope ok n e = some (g, S) → PG X e (tOfG X.K g S)
  | 0, _, _, _, h => by cases h
  | n + 1, e, g, S, h => by
    cases e with
    | Name x pos =>
      simp only [denG] at h
      split at h
      · rename_i i hi
        cases h
        unfold locOf at hi
        split at hi
        · rename_i hh
          exact pg_mnm hN (findIdx_at hi) hh.2 (hok x hh.1)
        · cases hi
      · cases h
    | Tuple es k pos =>
      simp only [denG] at h
      split at h
      · cases h
      · rename_i hs
        have hs' : es.any isStar = false := by simpa using hs
        split at h
        · rename_i r T hr
          cases h
          obtain ⟨h1, h2⟩ := each_asgs hs' X.env
          exact pg_mtp hc (denGs_ok hN hc hok n es r _ hs' hr) (denGs_len n hr) h1 h2
        · cases h
    | _ => cases h
theorem denGs_ok (hN : X.N.Nodup) (hc : X.calm = true) {ok : Str → Bool} (hok : OkT X ok) : ∀ (n : Nat) (es : List Expr) (r : Tgs) (S : List Nat), es.any isStar = false → denGs X.N X.env.scope ok n es = some (r, S) → PGs X es (tOfGs X.K r S)
  | 0, _, _, _, _, h => by cases h
  | n + 1, [], r, S, _, h => by cases h; exact pgs_mnil
  | n + 1, e :: es, r, S, hs, h => by
    simp only [denGs] at h
    rw [List.any_cons, Bool.or_eq_false_iff] at hs
    split at h
    · rename_i g S1 hg
      split at h
      · rename_i r1 T hr
        cases h
        exact pgs_mcons (denG_ok hN hc hok n e g S1 hg) (denGs_ok hN hc hok n es r1 T hs.2 hr) (by rw [each_asg hs.1]; rfl)
      · cases h
    · cases h
end
end
/-! ### operators by their names -/
def binD : Operator → Option (W → W → MS → Option (W × MS))
  | .Add => some gAdd
  | .Sub => some gSub
  | .Mult => some gMul
  | .FloorDiv => some gFdiv
  | .Mod => some gMod
  | .Pow => some gPow
  | _ => none
theorem binD_ok {X : Cx} {op : Operator} {g : W → W → MS → Option (W × MS)} (h : binD op = some g) : ∃ r, OpR X (binaryOp op) r ∧ OpD X.K r g := by
  cases op <;> first | cases h | skip
  · exact ⟨_, op_addR, gAdd_ok⟩
  · exact ⟨_, op_sub, gSub_ok⟩
  · exact ⟨_, op_mulR, gMul_ok⟩
  · exact ⟨_, op_mod, gMod_ok⟩
  · exact ⟨_, op_pow, gPow_ok⟩
  · exact ⟨_, op_fdivW, gFdiv_ok⟩
def cmpD : CmpOp → Option (W → W → MS → Option (W × MS))
  | .Eq => some gEq
  | .NotEq => some gNe
  | .Lt => some gLt
  | .LtE => some gLe
  | .Gt => some gGt
  | .GtE => some gGe
  | .In => some (gIn false)
  | .NotIn => some (gIn true)
  | _ => none
theorem gIn0_ok {K : PySem.W.Frag} : OpD K (rInD K) (gIn0 false) := by
  intro Z φ M H x y wx wy w M' Q m rx ry hg q
  unfold gIn0 at hg
  split at hg
  · rename_i d ds h1 h2
    split at hg
    · rename_i hc
      cases hg
      refine ⟨d, ds, dq_dp _ (rdD_ok m rx h1), dq_dp _ (rdD_ok m ry h2), hc.1, hc.2, q.same m ?_⟩
      rw [Bool.false_bne]
      exact .bl _
    · cases hg
  · cases hg
theorem gNotIn0_ok {K : PySem.W.Frag} : OpD K (rNotInD K) (gIn0 true) := by
  intro Z φ M H x y wx wy w M' Q m rx ry hg q
  unfold gIn0 at hg
  split at hg
  · rename_i d ds h1 h2
    split at hg
    · rename_i hc
      cases hg
      refine ⟨d, ds, dq_dp _ (rdD_ok m rx h1), dq_dp _ (rdD_ok m ry h2), hc.1, hc.2, q.same m ?_⟩
      rw [Bool.true_bne]
      exact .bl _
    · cases hg
  · cases hg
theorem cmpD_ok {X : Cx} (hu : X.A.units + 65 < cLine) {op : CmpOp} {g : W → W → MS → Option (W × MS)} (h : cmpD op = some g) : ∃ r, OpR X (compareOp op) r ∧ OpD X.K r g := by
  have hu' : X.A.units + 64 < cLine := Nat.lt_of_succ_lt hu
  cases op <;> first | cases h | skip
  · exact ⟨_, op_eqD hu', gEq_ok⟩
  · exact ⟨_, op_neD hu', gNe_ok⟩
  · exact ⟨_, op_lt, gI_ok fun _ _ _ => .bl _⟩
  · exact ⟨_, op_le, gI_ok fun _ _ _ => .bl _⟩
  · exact ⟨_, op_gt, gI_ok fun _ _ _ => .bl _⟩
  · exact ⟨_, op_ge, gI_ok fun _ _ _ => .bl _⟩
  · exact ⟨_, op_alt (op_xin (by omega)) (op_inD hu), gInD_ok gIn0_ok⟩
  · exact ⟨_, op_alt (op_xnotin (by omega)) (op_notInD hu), gNotInD_ok gNotIn0_ok⟩
end Ek

/-! Ek9: expressions -/
namespace Ek
open PySem PySem.Spec PyProof.Rows L2
/-! ### built-ins by their names -/
def blD0 (x : Str) : Option Fd :=
  if x = "len" then some bLen else if x = "abs" then some bAbs else if x = "max" then some bMax else if x = "min" then some bMin else if x = "int" then some bInt
  else if x = "sum" then some bSum else if x = "all" then some bAll else if x = "any" then some bAny else if x = "tuple" then some bTuple else if x = "list" then some bList else if x = "divmod" then some bDivmod else if x = "repr" then some bRepr else none
set_option maxHeartbeats 2000000 in
theorem blD0_ok {X : Cx} (hc : X.calm = true) (hq : Quiet X.A) (hu : X.A.units + 65 < cLine) {x : Str} {g : Fd} (h : blD0 x = some g) :
    ∃ r, FnD X.K r g ∧ ((∃ id, CallR X (.builtin id) r ∧ bootBuiltins x = some (.builtin id)) ∨ ∃ T, CallR X (.type T) r ∧ bootBuiltins x = some (.type T)) := by
  unfold blD0 at h
  split at h
  · rename_i e; cases h; subst e; exact ⟨_, bLen_ok, .inl ⟨_, call_len, by decide +kernel⟩⟩
  split at h
  · rename_i e; cases h; subst e; exact ⟨_, bI1_ok, .inl ⟨_, call_abs, by decide +kernel⟩⟩
  split at h
  · rename_i e; cases h; subst e; exact ⟨_, bI2_ok, .inl ⟨_, call_max2 hc, by decide +kernel⟩⟩
  split at h
  · rename_i e; cases h; subst e; exact ⟨_, bI2_ok, .inl ⟨_, call_min2 hc, by decide +kernel⟩⟩
  split at h
  · rename_i e; cases h; subst e; exact ⟨_, bInt_ok, .inr ⟨_, call_int1, by decide +kernel⟩⟩
  split at h
  · rename_i e; cases h; subst e; exact ⟨_, bSum_ok, .inl ⟨_, cr_sum hc, by decide +kernel⟩⟩
  split at h
  · rename_i e; cases h; subst e; exact ⟨_, bBs_ok, .inl ⟨_, cr_all hc, by decide +kernel⟩⟩
  split at h
  · rename_i e; cases h; subst e; exact ⟨_, bBs_ok, .inl ⟨_, cr_any hc, by decide +kernel⟩⟩
  split at h
  · rename_i e; cases h; subst e; exact ⟨_, bTuple_ok, .inr ⟨_, call_tuple_of, by decide +kernel⟩⟩
  split at h
  · rename_i e; cases h; subst e; exact ⟨_, bList_ok bList0_ok, .inr ⟨_, call_alt (call_list_x hc) call_list_of, by decide +kernel⟩⟩
  split at h
  · rename_i e; cases h; subst e; exact ⟨_, bDivmod_ok, .inl ⟨_, call_divmod, by decide +kernel⟩⟩
  split at h
  · rename_i e; cases h; subst e; exact ⟨_, bRepr_ok, .inl ⟨_, call_reprD hq hu, by decide +kernel⟩⟩
  · cases h
def blD (x : Str) : Option Fd := if x = "sorted" then some bSorted else blD0 x
theorem blD_ok {X : Cx} (hc : X.calm = true) (hq : Quiet X.A) (hu : X.A.units + 65 < cLine) {x : Str} {g : Fd} (h : blD x = some g) :
    ∃ r, FnD X.K r g ∧ ((∃ id, CallR X (.builtin id) r ∧ bootBuiltins x = some (.builtin id)) ∨ ∃ T, CallR X (.type T) r ∧ bootBuiltins x = some (.type T)) := by
  unfold blD at h
  split at h
  · rename_i e
    cases h
    subst e
    exact ⟨_, bSorted_ok, .inl ⟨_, cr_sortX, by decide +kernel⟩⟩
  · exact blD0_ok hc hq hu h
/-- a built-in class by its name, for isinstance -/
def tyD (x : Str) : Option String := if x = "tuple" then some "tuple" else if x = "int" then some "int" else if x = "bool" then some "bool" else if x = "str" then some "str" else if x = "list" then some "list" else none
theorem tyD_ok {x : Str} {T : String} (h : tyD x = some T) : bootBuiltins x = some (.type T) := by
  unfold tyD at h
  split at h
  · rename_i e; cases h; subst e; decide +kernel
  split at h
  · rename_i e; cases h; subst e; decide +kernel
  split at h
  · rename_i e; cases h; subst e; decide +kernel
  split at h
  · rename_i e; cases h; subst e; decide +kernel
  split at h
  · rename_i e; cases h; subst e; decide +kernel
  · cases h
/-! ### the meaning -/
def andsE : List (Sm W) → Sm W
  | [] => mNo
  | [a] => a
  | a :: r => mAnd a (andsE r)
def orsE : List (Sm W) → Sm W
  | [] => mNo
  | [a] => a
  | a :: r => mOr a (orsE r)
def andsT : List (Sm Bool) → Sm Bool
  | [] => mNo
  | [a] => a
  | a :: r => tAnd' a (andsT r)
def orsT : List (Sm Bool) → Sm Bool
  | [] => mNo
  | [a] => a
  | a :: r => tOr' a (orsT r)
def constD : Const → Option PD
  | .none => some .none
  | .bool b => some (.bool b)
  | .int i => some (.int i)
  | .str s => some (.str s)
  | _ => none
def kwNames : List Keyword → Option (List Str)
  | [] => some []
  | ⟨some x, _, _⟩ :: r => match kwNames r with
    | some l => some (x :: l)
    | none => none
  | _ => none
/-- by the name that is called -/
def callD (G : GE) (N : List Str) (sc : Scope) (f : Str) (as : List (Sm W)) : Sm W :=
  if isGl sc f = true then (match G.fn.lookup f with
    | some fe => mCall fe.ps.length fe.f (mArgs as)
    | none => if as.isEmpty = false ∧ G.bl.contains f = true then (match blD f with
      | some g => mFn g (mArgs as)
      | none => mNo) else mNo)
  else (match slotOf N sc f with
    | some i => if as.isEmpty = false then mCallV i G.fv G.tb (mArgs as) else mNo
    | none => mNo)
def callKD (G : GE) (sc : Scope) (f : Str) (as ks : List (Sm W)) (names : Option (List Str)) : Sm W :=
  if isGl sc f = true then (match G.fn.lookup f, names with
    | some fe, some l => (match fe.kw.lookup l with
      | some pm => mCallK fe.ps.length (fe.ps.length - l.length) l.length pm fe.f (mArgs as) (mArgs ks)
      | none => mNo)
    | _, _ => mNo)
  else mNo
def nameD (G : GE) (N : List Str) (sc : Scope) (x : Str) : Sm W := match slotOf N sc x with
  | some i => mVar i
  | none => if isGl sc x = true then (match G.cst.lookup x with
    | some (t, d) => mD t d
    | none => if G.fv.contains x = true then mFnV x else mNo) else mNo
def isRev : Option Expr → Option Expr → Expr → Bool
  | none, none, .UnaryOp .USub (.Constant (.int i) _ _) _ => decide (i = 1)
  | _, _, _ => false
def ifsD (m : Expr → Sm Bool) : List Expr → Sm Bool
  | [] => tTrue
  | [c] => m c
  | _ => mNo
def isSS (f : Str) : List Expr → Bool
  | [.Call (.Name g _) [_] [] _] => decide (f = "sorted") && decide (g = "set")
  | _ => false
def kwVal : Keyword → Expr
  | ⟨_, e, _⟩ => e
def starM (m : Expr → Sm W) : Expr → Bool × Sm W
  | .Starred a _ => (true, m a)
  | e => (false, m e)
mutual
def denE (G : GE) (N : List Str) : Nat → Scope → Expr → Sm W
  | 0, _, _ => mNo
  | n + 1, sc, e => match e with
    | .Name x _ => nameD G N sc x
    | .Constant c _ _ => (match constD c with
      | some d => mD true d
      | none => mNo)
    | .Tuple es _ _ => if es.any isStar = true then mTup (mArgsS (es.map (starM (denE G N n sc)))) else mTup (mArgs (es.map (denE G N n sc)))
    | .List es pos => mOld (denN G N n sc (.List es pos))
    | .ListComp elt gens scope pos => mOld (denN G N n sc (.ListComp elt gens scope pos))
    | .BinOp a op b _ => (match binD op with
      | some g => mBin g (denE G N n sc a) (denE G N n sc b)
      | none => mNo)
    | .UnaryOp op a _ => (match op with
      | .USub => mUn gNeg (denE G N n sc a)
      | .Not => mUn gNot (denE G N n sc a)
      | _ => mNo)
    | .BoolOp op vs _ => (match op with
      | .And => andsE (vs.map (denE G N n sc))
      | .Or => orsE (vs.map (denE G N n sc)))
    | .IfExp c a b _ => mIf (denT G N n sc c) (denE G N n sc a) (denE G N n sc b)
    | .Compare l ops cs _ => (match ops, cs with
      | [.Is], [.Constant .none _ _] => mUn gIs (denE G N n sc l)
      | [.IsNot], [.Constant .none _ _] => mUn gIsN (denE G N n sc l)
      | [op], [r] => (match cmpD op with
        | some g => if behindInMarks op r = false then mBin g (denE G N n sc l) (denE G N n sc r) else mNo
        | none => mNo)
      | [op, op'], [r, r'] => (match cmpD op, cmpD op' with
        | some g, some g' => if behindInMarks op' r' = false ∧ isSet r = false ∧ isSet r' = false then mChain g g' (denE G N n sc l) (denE G N n sc r) (denE G N n sc r') else mNo
        | _, _ => mNo)
      | _, _ => mNo)
    | .Call (.Name f p) as [] pos => if isSS f as = true then mOld (denN G N n sc (.Call (.Name f p) as [] pos)) else if as.any isStar = true then mNo else (match as with
      | [a, .Name T _] => if f = "isinstance" then (if isGl sc f = true ∧ G.bl.contains f = true ∧ (slotOf N sc T).isNone = true ∧ isGl sc T = true ∧ G.bl.contains T = true then (match tyD T with
          | some t => mUn (gIsi t) (denE G N n sc a)
          | none => mNo) else mNo) else callD G N sc f (as.map (denE G N n sc))
      | _ => callD G N sc f (as.map (denE G N n sc)))
    | .Call (.Name f _) as ks _ => if as.any isStar = true then mNo else callKD G sc f (as.map (denE G N n sc)) (ks.map fun k => denE G N n sc (kwVal k)) (kwNames ks)
    | .Call (.Attribute (.Name x p) m apos) [a] [] cpos => if m = "append" ∧ isStar a = false ∧ (apos.endLine == cpos.line) = true then mApp (denE G N n sc (.Name x p)) (denE G N n sc a) else mNo
    | .Call (.Attribute (.Name x p) m apos) [a, b] [] cpos => if m = "get" ∧ isStar a = false ∧ isStar b = false ∧ (apos.endLine == cpos.line) = true then mGet2 (denE G N n sc (.Name x p)) (denE G N n sc a) (denE G N n sc b) else mNo
    | .Dict [] [] _ => mNewD
    | .Subscript v (.Slice lo hi none _) _ => mSl (denE G N n sc v) (mPart (lo.map (denE G N n sc))) (mPart (hi.map (denE G N n sc)))
    | .Subscript v (.Slice lo hi (some st) _) _ => if isRev lo hi st = true then mRevQ (denE G N n sc v) else mNo
    | .Subscript v i _ => mBin gIx (denE G N n sc v) (denE G N n sc i)
    | _ => mNo
def denT (G : GE) (N : List Str) : Nat → Scope → Expr → Sm Bool
  | 0, _, _ => mNo
  | n + 1, sc, e => match e with
    | .UnaryOp .Not a _ => tNot' (denT G N n sc a)
    | .BoolOp .And vs _ => andsT (vs.map (denT G N n sc))
    | .BoolOp .Or vs _ => orsT (vs.map (denT G N n sc))
    | .IfExp _ _ _ _ => mNo
    | e => tB1 (denE G N n sc e)
/-- new lists -/
def denN (G : GE) (N : List Str) : Nat → Scope → Expr → Sm (Bool × List PD)
  | 0, _, _ => mNo
  | n + 1, sc, e => match e with
    | .List es _ => if es.any isStar = true then mNo else mLst (mArgs (es.map (denE G N n sc)))
    | .ListComp elt [⟨tg, iter, ifs, 0⟩] scope _ => (match denG N (rl scope sc) (fun x => decide (scope.names.lookup x = some .local ∨ scope.names.lookup x = some .cell)) n tg with
      | some (g, S) => if blkC N sc scope (ownOf N scope) = true ∧ S.all (((ownOf N scope).map (·.2)).contains ·) = true ∧ isSet iter = false then
          mLc (denI G N n sc iter) g (ifsD (denT G N n (rl scope sc)) ifs) (denE G N n (rl scope sc) elt) ((ownOf N scope).map (·.2)) else mNo
      | none => mNo)
    | .ListComp elt [⟨tg, iter, ifs, 0⟩, ⟨tg1, iter1, ifs1, 0⟩] scope _ => (match denG N (rl scope sc) (fun x => decide (scope.names.lookup x = some .local ∨ scope.names.lookup x = some .cell)) n tg, denG N (rl scope sc) (fun x => decide (scope.names.lookup x = some .local ∨ scope.names.lookup x = some .cell)) n tg1 with
      | some (g, S), some (g1, S1) => if blkC N sc scope (ownOf N scope) = true ∧ S.all (((ownOf N scope).map (·.2)).contains ·) = true ∧ S1.all (((ownOf N scope).map (·.2)).contains ·) = true ∧ isSet iter = false ∧ isSet iter1 = false then
          mLc2 (denI G N n sc iter) g (ifsD (denT G N n (rl scope sc)) ifs) (denI G N n (rl scope sc) iter1) g1 (ifsD (denT G N n (rl scope sc)) ifs1) (denE G N n (rl scope sc) elt) ((ownOf N scope).map (·.2)) S1 else mNo
      | _, _ => mNo)
    | .Call (.Name f _) [.Call (.Name g _) [e] [] _] [] _ => if f = "sorted" ∧ g = "set" ∧ isGl sc f = true ∧ isGl sc g = true ∧ G.bl.contains f = true ∧ G.bl.contains g = true ∧ isStar e = false then mSortSet (denE G N n sc e) else mNo
    | _ => mNo
/-- what is walked -/
def denI (G : GE) (N : List Str) : Nat → Scope → Expr → Sm (Bool × List PD)
  | 0, _, _ => mNo
  | n + 1, sc, e => match e with
    | .Call (.Name f p) [a] [] pos => if f = "range" then (if isGl sc f = true ∧ G.bl.contains f = true ∧ isStar a = false then mRange1 (mArgs [denE G N n sc a]) else mNo) else mItems (denE G N n sc (.Call (.Name f p) [a] [] pos))
    | .Call (.Name f p) [a, b] [] pos => if f = "range" then (if isGl sc f = true ∧ G.bl.contains f = true ∧ isStar a = false ∧ isStar b = false then mRange2 (mArgs [denE G N n sc a, denE G N n sc b]) else mNo) else mItems (denE G N n sc (.Call (.Name f p) [a, b] [] pos))
    | .Call (.Name f p) [a, b, c] [] pos => if f = "range" then (if isGl sc f = true ∧ G.bl.contains f = true ∧ isStar a = false ∧ isStar b = false ∧ isStar c = false then mRangeDn (mArgs [denE G N n sc a, denE G N n sc b, denE G N n sc c]) else mNo) else mItems (denE G N n sc (.Call (.Name f p) [a, b, c] [] pos))
    | e => mItems (denE G N n sc e)
end
end Ek

/-! Ek10: expressions mean what they are -/
namespace Ek
open PySem PySem.Spec PyProof.Rows L2
structure GOk (X : Cx) (G : GE) (k : Nat) : Prop where
  nd : X.N.Nodup
  calm : X.calm = true
  xe : X.xe = fun _ _ => False
  room : Room k X.A
  qt : Quiet X.A
  fn : ∀ x fe, G.fn.lookup x = some fe → ∃ a fd, X.mg x = some (.ref a) ∧ FnG X.prog X.w X.K X.mg X.base k a fd fe.ps (spOf X.K fe.ps.length fe.f) ∧ PySem.W.keepIn X.K (.ref a) = true ∧ Binds X.K fd fe.ps [] ∧ ∀ l pm, fe.kw.lookup l = some pm → KwOk X.K fd fe.ps l pm
  cst : ∀ x t d, G.cst.lookup x = some (t, d) → ∃ u v, X.mg x = some u ∧ RelV v u ∧ ∀ H, Dq (kk t X.K) H v d
  bl : ∀ x, G.bl.contains x = true → X.mg x = none
  fv : ∀ x, G.fv.contains x = true → ∃ a, PySem.W.nsIn X.K mainGlobals x = some (some (.ref a)) ∧ X.mg x = some (.ref a)
theorem GOk.blk {X : Cx} {G : GE} {k : Nat} (g : GOk X G k) (s : Shared) (H : Hp) (scope : Scope) (env : Env) (fp : List Addr) : GOk (X.blk s H scope env fp) G k :=
  ⟨g.nd, g.calm, rfl, g.room, g.qt, g.fn, g.cst, g.bl, g.fv⟩
theorem GOk.units {X : Cx} {G : GE} {k : Nat} (g : GOk X G k) : X.A.units + 65 < cLine := by have := g.room.un; omega
section
variable {X : Cx} {G : GE} {k : Nat}
theorem gl_of {x : Str} (h : isGl X.env.scope x = true) : Gl X x ∧ (x == ("__debug__" : Str)) = false ∧ x ≠ "__name__" := by
  unfold isGl at h
  simp only [Bool.and_eq_true, decide_eq_true_eq, Bool.not_eq_true'] at h
  exact ⟨h.1.1, h.1.2, fun e => by rw [e] at h; simp at h⟩
theorem name_ok (g : GOk X G k) {x : Str} {pos : Pos} : PE X (.Name x pos) (tOf X.K (nameD G X.N X.env.scope x)) := by
  unfold nameD
  split
  · rename_i i hi
    unfold slotOf at hi
    split at hi
    · rename_i hh
      exact pe_mvar (findIdx_at hi) hh.2.2 hh.1 hh.2.1
    · cases hi
  · split
    · rename_i hg
      obtain ⟨h1, h2, h3⟩ := gl_of hg
      split
      · rename_i t d hc
        obtain ⟨u, v, hm, r, hd⟩ := g.cst x t d hc
        exact pe_md (pe_glob h1 hm r h2) hd
      · split
        · rename_i hf
          obtain ⟨a, hn, hm⟩ := g.fv x hf
          exact pe_mfnv (pe_glob h1 hm rfl h2) hn
        · exact pe_no fun _ _ => rfl
    · exact pe_no fun _ _ => rfl
theorem const_ok {c : Const} {j : Nat} {pos : Pos} : PE X (.Constant c j pos) (tOf X.K (match constD c with | some d => mD true d | none => mNo)) := by
  cases c with
  | none => exact pe_md pe_non fun _ => .non
  | bool b => exact pe_md pe_bl fun _ => .bl _
  | int i => exact pe_md pe_int fun _ => .int _
  | str s => exact pe_md pe_str fun _ => .str _
  | _ => exact pe_no fun _ _ => rfl
theorem args_ok {m : Expr → Sm W} : ∀ {es : List Expr}, es.any isStar = false → (∀ e, PE X e (tOf X.K (m e))) → PA X es (tOfA X.K (mArgs (es.map m)))
  | [], _, _ => pa_mnil
  | e :: es, h, hp => by
    rw [List.any_cons, Bool.or_eq_false_iff] at h
    exact pa_mcons (hp e) (args_ok h.2 hp) (each_star h.1 X.env)
theorem kws_ok {m : Expr → Sm W} (hp : ∀ e, PE X e (tOf X.K (m e))) : ∀ {ks : List Keyword}, PK X ks (tOfA X.K (mArgs (ks.map fun k => m (kwVal k))))
  | [] => pk_mnil
  | ⟨_, e, _⟩ :: ks => pk_mcons (hp e) (kws_ok hp)
theorem kw_names {env : Env} {pos : Pos} : ∀ {ks : List Keyword} {l : List Str}, kwNames ks = some l → (backToKw pos (keywordEach ks env)).all (·.1.isSome) = true ∧ (backToKw pos (keywordEach ks env)).filterMap (·.1) = l ∧ (backToKw pos (keywordEach ks env)).any (·.1.isNone) = false
  | [], l, h => by cases h; exact ⟨rfl, rfl, rfl⟩
  | ⟨some x, e, p⟩ :: ks, l, h => by
    simp only [kwNames] at h
    split at h
    · rename_i l' hl
      cases h
      obtain ⟨h1, h2, h3⟩ := kw_names (env := env) (pos := pos) hl
      refine ⟨?_, ?_, ?_⟩
      · show (true && (backToKw pos (keywordEach ks env)).all (·.1.isSome)) = true
        rw [h1]; rfl
      · show x :: (backToKw pos (keywordEach ks env)).filterMap (·.1) = _
        rw [h2]
      · show (false || (backToKw pos (keywordEach ks env)).any (·.1.isNone)) = false
        rw [h3]; rfl
    · cases h
  | ⟨none, e, p⟩ :: ks, l, h => by cases h
theorem call_ok (g : GOk X G k) {f : Str} {as : List Expr} {m : Expr → Sm W} (hs : as.any isStar = false) (hp : ∀ e, PE X e (tOf X.K (m e))) {p pos : Pos} : PE X (.Call (.Name f p) as [] pos) (tOf X.K (callD G X.N X.env.scope f (as.map m))) := by
  unfold callD
  split
  · rename_i hg
    obtain ⟨h1, h2, h3⟩ := gl_of hg
    split
    · rename_i fe hf
      obtain ⟨a, fd, hm, F, hk, hb, _⟩ := g.fn f fe hf
      cases as with
      | nil => exact pe_mcall0 F g.room g.qt h1 hm hk hb h2
      | cons e es =>
        have hs' := hs
        rw [List.any_cons, Bool.or_eq_false_iff] at hs'
        exact pe_mcall F g.room g.qt h1 hm hk hb (args_ok hs hp) h2 (each_star hs'.1 _) (each_stars hs'.2 _ _)
    · split
      · rename_i hb
        split
        · rename_i gf hbl
          obtain ⟨r, hd, hc⟩ := blD_ok (X := X) g.calm g.qt (by have := g.units; omega) hbl
          cases as with
          | nil => simp at hb
          | cons e es =>
            have hs' := hs
            rw [List.any_cons, Bool.or_eq_false_iff] at hs'
            rcases hc with ⟨id, hc, hv⟩ | ⟨T, hc, hv⟩
            · exact pe_mcb hd hc h1 (g.bl f hb.2) hv (args_ok hs hp) h3 h2 (each_star hs'.1 _) (each_stars hs'.2 _ _)
            · exact pe_mct hd hc h1 (g.bl f hb.2) hv (args_ok hs hp) h3 h2 (each_star hs'.1 _) (each_stars hs'.2 _ _)
        · exact pe_no fun _ _ => rfl
      · exact pe_no fun _ _ => rfl
  · split
    · rename_i i hi
      split
      · rename_i hb
        unfold slotOf at hi
        split at hi
        · rename_i hh
          cases as with
          | nil => simp at hb
          | cons e es =>
            have hs' := hs
            rw [List.any_cons, Bool.or_eq_false_iff] at hs'
            refine pe_mcallV (findIdx_at hi) hh.2.2 hh.1 hh.2.1 g.room g.qt (fun y n gf hf htb => ?_) (args_ok hs hp) (each_star hs'.1 _) (each_stars hs'.2 _ _)
            unfold GE.tb at htb
            split at htb
            · rename_i fe hfe
              cases htb
              obtain ⟨a, hn, hm⟩ := g.fv y hf
              obtain ⟨a', fd, hm', F, hk, hb, _⟩ := g.fn y fe hfe
              rw [hm] at hm'
              cases hm'
              exact ⟨a, fd, _, hn, F, hk, hb⟩
            · cases htb
        · cases hi
      · exact pe_no fun _ _ => rfl
    · exact pe_no fun _ _ => rfl
theorem callK_ok (g : GOk X G k) {f : Str} {as : List Expr} {ks : List Keyword} {m : Expr → Sm W} (hs : as.any isStar = false) (hp : ∀ e, PE X e (tOf X.K (m e))) {p pos : Pos} : PE X (.Call (.Name f p) as ks pos) (tOf X.K (callKD G X.env.scope f (as.map m) (ks.map fun k => m (kwVal k)) (kwNames ks))) := by
  unfold callKD
  split
  · rename_i hg
    obtain ⟨h1, h2, h3⟩ := gl_of hg
    split
    · rename_i fe l hf hl
      split
      · rename_i pm hpm
        obtain ⟨a, fd, hm, F, hk, hb, hkw⟩ := g.fn f fe hf
        obtain ⟨k1, k2, k3⟩ := kw_names (env := X.env) (pos := pos) hl
        cases as with
        | nil => exact pe_mcallK0 F g.room g.qt h1 hm hk (hkw l pm hpm) (kws_ok hp) k1 k2 h2 (by rw [k3]; rfl)
        | cons e es =>
          have hs' := hs
          rw [List.any_cons, Bool.or_eq_false_iff] at hs'
          exact pe_mcallK F g.room g.qt h1 hm hk (hkw l pm hpm) (args_ok hs hp) (kws_ok hp) k1 k2 h2 (each_star hs'.1 _) (by rw [k3, each_stars hs]; rfl)
      · exact pe_no fun _ _ => rfl
    · exact pe_no fun _ _ => rfl
  · exact pe_no fun _ _ => rfl
theorem ands_ok {m : Expr → Sm W} (hp : ∀ e, PE X e (tOf X.K (m e))) {pos : Pos} : ∀ {vs : List Expr}, PE X (.BoolOp .And vs pos) (tOf X.K (andsE (vs.map m)))
  | [] => pe_no fun _ _ => rfl
  | [a] => pe_one (hp a)
  | a :: b :: r => pe_mand (hp a) (ands_ok hp (vs := b :: r)) rfl
theorem ors_ok {m : Expr → Sm W} (hp : ∀ e, PE X e (tOf X.K (m e))) {pos : Pos} : ∀ {vs : List Expr}, PE X (.BoolOp .Or vs pos) (tOf X.K (orsE (vs.map m)))
  | [] => pe_no fun _ _ => rfl
  | [a] => pe_one (hp a)
  | a :: b :: r => pe_mor (hp a) (ors_ok hp (vs := b :: r)) rfl
theorem andT_ok {m : Expr → Sm Bool} (hp : ∀ e, PT X e (tOfT X.K (m e))) {pos : Pos} : ∀ {a : Expr} {vs : List Expr}, PW X (.BoolOp .And (a :: vs) pos) (tOfT X.K (andsT ((a :: vs).map m)))
  | a, [] => pw_and1 (hp a)
  | a, b :: r => pw_imp (pw_and (hp a) (andT_ok hp (a := b) (vs := r))) tAnd_of
theorem orT_ok {m : Expr → Sm Bool} (hp : ∀ e, PT X e (tOfT X.K (m e))) {pos : Pos} : ∀ {a : Expr} {vs : List Expr}, PW X (.BoolOp .Or (a :: vs) pos) (tOfT X.K (orsT ((a :: vs).map m)))
  | a, [] => pw_or1 (hp a)
  | a, b :: r => pw_imp (pw_or (hp a) (orT_ok hp (a := b) (vs := r))) tOr_of
theorem tTest_of {K : PySem.W.Frag} {m : Sm W} {t : TE} (h : ∀ σ H Q, tOf K m σ H Q → t σ H Q) : ∀ σ H Q, tOfT K (tB1 m) σ H Q → t σ H fun x H' => ∃ k, x = .bl k ∧ Q k H' := by
  intro σ H Q ⟨Z, φ, Δ, M, b, M', R, hh, q⟩
  unfold tB1 at hh
  split at hh
  · rename_i t' k M1 hx
    cases hh
    refine h σ H _ ⟨Z, φ, Δ, M, _, M', R, hx, fun v φ1 H1 e1 m1 r1 => ?_⟩
    cases r1
    exact ⟨b, rfl, q φ1 H1 e1 m1⟩
  · cases hh
theorem foldS {iter : Expr} (h : isSet iter = false) (env : Env) : ∀ x, foldedSetIterable iter env x = pure x := by
  intro x
  cases iter <;> first | rfl | cases h
theorem chainMarks {op op' : CmpOp} {r r' : Expr} (h : isSet r = false) (h' : isSet r' = false) : behindInMarks op r = false ∧ behindInMarks op' r' = false := by
  constructor
  · cases r <;> first | rfl | cases h
  · cases r' <;> first | rfl | cases h'
end
end Ek

/-! Ek11: expressions mean what they are (the whole) -/
namespace Ek
open PySem PySem.Spec PyProof.Rows L2
structure SoundE (G : GE) (k n : Nat) : Prop where
  e : ∀ (X : Cx), GOk X G k → ∀ e, PE X e (tOf X.K (denE G X.N n X.env.scope e))
  t : ∀ (X : Cx), GOk X G k → ∀ e, PT X e (tOfT X.K (denT G X.N n X.env.scope e))
  l : ∀ (X : Cx), GOk X G k → ∀ e, PE X e (tOfN X.K (denN G X.N n X.env.scope e))
  c : ∀ (X : Cx), GOk X G k → ∀ l ops cs pos, PT X (.Compare l ops cs pos) (tOfT X.K (tB1 (denE G X.N n X.env.scope (.Compare l ops cs pos))))
  i : ∀ (X : Cx), GOk X G k → ∀ tg e, PI X tg e (tOfI X.K (denI G X.N n X.env.scope e))
section
variable {X : Cx} {G : GE} {k n : Nat} {e : Expr}
theorem pn_no : PE X e (tOfN X.K mNo) := ⟨fun pins s σ H Q I ⟨_, _, _, _, _, _, _, _, q, _⟩ => by cases q⟩
theorem pi_no {tg : Expr} : PI X tg e (tOfI X.K mNo) := ⟨fun pins s σ H Q I ⟨_, _, _, _, _, _, _, _, q, _⟩ => by cases q⟩
theorem cmp_ok (S : SoundE G k n) (g : GOk X G k) {l : Expr} {ops : List CmpOp} {cs : List Expr} {pos : Pos} :
    ∃ t : TE, (PE X (.Compare l ops cs pos) t ∧ PT X (.Compare l ops cs pos) (fun σ H Q => t σ H fun x H' => ∃ k, x = .bl k ∧ Q k H')) ∧ ∀ σ H Q, tOf X.K (denE G X.N (n + 1) X.env.scope (.Compare l ops cs pos)) σ H Q → t σ H Q := by
  have no : ∃ t : TE, (PE X (.Compare l ops cs pos) t ∧ PT X (.Compare l ops cs pos) (fun σ H Q => t σ H fun x H' => ∃ k, x = .bl k ∧ Q k H')) ∧ ∀ σ H Q, tOf X.K mNo σ H Q → t σ H Q :=
    ⟨fun _ _ _ => False, ⟨⟨fun _ _ _ _ _ _ h => h.elim⟩, ⟨fun _ _ _ _ _ _ h => h.elim⟩⟩, fun σ H Q ⟨_, _, _, _, _, _, _, q, _⟩ => by cases q⟩
  have pl := S.e X g l
  simp only [denE]
  split
  · refine ⟨_, ⟨pe_cmp (pc_isN pl) (by rfl), pt_cmp (pc_isN pl) (by rfl)⟩, fun σ H Q ⟨Z, φ, Δ, M, w, M', R, h, q⟩ => ?_⟩
    unfold mUn at h
    split at h
    · rename_i w1 M1 hx
      cases h
      refine ⟨Z, φ, Δ, M, w1, _, R, hx, fun v φ1 H1 e1 m1 r1 => ?_⟩
      show Q (V.bl (decide (v = V.non))) H1
      rw [isNon_ok r1]
      exact q _ φ1 H1 e1 m1 (.bl _)
    · cases h
  · refine ⟨_, ⟨pe_cmp (pc_notN pl) (by rfl), pt_cmp (pc_notN pl) (by rfl)⟩, fun σ H Q ⟨Z, φ, Δ, M, w, M', R, h, q⟩ => ?_⟩
    unfold mUn at h
    split at h
    · rename_i w1 M1 hx
      cases h
      refine ⟨Z, φ, Δ, M, w1, _, R, hx, fun v φ1 H1 e1 m1 r1 => ?_⟩
      show Q (V.bl (!decide (v = V.non))) H1
      rw [isNon_ok r1]
      exact q _ φ1 H1 e1 m1 (.bl _)
    · cases h
  · rename_i op r _ _
    split
    · rename_i gg hg
      split
      · rename_i hm
        obtain ⟨rr, ho, hd⟩ := cmpD_ok (X := X) g.units hg
        exact ⟨_, ⟨pe_cmpR ho pl (S.e X g r) hm, pt_cmpR ho pl (S.e X g r) hm⟩, tOp_of hd⟩
      · exact no
    · exact no
  · rename_i op op' r r'
    split
    · rename_i g1 g2 hg1 hg2
      split
      · rename_i hm
        obtain ⟨rr, ho, hd⟩ := cmpD_ok (X := X) g.units hg1
        obtain ⟨rr', ho', hd'⟩ := cmpD_ok (X := X) g.units hg2
        exact ⟨_, ⟨pe_chain ho ho' pl (S.e X g r) (S.e X g r') hm.1, pt_chain ho ho' pl (S.e X g r) (S.e X g r') hm.1⟩, tChain_of hd hd'⟩
      · exact no
    · exact no
  · exact no
theorem soundT (S : SoundE G k n) (g : GOk X G k) : PT X e (tOfT X.K (denT G X.N (n + 1) X.env.scope e)) := by
  cases e with
  | UnaryOp op a pos =>
    cases op with
    | Not => exact pt_mnot (S.t X g a)
    | _ => exact pt_mval (S.e X g _) fun _ => rfl
  | BoolOp op vs pos =>
    cases vs with
    | nil => cases op <;> exact pt_no fun _ _ => rfl
    | cons a vs =>
      cases op with
      | And => exact (andT_ok (S.t X g)).pt
      | Or => exact (orT_ok (S.t X g)).pt
  | IfExp c a b pos => exact pt_no fun _ _ => rfl
  | Compare l ops cs pos => exact S.c X g l ops cs pos
  | _ => exact pt_mval (S.e X g _) fun _ => rfl
theorem soundI (S : SoundE G k n) (g : GOk X G k) {tg : Expr} : PI X tg e (tOfI X.K (denI G X.N (n + 1) X.env.scope e)) := by
  unfold denI
  split
  · rename_i f p a pos
    split
    · rename_i hf
      subst hf
      split
      · rename_i hh
        obtain ⟨h1, h2, h3⟩ := gl_of hh.1
        exact pi_mrange1 h1 (g.bl _ hh.2.1) (pa_mcons (S.e X g a) pa_mnil (each_star hh.2.2 _)) (each_star hh.2.2 _)
      · exact pi_no
    · exact pi_mitems (S.e X g _)
  · rename_i f p a b pos
    split
    · rename_i hf
      subst hf
      split
      · rename_i hh
        obtain ⟨h1, h2, h3⟩ := gl_of hh.1
        have s2 := each_star (es := []) hh.2.2.2 X.env
        have s1 : starEach [a, b] X.env = [(false, eval a X.env), (false, eval b X.env)] := by rw [each_star hh.2.2.1, s2]; rfl
        exact pi_mrange2 h1 (g.bl _ hh.2.1) (pa_mcons (S.e X g a) (pa_mcons (S.e X g b) pa_mnil s2) (each_star hh.2.2.1 _)) s1 s2
      · exact pi_no
    · exact pi_mitems (S.e X g _)
  · rename_i f p a b c pos
    split
    · rename_i hf
      subst hf
      split
      · rename_i hh
        obtain ⟨h1, h2, h3⟩ := gl_of hh.1
        obtain ⟨_, hb, n1, n2, n3⟩ := hh
        have s3 := each_star (es := []) n3 X.env
        have s2 := each_star (es := [c]) n2 X.env
        have s1 := each_star (es := [b, c]) n1 X.env
        exact pi_mrangeDn h1 (g.bl _ hb) (pa_mcons (S.e X g a) (pa_mcons (S.e X g b) (pa_mcons (S.e X g c) pa_mnil s3) s2) s1) s1 (each_stars (by simp [n2, n3]) _ _)
      · exact pi_no
    · exact pi_mitems (S.e X g _)
  · exact pi_mitems (S.e X g _)
theorem argsS_ok {m : Expr → Sm W} (hp : ∀ e, PE X e (tOf X.K (m e))) : ∀ {es : List Expr}, PA X es (tOfA X.K (mArgsS (es.map (starM m))))
  | [] => pa_msnil
  | e :: es => by
    by_cases h : isStar e = true
    · cases e <;> first | exact pa_msstar (hp _) (argsS_ok hp) | cases h
    · have h' : isStar e = false := by simpa using h
      have e2 : starM m e = (false, m e) := by cases e <;> first | rfl | cases h'
      rw [List.map_cons, e2]
      exact pa_mscons (hp e) (argsS_ok hp) (each_star h' X.env)
theorem pts_ifs (S : SoundE G k n) (g : GOk X G k) {s : Shared} {H : Hp} {C : Addr} {cl : List (Str × Addr)} {fp : List Addr} {scope : Scope} : ∀ {ifs : List Expr}, PTs (X.blk s H scope (compEnvC scope cl C X.env) fp) ifs (tOfT X.K (ifsD (denT G X.N n (rl scope X.env.scope)) ifs))
  | [] => ⟨fun pins s σ H Q I ⟨Z, φ, Δ, M, b, M', R, h, q⟩ => by cases h; exact pts_nil.run pins s σ H Q I (q φ H Ext.refl R.mem)⟩
  | [c] => pts_one (S.t (X.blk s H scope (compEnvC scope cl C X.env) fp) (g.blk _ _ _ _ _) c)
  | _ :: _ :: _ => ⟨fun pins s σ H Q I ⟨Z, φ, Δ, M, b, M', R, h, q⟩ => by cases h⟩
theorem pg_own (g : GOk X G k) {s : Shared} {H : Hp} {C : Addr} {cl : List (Str × Addr)} {fp : List Addr} {scope : Scope} {tg : Expr} {gt : Tg} {S1 : List Nat} (hg : denG X.N (rl scope X.env.scope) (fun x => decide (scope.names.lookup x = some .local ∨ scope.names.lookup x = some .cell)) n tg = some (gt, S1)) :
    PG (X.blk s H scope (compEnvC scope cl C X.env) fp) tg (tOfG X.K gt S1) := by
  refine denG_ok (X := X.blk s H scope (compEnvC scope cl C X.env) fp) g.nd g.calm (fun x hx => ?_) n tg gt S1 hg
  rw [decide_eq_true_eq] at hx
  rcases hx with hx | hx
  · exact .inr (lookup_relabel_local hx)
  · refine .inl ?_
    show (scope.names.lookup x == some .cell) = true
    rw [hx]; rfl
theorem own_all {N : List Str} {scope : Scope} {S1 : List Nat} (h : S1.all (((ownOf N scope).map (·.2)).contains ·) = true) : ∀ i ∈ S1, i ∈ (ownOf N scope).map (·.2) := fun i hi => by
  have := List.all_eq_true.mp h i hi
  simpa using this
theorem rl_eq (scope : Scope) (cl : List (Str × Addr)) (C : Addr) (env : Env) : (compEnvC scope cl C env).scope = rl scope env.scope := rfl
theorem soundN (S : SoundE G k n) (g : GOk X G k) : PE X e (tOfN X.K (denN G X.N (n + 1) X.env.scope e)) := by
  unfold denN
  split
  · rename_i es pos
    split
    · exact pn_no
    · rename_i hs
      exact pe_mlst (args_ok (by simpa using hs) (S.e X g))
  · rename_i elt tg iter ifs scope pos
    split
    · rename_i gt S1 hg
      split
      · rename_i hh
        obtain ⟨hb, hS, hi⟩ := hh
        have hS' : ∀ i ∈ S1, i ∈ (ownOf X.N scope).map (·.2) := fun i h => by
          have := List.all_eq_true.mp hS i h
          simpa using this
        refine pe_imp (pe_lc (own := ownOf X.N scope) (tt := tOfT X.K (ifsD (denT G X.N n (rl scope X.env.scope)) ifs)) g.calm g.nd (S.i X g tg iter) (blkOk_by hb) (fun s H C cl fp => ?_) (fun s H C cl fp => ?_) (fun s H C cl fp => ?_) (foldS hi X.env)) (tLc_of hS')
        · refine denG_ok (X := X.blk s H scope (compEnvC scope cl C X.env) fp) g.nd g.calm (fun x hx => ?_) n tg gt S1 hg
          rw [decide_eq_true_eq] at hx
          rcases hx with hx | hx
          · exact .inr (lookup_relabel_local hx)
          · refine .inl ?_
            show (scope.names.lookup x == some .cell) = true
            rw [hx]; rfl
        · match ifs with
          | [] => exact ⟨fun pins s σ H Q I ⟨Z, φ, Δ, M, b, M', R, h, q⟩ => by cases h; exact pts_nil.run pins s σ H Q I (q φ H Ext.refl R.mem)⟩
          | [c] => exact pts_one (S.t (X.blk s H scope (compEnvC scope cl C X.env) fp) (g.blk _ _ _ _ _) c)
          | _ :: _ :: _ => exact ⟨fun pins s σ H Q I ⟨Z, φ, Δ, M, b, M', R, h, q⟩ => by cases h⟩
        · exact S.e (X.blk s H scope (compEnvC scope cl C X.env) fp) (g.blk _ _ _ _ _) elt
      · exact pn_no
    · exact pn_no
  · rename_i elt tg iter ifs tg1 iter1 ifs1 scope pos
    split
    · rename_i gt S1 gt1 S2 hg hg1
      split
      · rename_i hh
        obtain ⟨hb, hS, hS2, hi, hi1⟩ := hh
        exact pe_imp (pe_lc2 (own := ownOf X.N scope) g.calm g.nd (S.i X g tg iter) (blkOk_by hb) (own_all hS2) (fun s H C cl fp => pg_own g hg) (fun s H C cl fp => pts_ifs S g)
          (fun s H C cl fp => S.i (X.blk s H scope (compEnvC scope cl C X.env) fp) (g.blk _ _ _ _ _) tg1 iter1) (fun s H C cl fp => pg_own g hg1) (fun s H C cl fp => pts_ifs S g) (fun s H C cl fp => S.e (X.blk s H scope (compEnvC scope cl C X.env) fp) (g.blk _ _ _ _ _) elt) (foldS hi X.env) (fun env => foldS hi1 env)) (tLc2_of (own_all hS) (fun _ h => h))
      · exact pn_no
    · exact pn_no
  · rename_i f p g2 p2 e pos2 pos
    split
    · rename_i hh
      obtain ⟨h1, h2, h3, h4, h5, h6, h7⟩ := hh
      subst h1
      subst h2
      exact pe_msortset g.calm (gl_of h3).1 (g.bl _ h5) (gl_of h4).1 (g.bl _ h6) (S.e X g e) (each_star h7 _)
    · exact pn_no
  · exact pn_no
theorem soundC (S : SoundE G k n) (g : GOk X G k) (l : Expr) (ops : List CmpOp) (cs : List Expr) (pos : Pos) : PT X (.Compare l ops cs pos) (tOfT X.K (tB1 (denE G X.N (n + 1) X.env.scope (.Compare l ops cs pos)))) := by
  obtain ⟨t, ⟨_, h⟩, i⟩ := cmp_ok S g (l := l) (ops := ops) (cs := cs) (pos := pos)
  exact pt_imp h (tTest_of i)
theorem baseS {x : Str} {p : Pos} {m : Str} {env : Env} : attributeBase (.Name x p) m env (eval (.Name x p) env) = eval (.Name x p) env := rfl
theorem plainIx {i : Expr} (h : ∀ a b c p, i ≠ .Slice a b c p) : PlainIx i := by
  intro o j
  cases i <;> first | rfl | exact absurd rfl (h _ _ _ _)
theorem soundCall (S : SoundE G k n) (g : GOk X G k) {f : Expr} {as : List Expr} {ks : List Keyword} {pos : Pos} : PE X (.Call f as ks pos) (tOf X.K (denE G X.N (n + 1) X.env.scope (.Call f as ks pos))) := by
  cases f with
  | Name f p =>
    cases ks with
    | nil =>
      simp only [denE]
      split
      · exact pe_mold (S.l X g _)
      split
      · exact pe_no fun _ _ => rfl
      · rename_i hs
        have hs' : as.any isStar = false := by simpa using hs
        split
        · rename_i a T pT _
          split
          · rename_i hf
            subst hf
            split
            · rename_i hh
              obtain ⟨h1, h2, h3, h4, h5⟩ := hh
              obtain ⟨g1, g2, g3⟩ := gl_of h1
              obtain ⟨t1, t2, t3⟩ := gl_of h4
              split
              · rename_i t ht
                rw [List.any_cons, Bool.or_eq_false_iff] at hs'
                exact pe_misi g1 (g.bl _ h2) (S.e X g a) (pe_bltn t1 (g.bl _ h5) (tyD_ok ht) rfl t3 t2) (each_star hs'.1 _)
              · exact pe_no fun _ _ => rfl
            · exact pe_no fun _ _ => rfl
          · exact call_ok g hs' (S.e X g)
        · exact call_ok g hs' (S.e X g)
    | cons q ks =>
      show PE X _ (tOf X.K (if as.any isStar = true then mNo else callKD G X.env.scope f (as.map (denE G X.N n X.env.scope)) ((q :: ks).map fun k => denE G X.N n X.env.scope (kwVal k)) (kwNames (q :: ks))))
      split
      · exact pe_no fun _ _ => rfl
      · rename_i hs
        exact callK_ok g (by simpa using hs) (S.e X g)
  | Attribute o m ap =>
    cases o with
    | Name x p =>
      match as, ks with
      | [a], [] =>
        simp only [denE]
        split
        · rename_i hh
          obtain ⟨h1, h2, h3⟩ := hh
          subst h1
          exact pe_mapp (S.e X g _) (S.e X g a) baseS (each_star h2 _) h3
        · exact pe_no fun _ _ => rfl
      | [a, b], [] =>
        simp only [denE]
        split
        · rename_i hh
          obtain ⟨h1, h2, h3, h4⟩ := hh
          subst h1
          have hu := g.units
          have s2 := each_star (es := []) h3 X.env
          have s1 := each_star (es := [b]) h2 X.env
          have tr : backTo pos (starEach [a, b] X.env) = [(false, eval a X.env), (false, eval b X.env)] := by rw [s1, s2]; rfl
          exact pe_mget2 (by omega) (S.e X g _) (S.e X g a) (S.e X g b) ⟨baseS, by rw [tr]; rfl, h4, tr⟩
        · exact pe_no fun _ _ => rfl
      | [], _ => exact pe_no fun _ _ => rfl
      | _ :: _ :: _ :: _, _ => exact pe_no fun _ _ => rfl
      | [_, _], _ :: _ => exact pe_no fun _ _ => rfl
      | [_], _ :: _ => exact pe_no fun _ _ => rfl
    | _ => exact pe_no fun _ _ => rfl
  | _ => exact pe_no fun _ _ => rfl
theorem part_ok (S : SoundE G k n) (g : GOk X G k) {o : Option Expr} : PO X o (tOfO X.K (mPart (o.map (denE G X.N n X.env.scope)))) := by
  cases o with
  | none => exact po_mnone
  | some e => exact po_msome (S.e X g e)
theorem soundSub (S : SoundE G k n) (g : GOk X G k) {v i : Expr} {pos : Pos} : PE X (.Subscript v i pos) (tOf X.K (denE G X.N (n + 1) X.env.scope (.Subscript v i pos))) := by
  by_cases hsl : ∃ a b c p, i = .Slice a b c p
  · obtain ⟨a, b, c, p, rfl⟩ := hsl
    cases c with
    | none => 
      have : denE G X.N (n + 1) X.env.scope (.Subscript v (.Slice a b none p) pos) = mSl (denE G X.N n X.env.scope v) (mPart (a.map (denE G X.N n X.env.scope))) (mPart (b.map (denE G X.N n X.env.scope))) := by
        cases a <;> cases b <;> rfl
      rw [this]
      exact pe_msl (S.e X g v) (part_ok S g) (part_ok S g)
    | some st =>
      have : denE G X.N (n + 1) X.env.scope (.Subscript v (.Slice a b (some st) p) pos) = if isRev a b st = true then mRevQ (denE G X.N n X.env.scope v) else mNo := rfl
      rw [this]
      split
      · rename_i h
        unfold isRev at h
        split at h
        · rename_i i1 _ _ _
          have hi : i1 = 1 := of_decide_eq_true h
          subst hi
          exact pe_mrevq (S.e X g v)
        · cases h
      · exact pe_no fun _ _ => rfl
  · have hn : ∀ a b c p, i ≠ .Slice a b c p := fun a b c p e => hsl ⟨a, b, c, p, e⟩
    have : denE G X.N (n + 1) X.env.scope (.Subscript v i pos) = mBin gIx (denE G X.N n X.env.scope v) (denE G X.N n X.env.scope i) := by
      cases i <;> first | rfl | exact absurd rfl (hn _ _ _ _)
    rw [this]
    have hu := g.units
    exact pe_mixd (by omega) (S.e X g v) (S.e X g i) (plainIx hn)
theorem soundE1 (S : SoundE G k n) (g : GOk X G k) (e : Expr) : PE X e (tOf X.K (denE G X.N (n + 1) X.env.scope e)) := by
  cases e with
  | Name x pos => exact name_ok g
  | Constant c j pos => exact const_ok
  | Tuple es j pos =>
    simp only [denE]
    split
    · exact pe_mtup (argsS_ok (S.e X g))
    · rename_i hs
      exact pe_mtup (args_ok (by simpa using hs) (S.e X g))
  | List es pos => exact pe_mold (S.l X g _)
  | ListComp a b c d => exact pe_mold (S.l X g _)
  | BinOp a op b pos =>
    simp only [denE]
    split
    · rename_i gg hg
      obtain ⟨r, ho, hd⟩ := binD_ok (X := X) hg
      exact pe_mbin ho hd (S.e X g a) (S.e X g b)
    · exact pe_no fun _ _ => rfl
  | UnaryOp op a pos =>
    cases op with
    | USub => exact pe_mun un_neg gNeg_ok (S.e X g a)
    | Not => exact pe_mnot (S.e X g a)
    | _ => exact pe_no fun _ _ => rfl
  | BoolOp op vs pos =>
    cases op with
    | And => exact ands_ok (S.e X g)
    | Or => exact ors_ok (S.e X g)
  | IfExp c a b pos => exact pe_mif (S.t X g c) (S.e X g a) (S.e X g b)
  | Compare l ops cs pos =>
    obtain ⟨t, ⟨h, _⟩, i⟩ := cmp_ok S g (l := l) (ops := ops) (cs := cs) (pos := pos)
    exact pe_imp h i
  | Call f as ks pos => exact soundCall S g
  | Subscript v i pos => exact soundSub S g
  | Dict ks vs pos =>
    match ks, vs with
    | [], [] => exact pe_mnewD
    | [], _ :: _ => exact pe_no fun _ _ => rfl
    | _ :: _, _ => exact pe_no fun _ _ => rfl
  | _ => exact pe_no fun _ _ => rfl
end
theorem soundE (G : GE) (k : Nat) : ∀ n, SoundE G k n
  | 0 => ⟨fun X g e => pe_no fun _ _ => rfl, fun X g e => pt_no fun _ _ => rfl, fun X g e => pn_no, fun X g l ops cs pos => pt_no fun _ _ => rfl, fun X g tg e => pi_no⟩
  | n + 1 => ⟨fun X g e => soundE1 (soundE G k n) g e, fun X g e => soundT (soundE G k n) g, fun X g e => soundN (soundE G k n) g, fun X g => soundC (soundE G k n) g, fun X g tg e => soundI (soundE G k n) g⟩
end Ek

/-! Ek12: statements mean what they are; defs -/
namespace Ek
open PySem PySem.Spec PyProof.Rows L2
/-- a def's own: names that hold things that change; whether a new list is handed back as one that may change -/
structure Cf where
  mu : List Str
  retW : Bool
def isFresh : Expr → Bool
  | .List _ _ => true
  | .ListComp _ _ _ _ => true
  | _ => false
def swF (lk : Str → Option NameKind) (ts : List Expr) : Expr → Option Str := fun
    | .Name id pos => if lk id == some .local && pos.line == ((ts.head?.map (·.pos.line)).getD 0) then some id else none
    | _ => none
def swapNames (lk : Str → Option NameKind) (ts : List Expr) : List Str := ts.filterMap (swF lk ts)
def swapRes (lk : Str → Option NameKind) (ts vs : List Expr) : Option (Option (List Str)) :=
  if (!(ts.length == 2 || ts.length == 3) || vs.length != ts.length || false) = true then some none
  else if (vs.any fun | .Starred .. => true | _ => false) = true then some none
  else if ((swapNames lk ts).length != ts.length || (swapNames lk ts).eraseDups.length != (swapNames lk ts).length) = true then some none
  else if vs.all (foldedForSure 8) = true then some none
  else if vs.all (constantsAlone 8) = true then none
  else some (some (swapNames lk ts))
theorem bk_fn {env : Env} (h : env.scope.kind = .function) : env.blockKind = .function := by
  unfold Env.blockKind
  rw [h]
  rfl
theorem swapRes_ok {env : Env} (hk : env.scope.kind = .function) {ts vs : List Expr} {r : Option (List Str)} {a b : Nat} {p q : Pos} (h : swapRes env.kindOf ts vs = some r) : swappedStores [.Tuple ts a p] (.Tuple vs b q) env = pure r := by
  have hb := bk_fn hk
  unfold swapRes at h
  show (if (!(ts.length == 2 || ts.length == 3) || vs.length != ts.length || env.blockKind != .function) = true then pure none
    else if (vs.any fun | .Starred .. => true | _ => false) = true then pure none
    else if ((swapNames env.kindOf ts).length != ts.length || (swapNames env.kindOf ts).eraseDups.length != (swapNames env.kindOf ts).length) = true then pure none
    else if vs.all (foldedForSure 8) = true then pure none
    else if vs.all (constantsAlone 8) = true then (do unsupported "assign.tuple-of-constant-expressions:order-of-the-stores"; pure (some (swapNames env.kindOf ts)))
    else pure (some (swapNames env.kindOf ts)) : Sem (Option (List Str))) = pure r
  rw [hb]
  have e0 : (ScopeKind.function != ScopeKind.function) = false := rfl
  rw [e0]
  split at h
  · rename_i h1
    cases h
    rw [if_pos h1]
  · rename_i h1
    rw [if_neg h1]
    split at h
    · rename_i h2
      cases h
      rw [if_pos h2]
    · rename_i h2
      rw [if_neg h2]
      split at h
      · rename_i h3
        cases h
        rw [if_pos h3]
      · rename_i h3
        rw [if_neg h3]
        split at h
        · rename_i h4
          cases h
          rw [if_pos h4]
        · rename_i h4
          rw [if_neg h4]
          split at h
          · cases h
          · rename_i h5
            cases h
            rw [if_neg h5]
def swNm (sc : Scope) (t : Str) (pos vpos : Pos) (scope : Scope) : Bool := (sc.names.lookup t == some .local && pos.line == vpos.line) && !(scope.names.any fun (n, k) => n == t && (k == .local || k == .cell))
theorem swNm_ok {env : Env} (hk : env.scope.kind = .function) {a : Expr} {gs : List Comprehension} {scope : Scope} {vpos pos : Pos} {t : Str} {l : Nat} : swapsWith (.ListComp a gs scope vpos) (some (.Name t pos)) l env = pure (swNm env.scope t pos vpos scope) := by
  unfold swapsWith swNm
  simp only [bk_fn hk, Env.kindOf]
  rfl
theorem sw_no {e : Expr} (h : isComp e = false) (t : Option Expr) (l : Nat) (env : Env) : swapsWith e t l env = pure false := by
  cases e <;> first | rfl | cases h
theorem sws_no {e tg : Expr} (h : isComp e = false) (l : Nat) (env : Env) : swapsWithSole [tg] e l env = pure false := sw_no h (some tg) l env
theorem ite_some {c : Bool} {x : Str} (h : (if c = true then some x else none).isSome = true) : c = true := by
  cases c with
  | true => rfl
  | false => cases h
theorem names2 {lk : Str → Option NameKind} {x y : Str} {p q : Pos} (h : (swapNames lk [.Name x p, .Name y q]).length = 2) : lk x = some .local ∧ lk y = some .local ∧ swapNames lk [.Name x p, .Name y q] = [x, y] := by
  have h' := List.filterMap_length_eq_length.mp h
  have h1 := ite_some (h' (.Name x p) (by simp))
  have h2 := ite_some (h' (.Name y q) (by simp))
  have e1 : swF lk [.Name x p, .Name y q] (.Name x p) = some x := if_pos h1
  have e2 : swF lk [.Name x p, .Name y q] (.Name y q) = some y := if_pos h2
  refine ⟨eq_of_beq (Bool.and_eq_true_iff.mp h1).1, eq_of_beq (Bool.and_eq_true_iff.mp h2).1, ?_⟩
  unfold swapNames
  rw [List.filterMap_cons_some e1, List.filterMap_cons_some e2]
  rfl
theorem names3 {lk : Str → Option NameKind} {x y z : Str} {p q r : Pos} (h : (swapNames lk [.Name x p, .Name y q, .Name z r]).length = 3) : lk x = some .local ∧ lk y = some .local ∧ lk z = some .local ∧ swapNames lk [.Name x p, .Name y q, .Name z r] = [x, y, z] := by
  have h' := List.filterMap_length_eq_length.mp h
  have h1 := ite_some (h' (.Name x p) (by simp))
  have h2 := ite_some (h' (.Name y q) (by simp))
  have h3 := ite_some (h' (.Name z r) (by simp))
  have e1 : swF lk [.Name x p, .Name y q, .Name z r] (.Name x p) = some x := if_pos h1
  have e2 : swF lk [.Name x p, .Name y q, .Name z r] (.Name y q) = some y := if_pos h2
  have e3 : swF lk [.Name x p, .Name y q, .Name z r] (.Name z r) = some z := if_pos h3
  refine ⟨eq_of_beq (Bool.and_eq_true_iff.mp h1).1, eq_of_beq (Bool.and_eq_true_iff.mp h2).1, eq_of_beq (Bool.and_eq_true_iff.mp h3).1, ?_⟩
  unfold swapNames
  rw [List.filterMap_cons_some e1, List.filterMap_cons_some e2, List.filterMap_cons_some e3]
  rfl
theorem swapRes_some {lk : Str → Option NameKind} {ts vs : List Expr} {l : List Str} (h : swapRes lk ts vs = some (some l)) : (swapNames lk ts).length = ts.length ∧ l = swapNames lk ts := by
  unfold swapRes at h
  split at h
  · cases h
  split at h
  · cases h
  split at h
  · cases h
  rename_i hnn
  split at h
  · cases h
  split at h
  · cases h
  cases h
  simp only [Bool.or_eq_true, not_or, bne_iff_ne, ne_eq, Decidable.not_not] at hnn
  exact ⟨hnn.1, rfl⟩
theorem ss_no {e tg : Expr} (h : ∀ es k p, e ≠ .Tuple es k p) (env : Env) : swappedStores [tg] e env = pure none := by
  cases e <;> first | (cases tg <;> rfl) | exact absurd rfl (h _ _ _)
theorem ss_no2 {e tg : Expr} (h : ∀ es k p, tg ≠ .Tuple es k p) (h2 : ∀ es p, tg ≠ .List es p) (env : Env) : swappedStores [tg] e env = pure none := by
  cases tg <;> first | (cases e <;> rfl) | exact absurd rfl (h _ _ _) | exact absurd rfl (h2 _ _)
/-! ### several names at once -/
section
variable {X : Cx} {pos : Pos}
theorem tOld_of {K : PySem.W.Frag} {m : Sm (Bool × List PD)} : ∀ σ H Q, tOf K (mOld m) σ H Q → tOfN K m σ H Q := by
  intro σ H Q ⟨Z, φ, Δ, M, w, M', R, h, q⟩
  unfold mOld at h
  split at h
  · rename_i t xs M1 hx
    cases h
    refine ⟨Z, φ, Δ, M, t, xs, M', R, hx, fun p φ1 H1 t1 e1 m1 => ?_⟩
    obtain ⟨s, m2, d2⟩ := m1.unlast
    exact q _ φ1 H1 ⟨same_tr e1.fz s, e1.z, t1, fun x h => e1.nz x (List.mem_append_left _ h)⟩ m2 d2
  · cases h
theorem tNew_of {K : PySem.W.Frag} {m : Sm (Bool × List PD)} : ∀ σ H Q, tOf K (mNew m) σ H Q → tOfN K m σ H Q := by
  intro σ H Q ⟨Z, φ, Δ, M, w, M', R, h, q⟩
  unfold mNew at h
  split at h
  · rename_i t xs M1 hx
    cases h
    refine ⟨Z, φ, Δ, M, t, xs, M1, R, hx, fun p φ1 H1 _ e1 m1 => q _ (φ1 ++ [p]) H1 e1 m1 ⟨p, ?_, rfl⟩⟩
    have hl : φ1.length = M1.length := by have := m1.len; simp at this; exact this
    rw [← hl]
    simp
  · cases h
/-- the pair itself is made, then taken apart -/
theorem tPar_by {K : PySem.W.Frag} {i j : Nat} {m : Sm (List W)} : ∀ D σ H, tOfS K (sPar i j m) D σ H → tAsg (tTup (tOfA K m)) (gTup K 2 (gCons (gName i) (gCons (gName j) gNil))) D σ H := by
  intro D σ H ⟨Z, φ, Δ, M, f, Δ', M', R, h, q⟩
  unfold sPar at h
  split at h
  · rename_i u v M1 hm
    cases h
    refine ⟨Z, φ, Δ, M, _, _, R, hm, fun vs φ1 H1 e1 m1 r1 => ?_⟩
    obtain ⟨x, y, rfl, rx, ry⟩ := rws2 r1
    refine ⟨by show 2 ≤ sizeLine; decide, fun p hp => ?_⟩
    obtain ⟨e2, m2, f2⟩ := m1.new hp (.tup [x, y])
    refine ⟨p, [x, y], rfl, .inl (.inl upd_same), rfl, x, [y], rfl, y, [], rfl, rfl, ?_⟩
    exact q _ φ1 _ (e1.trans e2) (((R.step (e1.trans e2) m2).set i (rx.ext e2)).set j (ry.ext e2))
  · cases h
theorem tPar3_by {K : PySem.W.Frag} {i j k : Nat} {m : Sm (List W)} : ∀ D σ H, tOfS K (sPar3 i j k m) D σ H → tAsg (tTup (tOfA K m)) (gTup K 3 (gCons (gName i) (gCons (gName j) (gCons (gName k) gNil)))) D σ H := by
  intro D σ H ⟨Z, φ, Δ, M, f, Δ', M', R, h, q⟩
  unfold sPar3 at h
  split at h
  · rename_i u v w M1 hm
    cases h
    refine ⟨Z, φ, Δ, M, _, _, R, hm, fun vs φ1 H1 e1 m1 r1 => ?_⟩
    cases r1 with
    | cons rx r1 =>
      obtain ⟨y, z, rfl, ry, rz⟩ := rws2 r1
      refine ⟨by show 3 ≤ sizeLine; decide, fun p hp => ?_⟩
      obtain ⟨e2, m2, f2⟩ := m1.new hp (.tup [_, y, z])
      refine ⟨p, [_, y, z], rfl, .inl (.inl upd_same), rfl, _, [y, z], rfl, y, [z], rfl, z, [], rfl, rfl, ?_⟩
      exact q _ φ1 _ (e1.trans e2) ((((R.step (e1.trans e2) m2).set i (rx.ext e2)).set j (ry.ext e2)).set k (rz.ext e2))
  · cases h
end
/-! ### the meaning of statements -/
/-- the value for a name: a new list that may change, or plain -/
def denV (G : GE) (N : List Str) (C : Cf) (n : Nat) (sc : Scope) (x : Str) (e : Expr) : Sm W := if C.mu.contains x = true ∧ isFresh e = true then mNew (denN G N n sc e) else denE G N n sc e
mutual
noncomputable def denS (G : GE) (N : List Str) (C : Cf) (sc : Scope) : Nat → Stmt → Ss
  | 0, _ => sNo
  | n + 1, st => match st with
    | .Pass _ => sNext
    | .Break _ => sBreak
    | .Continue _ => sCont
    | .Return none _ => sRetN
    | .Return (some e) _ => if C.retW = true then (if isFresh e = true then sRetW (mNew (denN G N n sc e)) else sRetW (denE G N n sc e)) else sRet (denE G N n sc e)
    | .Expr e _ => if isComp e = true then sNo else sDrop (denE G N n sc e)
    | .If c a b _ => sIf (denT G N n sc c) (denSs G N C sc n a) (denSs G N C sc n b)
    | .While c b [] _ => sWhile (denT G N n sc c) (denSs G N C sc n b)
    | .For tg iter b [] _ => (match denG N sc (fun _ => true) n tg with
      | some (g, _) => if isSet iter = false then sFor (denI G N n sc iter) g (denSs G N C sc n b) else sNo
      | none => sNo)
    | .Assign [.Name x p] e _ => (match locOf N sc (fun _ => true) x with
      | some i => (match e with
        | .ListComp a gs scope vp => if swNm sc x p vp scope = true then (if sc.names.lookup x = some .local then sSet i (denV G N C n sc x e) else sNo) else sSet i (denV G N C n sc x e)
        | e => if isComp e = true then sNo else sSet i (denV G N C n sc x e))
      | none => sNo)
    | .Assign [.Subscript o i tp] e _ => if isComp e = true then sNo else (match i with
      | .Slice _ _ _ _ => sNo
      | i => sSub (denE G N n sc o) (denE G N n sc i) (denE G N n sc e))
    | .Assign [.Tuple [.Subscript o i tp, .Name x p] k tp2] e _ => (match e with
      | .Tuple _ _ _ => sNo
      | e => if isComp e = true then sNo else (match i with
        | .Slice _ _ _ _ => sNo
        | i => (match locOf N sc (fun _ => true) x with
          | some j => sSubNm (denE G N n sc o) (denE G N n sc i) j (denE G N n sc e)
          | none => sNo)))
    | .Assign [.Tuple [.Name x p, .Name y q] k tp] (.Tuple [a, b] k2 tp2) _ => (match locOf N sc (fun _ => true) x, locOf N sc (fun _ => true) y with
      | some i, some j => if i ≠ j ∧ isStar a = false ∧ isStar b = false ∧ (swapRes (fun x => sc.names.lookup x) [.Name x p, .Name y q] [a, b]).isSome = true then sPar i j (mArgs [denV G N C n sc x a, denV G N C n sc y b]) else sNo
      | _, _ => sNo)
    | .Assign [.Tuple [.Name x p, .Name y q, .Name z r] k tp] (.Tuple [a, b, c] k2 tp2) _ => (match locOf N sc (fun _ => true) x, locOf N sc (fun _ => true) y, locOf N sc (fun _ => true) z with
      | some i, some j, some l => if i ≠ j ∧ i ≠ l ∧ j ≠ l ∧ isStar a = false ∧ isStar b = false ∧ isStar c = false ∧ (swapRes (fun x => sc.names.lookup x) [.Name x p, .Name y q, .Name z r] [a, b, c]).isSome = true then sPar3 i j l (mArgs [denV G N C n sc x a, denV G N C n sc y b, denV G N C n sc z c]) else sNo
      | _, _, _ => sNo)
    | .Assign [.Tuple ts k tp] e _ => if isComp e = true then sNo else (match denG N sc (fun _ => true) n (.Tuple ts k tp) with
      | some (g, _) => (match e with
        | .Tuple vs _ _ => if swapRes (fun x => sc.names.lookup x) ts vs = some none then sAsg g (denE G N n sc e) else sNo
        | e => sAsg g (denE G N n sc e))
      | none => sNo)
    | _ => sNo
noncomputable def denSs (G : GE) (N : List Str) (C : Cf) (sc : Scope) : Nat → List Stmt → Ss
  | 0, _ => sNo
  | _ + 1, [] => sNext
  | n + 1, st :: r => sSeq (denS G N C sc n st) (denSs G N C sc n r)
end
section
variable {X : Cx} {G : GE} {k n : Nat} {C : Cf}
theorem loc_ok {N : List Str} {sc : Scope} {x : Str} {i : Nat} (h : locOf N sc (fun _ => true) x = some i) : N[i]? = some x ∧ (sc.names.lookup x = some .local ∨ sc.names.lookup x = some .cell) := by
  unfold locOf at h
  split at h
  · rename_i hh
    exact ⟨findIdx_at h, hh.2⟩
  · cases h
theorem denV_ok (g : GOk X G k) {x : Str} {e : Expr} : PE X e (tOf X.K (denV G X.N C n X.env.scope x e)) := by
  unfold denV
  split
  · exact pe_mnew ((soundE G k n).l X g e)
  · exact (soundE G k n).e X g e
theorem setLc_ok (g : GOk X G k) (hk : X.env.scope.kind = .function) {x : Str} {p vp pos : Pos} {a : Expr} {gs : List Comprehension} {scope : Scope} {i : Nat} (hi : X.N[i]? = some x) (hl : X.env.scope.names.lookup x = some .local)
    (hs : swNm X.env.scope x p vp scope = true) : PS X (.Assign [.Name x p] (.ListComp a gs scope vp) pos) (tOfS X.K (sSet i (denV G X.N C n X.env.scope x (.ListComp a gs scope vp)))) := by
  have hsw : swapsWith (.ListComp a gs scope vp) (some (.Name x p)) pos.line X.env = pure true := by rw [swNm_ok hk, hs]
  have no : ∀ {m : Sm W}, (∀ Δ M, m Δ M = none) → PS X (.Assign [.Name x p] (.ListComp a gs scope vp) pos) (tOfS X.K (sSet i m)) := fun {m} h => ⟨fun pins s σ H D I ⟨_, _, Δ, M, _, _, _, _, q, _⟩ => by
    unfold sSet at q
    rw [h] at q
    cases q⟩
  have key : ∀ {m : Sm W} {t : TE}, PS X (.Assign [.Name x p] (.ListComp a gs scope vp) pos) (tAsg t (gName i)) → (∀ σ H Q, tOf X.K m σ H Q → t σ H Q) → PS X (.Assign [.Name x p] (.ListComp a gs scope vp) pos) (tOfS X.K (sSet i m)) :=
    fun {m t} h hi => ps_imp h fun D σ H q => hi σ H _ (tSet_of D σ H q)
  -- the meaning is that of denN
  have main : ∀ n, (∃ t, PS X (.Assign [.Name x p] (.ListComp a gs scope vp) pos) (tAsg t (gName i)) ∧ ∀ σ H Q, tOfN X.K (denN G X.N n X.env.scope (.ListComp a gs scope vp)) σ H Q → t σ H Q) := by
    intro n
    have none : ∃ t, PS X (.Assign [.Name x p] (.ListComp a gs scope vp) pos) (tAsg t (gName i)) ∧ ∀ σ H Q, tOfN X.K mNo σ H Q → t σ H Q :=
      ⟨fun _ _ _ => False, ⟨fun _ _ _ _ _ _ h => h.elim⟩, fun σ H Q ⟨_, _, _, _, _, _, _, _, q, _⟩ => by cases q⟩
    cases n with
    | zero => exact none
    | succ n =>
      have S := soundE G k n
      unfold denN
      split
      · rename_i h
        cases h
      · rename_i elt tg iter ifs scope pos h
        cases h
        split
        · rename_i gt S1 hg
          split
          · rename_i hh
            obtain ⟨hb, hS, hit⟩ := hh
            have hS' : ∀ i ∈ S1, i ∈ (ownOf X.N scope).map (·.2) := fun i h => by
              have := List.all_eq_true.mp hS i h
              simpa using this
            refine ⟨_, ps_setLc (own := ownOf X.N scope) (tt := tOfT X.K (ifsD (denT G X.N n (rl scope X.env.scope)) ifs)) g.calm g.nd hi hl hsw (S.i X g tg iter) (blkOk_by hb) (fun s H C cl fp => ?_) (fun s H C cl fp => ?_) (fun s H C cl fp => ?_) (foldS hit X.env), tLc_of hS'⟩
            · refine denG_ok (X := X.blk s H scope (compEnvC scope cl C X.env) fp) g.nd g.calm (fun x hx => ?_) n tg gt S1 hg
              rw [decide_eq_true_eq] at hx
              rcases hx with hx | hx
              · exact .inr (lookup_relabel_local hx)
              · refine .inl ?_
                show (scope.names.lookup x == some .cell) = true
                rw [hx]; rfl
            · match ifs with
              | [] => exact ⟨fun pins s σ H Q I ⟨Z, φ, Δ, M, b, M', R, h, q⟩ => by cases h; exact pts_nil.run pins s σ H Q I (q φ H Ext.refl R.mem)⟩
              | [c] => exact pts_one (S.t (X.blk s H scope (compEnvC scope cl C X.env) fp) (g.blk _ _ _ _ _) c)
              | _ :: _ :: _ => exact ⟨fun pins s σ H Q I ⟨Z, φ, Δ, M, b, M', R, h, q⟩ => by cases h⟩
            · exact S.e (X.blk s H scope (compEnvC scope cl C X.env) fp) (g.blk _ _ _ _ _) _
          · exact none
        · exact none
      · rename_i elt tg iter ifs tg1 iter1 ifs1 scope pos h
        cases h
        split
        · rename_i gt S1 gt1 S2 hg hg1
          split
          · rename_i hh
            obtain ⟨hb, hS, hS2, hit, hit1⟩ := hh
            exact ⟨_, ps_setLc2 (own := ownOf X.N scope) g.calm g.nd hi hl hsw (S.i X g tg iter) (blkOk_by hb) (own_all hS2) (fun s H C cl fp => pg_own g hg) (fun s H C cl fp => pts_ifs S g)
              (fun s H C cl fp => S.i (X.blk s H scope (compEnvC scope cl C X.env) fp) (g.blk _ _ _ _ _) tg1 iter1) (fun s H C cl fp => pg_own g hg1) (fun s H C cl fp => pts_ifs S g) (fun s H C cl fp => S.e (X.blk s H scope (compEnvC scope cl C X.env) fp) (g.blk _ _ _ _ _) _) (foldS hit X.env) (fun env => foldS hit1 env), tLc2_of (own_all hS) (fun _ h => h)⟩
          · exact none
        · exact none
      · rename_i h
        cases h
      · exact none
  unfold denV
  split
  · obtain ⟨t, h1, h2⟩ := main n
    exact key h1 fun σ H Q q => h2 σ H Q (tNew_of σ H Q q)
  · cases n with
    | zero => exact no fun _ _ => rfl
    | succ n =>
      obtain ⟨t, h1, h2⟩ := main n
      exact key h1 fun σ H Q q => h2 σ H Q (tOld_of σ H Q q)
theorem subG {o i : Expr} {tp : Pos} (h : ∀ a b c p, i ≠ .Slice a b c p) {to ti : TE} (ho : PE X o to) (hi : PE X i ti) : PG X (.Subscript o i tp) (L2.gSub to ti rSetL) := by
  refine pg_sub ho hi set_list ?_ <;> (intros; cases i <;> first | rfl | exact absurd rfl (h _ _ _ _))
/-! ### statements -/
theorem passes (g : GOk X G k) : PassesOwn (model X.prog X.w) X.A X.env X.xe := by
  rw [g.xe]
  exact PassesOwn.never
theorem pa2 {a b : Expr} {x y : Sm W} (ha : PE X a (tOf X.K x)) (hb : PE X b (tOf X.K y)) (h1 : isStar a = false) (h2 : isStar b = false) : PA X [a, b] (tOfA X.K (mArgs [x, y])) :=
  pa_mcons ha (pa_mcons hb pa_mnil (each_star h2 _)) (each_star h1 _)
theorem pa3 {a b c : Expr} {x y z : Sm W} (ha : PE X a (tOf X.K x)) (hb : PE X b (tOf X.K y)) (hc : PE X c (tOf X.K z)) (h1 : isStar a = false) (h2 : isStar b = false) (h3 : isStar c = false) : PA X [a, b, c] (tOfA X.K (mArgs [x, y, z])) :=
  pa_mcons ha (pa_mcons hb (pa_mcons hc pa_mnil (each_star h3 _)) (each_star h2 _)) (each_star h1 _)
theorem ps_mtarget {ts : List Expr} {e : Expr} {k1 : Nat} {tp pos : Pos} {gt : Tg} {S1 : List Nat} {m : Sm W} (hg : PG X (.Tuple ts k1 tp) (tOfG X.K gt S1)) (he : PE X e (tOf X.K m)) (hs : swapsWithSole [.Tuple ts k1 tp] e pos.line X.env = pure false) (hw : swappedStores [.Tuple ts k1 tp] e X.env = pure none) :
    PS X (.Assign [.Tuple ts k1 tp] e pos) (tOfS X.K (sAsg gt m)) := ps_imp (ps_asg he hg hs hw rfl) tAsg_of
theorem gnm (g : GOk X G k) (hfn : ∀ x, X.fn x = true) {x : Str} {i : Nat} {p : Pos} (h : locOf X.N X.env.scope (fun _ => true) x = some i) : PG X (.Name x p) (gName i) := pg_name g.nd (loc_ok h).1 (loc_ok h).2 (.inl (hfn x))
mutual
theorem soundS (g : GOk X G k) (hk : X.env.scope.kind = .function) (hfn : ∀ x, X.fn x = true) : ∀ (n : Nat) (st : Stmt), PS X st (tOfS X.K (denS G X.N C X.env.scope n st))
  | 0, st => ps_no
  | n + 1, st => by
    have S := soundE G k n
    have okT : OkT X (fun _ => true) := fun x _ => .inl (hfn x)
    unfold denS
    split
    · exact ps_mpass
    · exact ps_mbreak
    · exact ps_mcont
    · exact ps_mretN
    · split
      · split
        · exact ps_mretW (pe_mnew (S.l X g _))
        · exact ps_mretW (S.e X g _)
      · exact ps_mret (S.e X g _)
    · split
      · exact ps_no
      · rename_i h
        exact ps_mdrop (S.e X g _) (sw_no (by simpa using h) _ _ _)
    · exact ps_mif (S.t X g _) (soundSs g hk hfn n _) (soundSs g hk hfn n _)
    · exact ps_imp (ps_while (passes g) (S.t X g _) (soundSs g hk hfn n _)) tWhile_of
    · rename_i tg iter b pos
      split
      · rename_i gt S1 hg
        split
        · rename_i hs
          exact ps_imp (ps_for (passes g) g.calm (S.i X g tg iter) (denG_ok g.nd g.calm okT n tg gt S1 hg) (soundSs g hk hfn n b) (foldS hs X.env)) tFor_of
        · exact ps_no
      · exact ps_no
    · rename_i x p e pos
      split
      · rename_i i hi
        obtain ⟨h1, h2⟩ := loc_ok hi
        split
        · rename_i a gs scope vp
          split
          · rename_i hs
            split
            · rename_i hl
              exact setLc_ok g hk h1 hl hs
            · exact ps_no
          · rename_i hs
            have hs' : swNm X.env.scope x p vp scope = false := by simpa using hs
            exact ps_imp (ps_set g.nd h1 h2 (denV_ok g) (by rw [swNm_ok hk, hs']) (.inl (hfn x))) tSet_of
        · split
          · exact ps_no
          · rename_i hc
            exact ps_imp (ps_set g.nd h1 h2 (denV_ok g) (sw_no (by simpa using hc) _ _ _) (.inl (hfn x))) tSet_of
      · exact ps_no
    · rename_i o i tp e pos
      split
      · exact ps_no
      · rename_i hc
        split
        · exact ps_no
        · rename_i i hn
          have hu := g.units
          exact ps_msub (ps_putD (by omega) (S.e X g o) (S.e X g _) (S.e X g e) (sw_no (by simpa using hc) _ _ _)) (ps_msub0 (S.e X g o) (S.e X g _) (S.e X g e) (fun h1 h2 => subG (fun a b c p z => hn a b c p z) h1 h2) (sws_no (by simpa using hc) _ _) (ss_no2 (fun _ _ _ z => by cases z) (fun _ _ z => by cases z) _))
    · rename_i o i tp x p k1 tp2 e pos
      split
      · exact ps_no
      · rename_i e hne
        split
        · exact ps_no
        · rename_i hc
          split
          · exact ps_no
          · rename_i i hn
            split
            · rename_i j hj
              exact ps_msubnm (S.e X g o) (S.e X g _) (S.e X g _) (fun h1 h2 => pg_tup g.calm (pgs_cons (subG (fun a b c p z => hn a b c p z) h1 h2) (pgs_cons (gnm g hfn hj) pgs_nil)) rfl rfl) (sws_no (by simpa using hc) _ _) (ss_no (fun es k p z => hne es k p z) _) rfl
            · exact ps_no
    · rename_i x p y q k1 tp a b k2 tp2 pos
      split
      · rename_i i j hi hj
        split
        · rename_i hh
          obtain ⟨h1, h2, h3, h4⟩ := hh
          obtain ⟨r, hr⟩ := Option.isSome_iff_exists.mp h4
          have hr' : swapRes X.env.kindOf [.Name x p, .Name y q] [a, b] = some r := hr
          have hP := pa2 (denV_ok (C := C) (n := n) g (x := x) (e := a)) (denV_ok (C := C) (n := n) g (x := y) (e := b)) h2 h3
          have hw := swapRes_ok (a := k1) (b := k2) (p := tp) (q := tp2) hk hr'
          have hsw : swapsWithSole [.Tuple [.Name x p, .Name y q] k1 tp] (.Tuple [a, b] k2 tp2) pos.line X.env = pure false := rfl
          cases r with
          | none => exact ps_imp (ps_asg (pe_tup hP) (pg_tup g.calm (pgs_cons (gnm g hfn hi) (pgs_cons (gnm g hfn hj) pgs_nil)) rfl rfl) hsw hw rfl) tPar_by
          | some l =>
            obtain ⟨hlen, hl2⟩ := swapRes_some hr'
            subst hl2
            have hl := names2 hlen
            rw [hl.2.2] at hw
            exact ps_imp (ps_par g.calm g.nd (loc_ok hi).1 (loc_ok hj).1 h1 hl.1 hl.2.1 hP hw hsw) tPar_of
        · exact ps_no
      · exact ps_no
    · rename_i x p y q z r k1 tp a b c k2 tp2 pos
      split
      · rename_i i j l hi hj hl
        split
        · rename_i hh
          obtain ⟨n1, n2, n3, h2, h3, h5, h4⟩ := hh
          obtain ⟨rr, hr⟩ := Option.isSome_iff_exists.mp h4
          have hr' : swapRes X.env.kindOf [.Name x p, .Name y q, .Name z r] [a, b, c] = some rr := hr
          have hP := pa3 (denV_ok (C := C) (n := n) g (x := x) (e := a)) (denV_ok (C := C) (n := n) g (x := y) (e := b)) (denV_ok (C := C) (n := n) g (x := z) (e := c)) h2 h3 h5
          have hw := swapRes_ok (a := k1) (b := k2) (p := tp) (q := tp2) hk hr'
          have hsw : swapsWithSole [.Tuple [.Name x p, .Name y q, .Name z r] k1 tp] (.Tuple [a, b, c] k2 tp2) pos.line X.env = pure false := rfl
          cases rr with
          | none => exact ps_imp (ps_asg (pe_tup hP) (pg_tup g.calm (pgs_cons (gnm g hfn hi) (pgs_cons (gnm g hfn hj) (pgs_cons (gnm g hfn hl) pgs_nil))) rfl rfl) hsw hw rfl) tPar3_by
          | some l =>
            obtain ⟨hlen, hl2⟩ := swapRes_some hr'
            subst hl2
            have hq := names3 hlen
            rw [hq.2.2.2] at hw
            exact ps_imp (ps_par3 g.calm g.nd (loc_ok hi).1 (loc_ok hj).1 (loc_ok hl).1 n1 n2 n3 hq.1 hq.2.1 hq.2.2.1 hP hw hsw) tPar3_of
        · exact ps_no
      · exact ps_no
    · rename_i ts k1 tp e pos hno1 hno2 hno3
      split
      · exact ps_no
      · rename_i hc
        split
        · rename_i gt S1 hg
          split
          · rename_i vs k2 tp2
            split
            · rename_i hr
              exact ps_mtarget (denG_ok g.nd g.calm okT n _ gt S1 hg) (S.e X g _) (sws_no rfl _ _) (swapRes_ok hk hr)
            · exact ps_no
          · rename_i e hne
            exact ps_mtarget (denG_ok g.nd g.calm okT n _ gt S1 hg) (S.e X g _) (sws_no (by simpa using hc) _ _) (ss_no (fun es k p z => hne es k p z) _)
        · exact ps_no
    · exact ps_no
theorem soundSs (g : GOk X G k) (hk : X.env.scope.kind = .function) (hfn : ∀ x, X.fn x = true) : ∀ (n : Nat) (sts : List Stmt), PSs X sts (tOfS X.K (denSs G X.N C X.env.scope n sts))
  | 0, sts => ⟨fun pins s σ H D I ⟨_, _, _, _, _, _, _, _, h, _⟩ => by cases h⟩
  | n + 1, [] => pss_mnil
  | n + 1, st :: r => pss_mcons (soundS g hk hfn n st) (soundSs g hk hfn n r)
end
end
end Ek

/-! Ek13: defs, the whole text, the law -/
namespace Ek
open PySem PySem.Spec PyProof.Rows L2
structure Glob (P : Program) (w : World) (K : PySem.W.Frag) (mg : Str → Option Value) (base : Heap) (G : GE) (k : Nat) : Prop where
  fn : ∀ x fe, G.fn.lookup x = some fe → ∃ a fd, mg x = some (.ref a) ∧ FnG P w K mg base k a fd fe.ps (spOf K fe.ps.length fe.f) ∧ PySem.W.keepIn K (.ref a) = true ∧ Binds K fd fe.ps [] ∧ ∀ l pm, fe.kw.lookup l = some pm → KwOk K fd fe.ps l pm
  cst : ∀ x t d, G.cst.lookup x = some (t, d) → ∃ u v, mg x = some u ∧ RelV v u ∧ ∀ H, Dq (kk t K) H v d
  bl : ∀ x, G.bl.contains x = true → mg x = none
  fv : ∀ x, G.fv.contains x = true → ∃ a, PySem.W.nsIn K mainGlobals x = some (some (.ref a)) ∧ mg x = some (.ref a)
/-- what a def's body makes of its arguments -/
def semF (n : Nat) (b : Ss) : Fd := fun ws M => match b (ws.map some ++ List.replicate (n - ws.length) none) M with
  | some (.rt w, _, M') => some (w, M')
  | some (.nx, _, M') => some (.d true .none, M')
  | _ => none
/-- arguments that are lists of the caller's come to stand still, where a def does not change them -/
def fzP : List Bool → List W → MS → Option (List W × MS)
  | _, [], M => some ([], M)
  | [], w :: ws, M => some (w :: ws, M)
  | b :: bs, w :: ws, M => match b, w with
    | true, .loc k => (match fz1 (.loc k) M with
      | some (t, x, M1) => (match fzP bs ws M1 with
        | some (us, M2) => some (.d t x :: us, M2)
        | none => none)
      | none => none)
    | _, w => (match fzP bs ws M with
      | some (us, M2) => some (w :: us, M2)
      | none => none)
def semFz (fz : List Bool) (n : Nat) (b : Ss) : Fd := fun ws M => match fzP fz ws M with
  | some (us, M1) => semF n b us M1
  | none => none
theorem fzP_len : ∀ {fz : List Bool} {ws us : List W} {M M' : MS}, fzP fz ws M = some (us, M') → us.length = ws.length
  | fz, [], _, _, _, h => by cases fz <;> (cases h; rfl)
  | [], w :: ws, _, _, _, h => by cases h; rfl
  | b :: bs, w :: ws, us, M, M', h => by
    unfold fzP at h
    split at h
    · split at h
      · split at h
        · rename_i h2; cases h; simp [fzP_len h2]
        · cases h
      · cases h
    · split at h
      · rename_i h2; cases h; simp [fzP_len h2]
      · cases h
theorem fzP_ok {K : PySem.W.Frag} {Z : Addr → Prop} {H : Hp} {φ : List Addr} : ∀ {fz : List Bool} {vs : List V} {ws us : List W} {M M' : MS}, Mem K Z H φ M → RWs K (Fz Z φ M H) φ vs ws → fzP fz ws M = some (us, M') → Ext Z φ M H φ M' H ∧ Mem K Z H φ M' ∧ RWs K (Fz Z φ M' H) φ vs us
  | fz, _, [], us, M, M', m, r, h => by cases fz <;> (cases h; exact ⟨Ext.refl, m, r⟩)
  | [], _, w :: ws, us, M, M', m, r, h => by cases h; exact ⟨Ext.refl, m, r⟩
  | b :: bs, _, w :: ws, us, M, M', m, .cons r q, h => by
    unfold fzP at h
    split at h
    · split at h
      · rename_i t x M1 hx
        split at h
        · rename_i us' M2 h2
          cases h
          obtain ⟨e1, m1, d1⟩ := fz1_ok m r hx
          obtain ⟨e2, m2, d2⟩ := fzP_ok m1 (q.ext e1) h2
          exact ⟨e1.trans e2, m2, .cons (dp_mono e2.fz _ d1) d2⟩
        · cases h
      · cases h
    · split at h
      · rename_i us' M2 h2
        cases h
        obtain ⟨e2, m2, d2⟩ := fzP_ok m q h2
        exact ⟨e2, m2, .cons (r.ext e2) d2⟩
      · cases h
section
variable {P : Program} {w : World} {K : PySem.W.Frag} {mg : Str → Option Value} {base : Heap} {G : GE} {k : Nat}
theorem Glob.mono {j : Nat} (g : Glob P w K mg base G k) (h : k ≤ j) : Glob P w K mg base G j :=
  ⟨fun x fe hx => let ⟨a, fd, h1, h2, h3⟩ := g.fn x fe hx; ⟨a, fd, h1, h2.more h, h3⟩, g.cst, g.bl, g.fv⟩
theorem rep_start {Z : Addr → Prop} {H : Hp} {φ : List Addr} {M : MS} {vs : List V} {ws : List W} {N : List Str} (m : Mem K Z H φ M) (r : RWs K (Fz Z φ M H) φ vs ws) : Rep K Z (L2.start N vs) H φ (ws.map some ++ List.replicate (N.length - ws.length) none) M := by
  have hl := r.length
  refine ⟨m, by unfold L2.start; simp [hl], fun i u h => ?_⟩
  by_cases hi : i < ws.length
  · rw [List.getElem?_append_left (by simpa using hi), List.getElem?_map] at h
    rcases rws_get i r with ⟨_, h2⟩ | ⟨v, u', h1, h2, h3⟩
    · rw [h2] at h; cases h
    · rw [h2] at h
      cases h
      refine ⟨v, ?_, h3⟩
      unfold L2.start
      rw [List.getElem?_append_left (by rw [List.length_map, hl]; exact hi), List.getElem?_map, h1]
      rfl
  · rw [List.getElem?_append_right (by simpa using Nat.le_of_not_lt hi)] at h
    rw [List.getElem?_replicate] at h
    split at h <;> cases h
/-- THE RULE: a def of the text is what its body means -/
theorem fn_ok {x qual : Str} {st : Stmt} {f : Addr} {fd : FuncData} {N ps : List Str} (C : Cf) (fz : List Bool) (n : Nat) (F : Fun K x qual st f fd) (S : FnScope N ps (defScope st)) (g : Glob P w K mg base G k) :
    FnG P w K mg base (k + 1) f fd ps (spOf K ps.length (semFz fz N.length (denSs G N C (defScope st) n (defBody st)))) := by
  refine defG F S (fun h => spOf_len h) (fun cdv A outer s H vs Q E hr hq h => ?_)
  obtain ⟨Z, φ, M0, ws0, w1, M', m0, r0, hl0, hf0, q0⟩ := h
  unfold semFz at hf0
  split at hf0
  rotate_left
  · cases hf0
  rename_i ws M hfz
  obtain ⟨e0, m, r⟩ := fzP_ok m0 r0 hfz
  have hl : ws.length = ps.length := (fzP_len hfz).trans hl0
  have hf := hf0
  have q := q0.step e0
  have gX : GOk (cxOf CX0 P w K mg base N qual (defScope st) f cdv A outer s H E).nox G k := ⟨S.nd, rfl, rfl, hr, hq, g.fn, g.cst, g.bl, g.fv⟩
  refine ⟨_, soundSs (C := C) gX S.kind (fun _ => rfl) n (defBody st), ?_⟩
  unfold semF at hf
  split at hf
  · rename_i w2 Δ2 M2 hb
    cases hf
    exact ⟨Z, φ, _, M, _, Δ2, _, rep_start m r, hb, q⟩
  · rename_i Δ2 M2 hb
    cases hf
    exact ⟨Z, φ, _, M, _, Δ2, _, rep_start m r, hb, fun σ' φ' H' e R => q _ φ' H' e R.mem .non⟩
  · cases hf
/-- a def of the text behind the top -/
def DefOk (K : PySem.W.Frag) (mg : Str → Option Value) (y x : Str) (st : Stmt) : Prop := ∃ f fd, mg y = some (.ref f) ∧ Fun K x x st f fd
theorem def_mk {h : Heap} {y x : Str} {st : Stmt} {f : Addr} {oc : Value} {od an : Option Addr} {osl : Array (Option Value)} {kV doc pm cdv ct : Value} (X : K.In h) (G : h.Ns mainGlobals mg) (a : PySem.W.nsIn K mainGlobals y = some (some (.ref f)))
    (l : K.lookup f = some ⟨oc, od, .func (PySem.W.fnOf x x (defArgs st) (defBody st) (defScope st) .none kV doc pm an cdv ct), osl⟩) (c : PySem.W.codeIn K cdv x = true) (kp : PySem.W.keepIn K (.ref f) = true) : DefOk K mg y x st :=
  ⟨f, _, PySem.W.mg_of X G a, fun_mk l c kp⟩
/-- what binds of a def's parameters, told without its objects -/
def BindD (x : Str) (st : Stmt) (ps : List Str) : Prop := ∀ (kV doc pm : Value) (an : Option Addr) (cdv ct : Value) (us : List Value), us.length = ps.length → bindArgs (PySem.W.fnOf x x (defArgs st) (defBody st) (defScope st) .none kV doc pm an cdv ct) ⟨us, []⟩ = pure (ps.zip us)
def BindK (x : Str) (st : Stmt) (ps ks : List Str) (pm : List Nat) : Prop := ps ≠ [] ∧ ∀ (kV doc pm' : Value) (an : Option Addr) (cdv ct : Value) (us ws : List Value), us.length = ps.length - ks.length → ws.length = ks.length → bindArgs (PySem.W.fnOf x x (defArgs st) (defBody st) (defScope st) .none kV doc pm' an cdv ct) ⟨us, ks.zip ws⟩ = pure (ps.zip (us ++ pick pm ws))
theorem Glob.def {y x : Str} {st : Stmt} {N ps : List Str} (g : Glob P w K mg base G k) (C : Cf) (fz : List Bool) (n : Nat) (kw : List (List Str × List Nat)) (d : DefOk K mg y x st) (S : FnScope N ps (defScope st)) (hb : BindD x st ps)
    (hk : ∀ l pm, kw.lookup l = some pm → BindK x st ps l pm) {ff : Fd} (hff : ff = semFz fz N.length (denSs G N C (defScope st) n (defBody st))) : Glob P w K mg base { G with fn := (y, ⟨ps, ff, kw⟩) :: G.fn } (k + 1) := by
  obtain ⟨f, fd, hm, F⟩ := d
  obtain ⟨oc, od, kV, doc, pm, an, cdv, ct, osl, rfl, lk, hcd⟩ := id F.ex
  refine ⟨fun z fe hz => ?_, g.cst, g.bl, g.fv⟩
  by_cases e : (z == y) = true
  · have hy' : some (FE.mk ps ff kw) = some fe := by
      rw [← hz]
      show _ = List.lookup z ((y, _) :: G.fn)
      rw [List.lookup_cons, e]
    cases hy'
    have e' : z = y := eq_of_beq e
    subst e'
    subst hff
    exact ⟨f, _, hm, fn_ok C fz n F S g, F.kp, F.binds hb, fun l pm h => ⟨(hk l pm h).1, fun s us ws h1 h2 => .of_eq ((hk l pm h).2 _ _ _ _ _ _ us ws h1 h2)⟩⟩
  · have hy' : G.fn.lookup z = some fe := by
      rw [← hz]
      show _ = List.lookup z ((y, _) :: G.fn)
      rw [List.lookup_cons, show (z == y) = false by simpa using e]
    obtain ⟨a, fd', h1, h2, h3⟩ := g.fn z fe hy'
    exact ⟨a, fd', h1, h2.more (Nat.le_succ k), h3⟩
theorem Glob.law {y x p : Str} {st : Stmt} {N : List Str} (g : Glob P w K mg base G k) (C : Cf) (fz : List Bool) (n : Nat) {f : Addr} {fd : FuncData} (F : Fun K x x st f fd) (S : FnScope N [p] (defScope st)) {ff : Fd} (hff : ff = semFz fz N.length (denSs G N C (defScope st) n (defBody st))) : FnG P w K mg base (k + 1) f fd [p] (spOf K 1 ff) := by
  subst hff
  exact fn_ok C fz n F S g
theorem kwNone {x : Str} {st : Stmt} {ps : List Str} : ∀ l pm, ([] : List (List Str × List Nat)).lookup l = some pm → BindK x st ps l pm := fun l pm h => by cases h
theorem kwOne {x : Str} {st : Stmt} {ps ks : List Str} {p : List Nat} (h : BindK x st ps ks p) {r : List (List Str × List Nat)} (hr : ∀ l pm, r.lookup l = some pm → BindK x st ps l pm) : ∀ l pm, ((ks, p) :: r).lookup l = some pm → BindK x st ps l pm := fun l pm e => by
  rw [List.lookup_cons] at e
  split at e
  · rename_i hb
    cases e
    have : l = ks := eq_of_beq hb
    subst this
    exact h
  · exact hr l pm e
/-- the law's promise at the script -/
theorem law_sp {H : Hp} {a : Addr} {ns : List Int} {f : Fd} (hS : SqL K H a (ns.map V.int)) {t : Bool} {M' : MS} (h : f [.s (ns.map PyData.int)] [] = some (.d t (.bool true), M')) : spOf K 1 f [.ref a] H (fun v _ => v = .bl true) E0 := by
  have hf : Fz (fun _ => False) [] [] H = H := by
    funext b
    exact fz_mk (fun z => z) fun ⟨i, o, h, _⟩ => by simp at h
  have m : Mem K (fun _ => False) H [] [] := ⟨rfl, List.nodup_nil, fun _ z => z.elim, fun _ z => z.elim, fun i a o h _ => by simp at h⟩
  refine ⟨fun _ => False, [], [], [.s (ns.map PyData.int)], _, M', m, .cons ⟨a, _, rfl, by rw [hf]; exact hS, ints_dq ns⟩ .nil, rfl, h, fun v φ' H' e m' r => ?_⟩
  cases r
  rfl
end
theorem fv_mk {K : PySem.W.Frag} {h : Heap} {mg : Str → Option Value} {x : Str} {a : Addr} (X : K.In h) (G : h.Ns mainGlobals mg) (e : PySem.W.nsIn K mainGlobals x = some (some (.ref a))) : ∃ a, PySem.W.nsIn K mainGlobals x = some (some (.ref a)) ∧ mg x = some (.ref a) := ⟨a, e, PySem.W.mg_of X G e⟩
/-- a tuple of ints of the written part -/
theorem cst_ii {K : PySem.W.Frag} {a : Addr} {i j : Int} {t u : Tok} {dd : Option Addr} {n : Nat} {sl : Array (Option Value)} (h : K.lookup a = some ⟨.type "tuple", dd, .seq #[.int i t, .int j u] n, sl⟩) : ∀ H, Dq (kk false K) H (.ref a) (.tuple [.int i, .int j]) :=
  fun H => .tup (xs := [.int i, .int j]) (.inr ⟨_, _, n, h, rfl, rfl, (show 2 ≤ sizeLine by decide), .cons ⟨t, rfl⟩ (.cons ⟨u, rfl⟩ .nil)⟩) (.cons (.int _) (dpa_one (.int _)))
theorem cst_int {K : PySem.W.Frag} {i : Int} : ∀ H, Dq (kk true K) H (.int i) (.int i) := fun _ => .int _
theorem cstT {K : PySem.W.Frag} {h : Heap} {mg : Str → Option Value} {x : Str} {a : Addr} {i j : Int} {t u : Tok} {dd : Option Addr} {n : Nat} {sl : Array (Option Value)} (X : K.In h) (G : h.Ns mainGlobals mg) (e : PySem.W.nsIn K mainGlobals x = some (some (.ref a)))
    (l : K.lookup a = some ⟨.type "tuple", dd, .seq #[.int i t, .int j u] n, sl⟩) : ∃ u v, mg x = some u ∧ RelV v u ∧ ∀ H, Dq (kk false K) H v (.tuple [.int i, .int j]) := ⟨.ref a, .ref a, PySem.W.mg_of X G e, rfl, cst_ii l⟩
theorem cstI {K : PySem.W.Frag} {h : Heap} {mg : Str → Option Value} {x : Str} {i : Int} {t : Tok} (X : K.In h) (G : h.Ns mainGlobals mg) (e : PySem.W.nsIn K mainGlobals x = some (some (.int i t))) : ∃ u v, mg x = some u ∧ RelV v u ∧ ∀ H, Dq (kk true K) H v (.int i) :=
  ⟨.int i t, .int i, PySem.W.mg_of X G e, ⟨t, rfl⟩, cst_int⟩
end Ek

/-! EkR: fractions -/
namespace Ek
open PySem PySem.Spec PyProof.Rows L2
/-- a fraction as data -/
def fr (q : Rat) : PD := .tuple [.int q.num, .int q.den]
/-- top and bottom below 2 ^ b -/
def Sz (b : Nat) (q : Rat) : Prop := q.num.natAbs < 2 ^ b ∧ q.den < 2 ^ b
theorem Sz.mono {a b : Nat} {q : Rat} (h : Sz a q) (l : a ≤ b) : Sz b q :=
  ⟨Nat.lt_of_lt_of_le h.1 (Nat.pow_le_pow_right (by decide) l), Nat.lt_of_lt_of_le h.2 (Nat.pow_le_pow_right (by decide) l)⟩
theorem lt2_mul {x y a b : Nat} (h : x < 2 ^ a) (k : y < 2 ^ b) : x * y < 2 ^ (a + b) := by
  rw [Nat.pow_add]
  exact Nat.mul_lt_mul'' h k
theorem log_lt {x a : Nat} (h : x < 2 ^ a) : x.log2 ≤ a := by
  by_cases h0 : x = 0
  · subst h0; simp
  · exact Nat.le_of_lt ((Nat.log2_lt h0).mpr h)
theorem mulE {i j : Int} {a b : Nat} (h : i.natAbs < 2 ^ a) (k : j.natAbs < 2 ^ b) (l : a + b < 1000000) : CMulE i j := .inr (by
  unfold CMulW
  have := log_lt h
  have := log_lt k
  omega)
theorem divE {i j : Int} {b : Nat} (h0 : 0 < j) (k : j.natAbs < 2 ^ b) (l : b < 9000) : CDivW i j := ⟨h0, by have := log_lt k; omega⟩
theorem norm_num (a : Int) (b : Nat) (h : b ≠ 0) : (Rat.normalize a b h).num = a / ((a.natAbs.gcd b : Nat) : Int) := by rw [Rat.normalize_eq]
theorem norm_den (a : Int) (b : Nat) (h : b ≠ 0) : (Rat.normalize a b h).den = b / a.natAbs.gcd b := by rw [Rat.normalize_eq]
theorem gcd_pos {a b : Nat} (h : b ≠ 0) : 0 < a.gcd b := Nat.gcd_pos_of_pos_right _ (Nat.pos_of_ne_zero h)
theorem norm_sz {a : Int} {b : Nat} (h : b ≠ 0) {n : Nat} (ha : a.natAbs < 2 ^ n) (hb : b < 2 ^ n) : Sz n (Rat.normalize a b h) := by
  constructor
  · rw [norm_num]
    exact Nat.lt_of_le_of_lt (Int.natAbs_ediv_le_natAbs _ _) ha
  · rw [norm_den]
    exact Nat.lt_of_le_of_lt (Nat.div_le_self _ _) hb
theorem add_sz {p q : Rat} {a b : Nat} (h : Sz a p) (k : Sz b q) : Sz (a + b + 1) (p + q) := by
  rw [Rat.add_def]
  refine norm_sz _ ?_ ?_
  · refine Nat.lt_of_le_of_lt (Int.natAbs_add_le _ _) ?_
    rw [Int.natAbs_mul, Int.natAbs_mul, Nat.pow_succ]
    have h1 := lt2_mul h.1 k.2
    have h2 := lt2_mul k.1 h.2
    rw [Nat.add_comm b a] at h2
    simp only [Int.natAbs_natCast]
    omega
  · refine Nat.lt_of_lt_of_le (lt2_mul h.2 k.2) (Nat.pow_le_pow_right (by decide) (Nat.le_succ _))
theorem neg_sz {q : Rat} {b : Nat} (k : Sz b q) : Sz b (-q) := ⟨by rw [Rat.neg_num, Int.natAbs_neg]; exact k.1, by rw [Rat.neg_den]; exact k.2⟩
theorem sub_sz {p q : Rat} {a b : Nat} (h : Sz a p) (k : Sz b q) : Sz (a + b + 1) (p - q) := by
  rw [Rat.sub_eq_add_neg]
  exact add_sz h (neg_sz k)
theorem mul_sz {p q : Rat} {a b : Nat} (h : Sz a p) (k : Sz b q) : Sz (a + b) (p * q) := by
  rw [Rat.mul_def]
  refine norm_sz _ ?_ (lt2_mul h.2 k.2)
  rw [Int.natAbs_mul]
  exact lt2_mul h.1 k.1
end Ek

/-! EkV: working meanings out, step by step -/
namespace Ek
open PySem PySem.Spec PyProof.Rows L2
/-- what comes behind: no argument that simp would look into -/
class Kt (α β : Type) where
  k : α → Option β
class Th (β : Type) where
  k : Unit → Option β
/-- first this, then that; what comes behind is not looked at before -/
def ob {α β : Type} (o : Option α) [f : Kt α β] : Option β := match o with
  | some x => f.k x
  | none => none
theorem ob_some {α β : Type} (x : α) (f : α → Option β) : @ob _ _ (some x) ⟨f⟩ = f x := eq_of_heq HEq.rfl
theorem ob_none {α β : Type} (f : α → Option β) : @ob _ _ none ⟨f⟩ = none := eq_of_heq HEq.rfl
def oif {β : Type} (c : Bool) [a : Th β] [b : Th β] : Option β := match c with
  | true => a.k ()
  | false => b.k ()
theorem oif_true {β : Type} (a b : Unit → Option β) : @oif _ true ⟨a⟩ ⟨b⟩ = a () := eq_of_heq HEq.rfl
theorem oif_false {β : Type} (a b : Unit → Option β) : @oif _ false ⟨a⟩ ⟨b⟩ = b () := eq_of_heq HEq.rfl
section
variable {Δ : Sl} {M : MS} {a b c d e : Sm W} {s t : Ss} {g : W → W → MS → Option (W × MS)} {u : W → MS → Option (W × MS)} {f : Fd} {n i j k : Nat} {x : PD} {tt : Bool} {p q : Sm Bool} {it : Sm (Bool × List PD)} {tg : Tg}
theorem ev_var : mVar i Δ M = @ob _ _ Δ[i]? ⟨fun o => @ob _ _ o ⟨fun w => some (w, M)⟩⟩ := by
  unfold mVar ob
  cases Δ[i]? with
  | none => rfl
  | some o => cases o <;> rfl
theorem ev_D : mD tt x Δ M = some (.d tt x, M) := eq_of_heq HEq.rfl
theorem ev_bin : mBin g a b Δ M = @ob _ _ (a Δ M) ⟨fun r => @ob _ _ (b Δ r.2) ⟨fun q => g r.1 q.1 q.2⟩⟩ := by
  unfold mBin ob
  cases a Δ M with
  | none => rfl
  | some r => obtain ⟨r1, r2⟩ := r; simp only []; cases b Δ r2 <;> rfl
theorem ev_un : mUn u a Δ M = @ob _ _ (a Δ M) ⟨fun r => u r.1 r.2⟩ := by
  unfold mUn ob
  cases a Δ M <;> rfl
theorem ev_args0 : mArgs [] Δ M = some ([], M) := eq_of_heq HEq.rfl
theorem ev_args {r : List (Sm W)} : mArgs (a :: r) Δ M = @ob _ _ (a Δ M) ⟨fun x => @ob _ _ (mArgs r Δ x.2) ⟨fun y => some (x.1 :: y.1, y.2)⟩⟩ := by
  show (match a Δ M with | some (x, M1) => (match mArgs r Δ M1 with | some (xs, M2) => some (x :: xs, M2) | none => none) | none => none) = _
  unfold ob
  cases a Δ M with
  | none => rfl
  | some r' => obtain ⟨r1, r2⟩ := r'; simp only []; cases mArgs r Δ r2 <;> rfl
theorem ev_fn {m : Sm (List W)} : mFn f m Δ M = @ob _ _ (m Δ M) ⟨fun r => f r.1 r.2⟩ := by
  unfold mFn ob
  cases m Δ M <;> rfl
theorem ev_call {m : Sm (List W)} : mCall n f m Δ M = @ob _ _ (m Δ M) ⟨fun r => if r.1.length = n then f r.1 r.2 else none⟩ := by
  unfold mCall ob
  cases m Δ M <;> rfl
theorem ev_callK {n0 nk : Nat} {pm : List Nat} {m k : Sm (List W)} : mCallK n n0 nk pm f m k Δ M = @ob _ _ (m Δ M) ⟨fun r => @ob _ _ (k Δ r.2) ⟨fun z => if (pickK n0 nk pm r.1 z.1).length = n then f (pickK n0 nk pm r.1 z.1) z.2 else none⟩⟩ := by
  unfold mCallK ob
  cases m Δ M with
  | none => rfl
  | some r => obtain ⟨r1, r2⟩ := r; simp only []; cases k Δ r2 <;> rfl
theorem ev_if {c : Sm Bool} : mIf c a b Δ M = @ob _ _ (c Δ M) ⟨fun r => @oif _ r.1 ⟨(fun _ => a Δ r.2)⟩ ⟨(fun _ => b Δ r.2)⟩⟩ := by
  unfold mIf ob
  cases c Δ M with
  | none => rfl
  | some r => obtain ⟨r1, r2⟩ := r; cases r1 <;> rfl
/-- a bool's own -/
def asB : W × MS → Option (Bool × MS)
  | (.d _ (.bool k), M) => some (k, M)
  | _ => none
theorem asB_d {k : Bool} : asB (.d tt (.bool k), M) = some (k, M) := eq_of_heq HEq.rfl
theorem ev_B1 : tB1 a Δ M = @ob _ _ (a Δ M) ⟨asB⟩ := by
  unfold tB1 ob
  cases a Δ M with
  | none => rfl
  | some r =>
    obtain ⟨r1, r2⟩ := r
    cases r1 with
    | d tt x => cases x <;> rfl
    | loc n => rfl
    | s xs => rfl
    | fn y => rfl
theorem ev_and : tAnd' p q Δ M = @ob _ _ (p Δ M) ⟨fun r => @oif _ r.1 ⟨(fun _ => q Δ r.2)⟩ ⟨(fun _ => some (false, r.2))⟩⟩ := by
  unfold tAnd' ob
  cases p Δ M with
  | none => rfl
  | some r => obtain ⟨r1, r2⟩ := r; cases r1 <;> rfl
theorem ev_or : tOr' p q Δ M = @ob _ _ (p Δ M) ⟨fun r => @oif _ r.1 ⟨(fun _ => some (true, r.2))⟩ ⟨(fun _ => q Δ r.2)⟩⟩ := by
  unfold tOr' ob
  cases p Δ M with
  | none => rfl
  | some r => obtain ⟨r1, r2⟩ := r; cases r1 <;> rfl
theorem ev_not : tNot' p Δ M = @ob _ _ (p Δ M) ⟨fun r => some (!r.1, r.2)⟩ := by
  unfold tNot' ob
  cases p Δ M <;> rfl
theorem ev_mand : mAnd a b Δ M = @ob _ _ (@ob _ _ (a Δ M) ⟨asB⟩) ⟨fun r => @oif _ r.1 ⟨(fun _ => b Δ r.2)⟩ ⟨(fun _ => some (.d true (.bool false), r.2))⟩⟩ := by
  unfold mAnd ob
  cases a Δ M with
  | none => rfl
  | some r =>
    obtain ⟨r1, r2⟩ := r
    cases r1 with
    | d tt x => cases x <;> first | rfl | (rename_i k; cases k <;> rfl)
    | loc n => rfl
    | s xs => rfl
    | fn y => rfl
theorem ev_mor : mOr a b Δ M = @ob _ _ (@ob _ _ (a Δ M) ⟨asB⟩) ⟨fun r => @oif _ r.1 ⟨(fun _ => some (.d true (.bool true), r.2))⟩ ⟨(fun _ => b Δ r.2)⟩⟩ := by
  unfold mOr ob
  cases a Δ M with
  | none => rfl
  | some r =>
    obtain ⟨r1, r2⟩ := r
    cases r1 with
    | d tt x => cases x <;> first | rfl | (rename_i k; cases k <;> rfl)
    | loc n => rfl
    | s xs => rfl
    | fn y => rfl
theorem ev_true : tTrue Δ M = some (true, M) := eq_of_heq HEq.rfl
theorem ev_chain {g' : W → W → MS → Option (W × MS)} : mChain g g' a b c Δ M = @ob _ _ (a Δ M) ⟨fun r => @ob _ _ (b Δ r.2) ⟨fun q => @ob _ _ (@ob _ _ (g r.1 q.1 q.2) ⟨asB⟩) ⟨fun z => @oif _ z.1 ⟨(fun _ => @ob _ _ (c Δ z.2) ⟨fun y => g' q.1 y.1 y.2⟩)⟩ ⟨(fun _ => some (.d true (.bool false), z.2))⟩⟩⟩⟩ := by
  unfold mChain ob
  cases a Δ M with
  | none => rfl
  | some r =>
    obtain ⟨r1, r2⟩ := r
    simp only []
    cases b Δ r2 with
    | none => rfl
    | some q =>
      obtain ⟨q1, q2⟩ := q
      simp only []
      cases g r1 q1 q2 with
      | none => rfl
      | some z =>
        obtain ⟨z1, z2⟩ := z
        cases z1 with
        | d tt x =>
          cases x with
          | bool k =>
            cases k with
            | true => simp only [asB, oif, if_true]; cases c Δ z2 <;> rfl
            | false => rfl
          | _ => rfl
        | loc n => rfl
        | s xs => rfl
        | fn y => rfl
/-! displays -/
def mkT (ws : List W) (M : MS) : Option (W × MS) := @ob _ _ (fzAll ws M) ⟨fun r => if r.2.1.length ≤ 1000 then some (.d r.1 (.tuple r.2.1), r.2.2) else none⟩
def mkL (ws : List W) (M : MS) : Option ((Bool × List PD) × MS) := @ob _ _ (fzAll ws M) ⟨fun r => if r.2.1.length ≤ 1000 then some ((r.1, r.2.1), r.2.2) else none⟩
theorem ev_tup {m : Sm (List W)} : mTup m Δ M = @ob _ _ (m Δ M) ⟨fun r => mkT r.1 r.2⟩ := by
  unfold mTup ob mkT ob
  cases m Δ M with
  | none => rfl
  | some r => obtain ⟨r1, r2⟩ := r; simp only []; cases fzAll r1 r2 <;> rfl
theorem ev_lst {m : Sm (List W)} : mLst m Δ M = @ob _ _ (m Δ M) ⟨fun r => mkL r.1 r.2⟩ := by
  unfold mLst ob mkL ob
  cases m Δ M with
  | none => rfl
  | some r => obtain ⟨r1, r2⟩ := r; simp only []; cases fzAll r1 r2 <;> rfl
theorem mkT2 {x y : PD} {r s : Bool} : mkT [.d r x, .d s y] M = some (.d (r && s) (.tuple [x, y]), M) := by
  simp [mkT, fzAll, fz1, ob]
theorem mkT3 {x y z : PD} {r s u : Bool} : mkT [.d r x, .d s y, .d u z] M = some (.d (r && (s && u)) (.tuple [x, y, z]), M) := by
  simp [mkT, fzAll, fz1, ob]
theorem mkL0 : mkL [] M = some ((true, []), M) := by simp [mkL, fzAll, ob]
theorem mkL1 {x : PD} {r : Bool} : mkL [.d r x] M = some ((r, [x]), M) := by simp [mkL, fzAll, fz1, ob]
theorem mkL2 {x y : PD} {r s : Bool} : mkL [.d r x, .d s y] M = some ((r && s, [x, y]), M) := by simp [mkL, fzAll, fz1, ob]
theorem ev_old : mOld it Δ M = @ob _ _ (it Δ M) ⟨fun r => some (.d r.1.1 (.list r.1.2), r.2)⟩ := by
  unfold mOld ob
  cases it Δ M <;> rfl
theorem ev_new : mNew it Δ M = @ob _ _ (it Δ M) ⟨fun r => some (.loc r.2.length, r.2 ++ [.lst r.1.1 r.1.2])⟩ := by
  unfold mNew ob
  cases it Δ M <;> rfl
theorem ev_items : mItems a Δ M = @ob _ _ (a Δ M) ⟨fun r => fzQ r.1 r.2⟩ := by
  unfold mItems ob
  cases a Δ M <;> rfl
theorem ev_lc {vs : List Nat} : mLc it tg p a vs Δ M = @ob _ _ (it Δ M) ⟨fun r => if r.1.2.length ≤ 100000 then lcGo r.1.1 tg p a (wipeD Δ vs) r.1.2 r.2 else none⟩ := by
  unfold mLc ob
  cases it Δ M <;> rfl
/-! statements -/
def seqK (t : Ss) : Fl × Sl × MS → Option (Fl × Sl × MS)
  | (.nx, Δ, M) => t Δ M
  | (.rt w, Δ, M) => some (.rt w, Δ, M)
  | (.bk, Δ, M) => some (.bk, Δ, M)
  | (.ct, Δ, M) => some (.ct, Δ, M)
theorem seq_nx : seqK t (.nx, Δ, M) = t Δ M := eq_of_heq HEq.rfl
theorem seq_rt {w : W} : seqK t (.rt w, Δ, M) = some (.rt w, Δ, M) := eq_of_heq HEq.rfl
theorem seq_bk : seqK t (.bk, Δ, M) = some (.bk, Δ, M) := eq_of_heq HEq.rfl
theorem seq_ct : seqK t (.ct, Δ, M) = some (.ct, Δ, M) := eq_of_heq HEq.rfl
theorem ev_seq : sSeq s t Δ M = @ob _ _ (s Δ M) ⟨(seqK t)⟩ := by
  unfold sSeq ob
  cases s Δ M with
  | none => rfl
  | some r => obtain ⟨f, Δ1, M1⟩ := r; cases f <;> rfl
theorem ev_next : sNext Δ M = some (.nx, Δ, M) := eq_of_heq HEq.rfl
theorem ev_break : sBreak Δ M = some (.bk, Δ, M) := eq_of_heq HEq.rfl
theorem ev_no : sNo Δ M = none := eq_of_heq HEq.rfl
theorem ev_ret : sRet a Δ M = @ob _ _ (a Δ M) ⟨fun r => @ob _ _ (fz1 r.1 r.2) ⟨fun z => some (.rt (.d z.1 z.2.1), Δ, z.2.2)⟩⟩ := by
  unfold sRet ob
  cases a Δ M with
  | none => rfl
  | some r => obtain ⟨r1, r2⟩ := r; simp only []; cases fz1 r1 r2 <;> rfl
theorem fz_d {x : PD} : fz1 (.d tt x) M = some (tt, x, M) := eq_of_heq HEq.rfl
theorem ev_retW : sRetW a Δ M = @ob _ _ (a Δ M) ⟨fun r => some (.rt r.1, Δ, r.2)⟩ := by
  unfold sRetW ob
  cases a Δ M <;> rfl
theorem ev_drop : sDrop a Δ M = @ob _ _ (a Δ M) ⟨fun r => some (.nx, Δ, r.2)⟩ := by
  unfold sDrop ob
  cases a Δ M <;> rfl
theorem ev_sif : sIf p s t Δ M = @ob _ _ (p Δ M) ⟨fun r => @oif _ r.1 ⟨(fun _ => s Δ r.2)⟩ ⟨(fun _ => t Δ r.2)⟩⟩ := by
  unfold sIf ob
  cases p Δ M with
  | none => rfl
  | some r => obtain ⟨r1, r2⟩ := r; cases r1 <;> rfl
theorem ev_set : sSet i a Δ M = @ob _ _ (a Δ M) ⟨fun r => some (.nx, Δ.set i (some r.1), r.2)⟩ := by
  unfold sSet ob
  cases a Δ M <;> rfl
def parK (i j : Nat) (Δ : Sl) : List W × MS → Option (Fl × Sl × MS)
  | ([u, v], M1) => some (.nx, (Δ.set i (some u)).set j (some v), M1)
  | _ => none
theorem par_2 {u v : W} : parK i j Δ ([u, v], M) = some (.nx, (Δ.set i (some u)).set j (some v), M) := eq_of_heq HEq.rfl
theorem ev_par {m : Sm (List W)} : sPar i j m Δ M = @ob _ _ (m Δ M) ⟨(parK i j Δ)⟩ := by
  unfold sPar ob parK
  rcases m Δ M with _ | ⟨ws, M1⟩
  · rfl
  · rcases ws with _ | ⟨u, _ | ⟨v, _ | _⟩⟩ <;> rfl
theorem ev_for : sFor it tg s Δ M = @ob _ _ (it Δ M) ⟨fun r => forGo r.1.1 tg s r.1.2 Δ r.2⟩ := by
  unfold sFor ob
  cases it Δ M <;> rfl
theorem ev_sem {b : Ss} {ws : List W} : semF n b ws M = @ob _ _ (b (ws.map some ++ List.replicate (n - ws.length) none) M) ⟨fun r => match r.1 with
    | .rt w => some (w, r.2.2)
    | .nx => some (.d true .none, r.2.2)
    | _ => none⟩ := by
  unfold semF ob
  rcases b (ws.map some ++ List.replicate (n - ws.length) none) M with _ | ⟨f, Δ1, M1⟩
  · rfl
  · cases f <;> rfl
theorem ev_semFz {fz : List Bool} {b : Ss} {ws : List W} : semFz fz n b ws M = @ob _ _ (fzP fz ws M) ⟨fun r => semF n b r.1 r.2⟩ := by
  unfold semFz ob
  cases fzP fz ws M <;> rfl
theorem fzP_0 {fz : List Bool} : fzP fz [] M = some ([], M) := by cases fz <;> exact eq_of_heq HEq.rfl
theorem fzP_d {fz : List Bool} {b : Bool} {x : PD} {ws : List W} : fzP (b :: fz) (.d tt x :: ws) M = @ob _ _ (fzP fz ws M) ⟨fun r => some (.d tt x :: r.1, r.2)⟩ := by
  have e : fzP (b :: fz) (.d tt x :: ws) M = (match fzP fz ws M with | some (us, M2) => some (.d tt x :: us, M2) | none => none) := by
    cases b <;> rfl
  rw [e]
  unfold ob
  cases fzP fz ws M <;> rfl
theorem fzP_s {fz : List Bool} {b : Bool} {xs : List PD} {ws : List W} : fzP (b :: fz) (.s xs :: ws) M = @ob _ _ (fzP fz ws M) ⟨fun r => some (.s xs :: r.1, r.2)⟩ := by
  have e : fzP (b :: fz) (.s xs :: ws) M = (match fzP fz ws M with | some (us, M2) => some (.s xs :: us, M2) | none => none) := by
    cases b <;> rfl
  rw [e]
  unfold ob
  cases fzP fz ws M <;> rfl
theorem fzP_l {fz : List Bool} {ws : List W} : fzP (false :: fz) (.loc k :: ws) M = @ob _ _ (fzP fz ws M) ⟨fun r => some (.loc k :: r.1, r.2)⟩ := by
  have e : fzP (false :: fz) (.loc k :: ws) M = (match fzP fz ws M with | some (us, M2) => some (.loc k :: us, M2) | none => none) := rfl
  rw [e]
  unfold ob
  cases fzP fz ws M <;> rfl
/-! operations on ints and tuples -/
theorem gSub_i {r s : Bool} {x y : Int} : gSub (.d r (.int x)) (.d s (.int y)) M = some (.d true (.int (x - y)), M) := eq_of_heq HEq.rfl
theorem gAdd_i {r s : Bool} {x y : Int} : gAdd (.d r (.int x)) (.d s (.int y)) M = some (.d true (.int (x + y)), M) := eq_of_heq HEq.rfl
theorem gMul_i {r s : Bool} {x y : Int} (h : CMulE x y) : gMul (.d r (.int x)) (.d s (.int y)) M = some (.d true (.int (x * y)), M) := if_pos h
theorem gFdiv_i {r s : Bool} {x y : Int} (h : CDivW x y) : gFdiv (.d r (.int x)) (.d s (.int y)) M = some (.d true (.int (x / y)), M) := if_pos h
theorem gMod_i {r s : Bool} {x y : Int} (h : 0 < y) : gMod (.d r (.int x)) (.d s (.int y)) M = some (.d true (.int (x % y)), M) := if_pos h
theorem gLt_i {r s : Bool} {x y : Int} : gLt (.d r (.int x)) (.d s (.int y)) M = some (.d true (.bool (decide (x < y))), M) := eq_of_heq HEq.rfl
theorem gLe_i {r s : Bool} {x y : Int} : gLe (.d r (.int x)) (.d s (.int y)) M = some (.d true (.bool (decide (x ≤ y))), M) := eq_of_heq HEq.rfl
theorem gGt_i {r s : Bool} {x y : Int} : gGt (.d r (.int x)) (.d s (.int y)) M = some (.d true (.bool (decide (y < x))), M) := eq_of_heq HEq.rfl
theorem gGe_i {r s : Bool} {x y : Int} : gGe (.d r (.int x)) (.d s (.int y)) M = some (.d true (.bool (decide (y ≤ x))), M) := eq_of_heq HEq.rfl
theorem gEq_i {r s : Bool} {x y : Int} : gEq (.d r (.int x)) (.d s (.int y)) M = some (.d true (.bool (decide (x = y))), M) := by
  show some (W.d true (PyData.bool (PyData.eqv (.int x) (.int y))), M) = _
  congr 4
theorem gNe_i {r s : Bool} {x y : Int} : gNe (.d r (.int x)) (.d s (.int y)) M = some (.d true (.bool (!decide (x = y))), M) := by
  show some (W.d true (PyData.bool (!PyData.eqv (.int x) (.int y))), M) = _
  congr 5
theorem gIx_0 {r s : Bool} {x : PD} {xs : List PD} : gIx (.d r (.tuple (x :: xs))) (.d s (.int 0)) M = some (.d (nf r x) x, M) := by
  show (match atI (x :: xs) 0 with | some z => some (W.d (nf r z) z, M) | none => none) = _
  rw [show (0 : Int) = ((0 : Nat) : Int) from rfl, atI_nat (j := 0) rfl]
theorem gIx_1 {r s : Bool} {x y : PD} {xs : List PD} : gIx (.d r (.tuple (x :: y :: xs))) (.d s (.int 1)) M = some (.d (nf r y) y, M) := by
  show (match atI (x :: y :: xs) 1 with | some z => some (W.d (nf r z) z, M) | none => none) = _
  rw [show (1 : Int) = ((1 : Nat) : Int) from rfl, atI_nat (j := 1) rfl]
theorem frIx0 {r s : Bool} {q : Rat} : gIx (.d r (fr q)) (.d s (.int 0)) M = some (.d true (.int q.num), M) := gIx_0
theorem frIx1 {r s : Bool} {q : Rat} : gIx (.d r (fr q)) (.d s (.int 1)) M = some (.d true (.int q.den), M) := gIx_1
end
end Ek

/-! EkX: walks over encoded lists -/
namespace Ek
open PySem PySem.Spec PyProof.Rows L2
section
variable {α : Type} {t : Bool} {g : Tg} {tt : Sm Bool} {te : Sm W} {b : Ss} {enc : α → PD}
/-- a comprehension that leaves the store -/
theorem lc_enc {Δ : Sl} {M : MS} (c : α → Bool) (f : α → PD) (s : α → Bool) (l : List α)
    (h : ∀ a, a ∈ l → ∃ Δ1, g t (enc a) Δ = some Δ1 ∧ tt Δ1 M = some (c a, M) ∧ (c a = true → te Δ1 M = some (.d (s a) (f a), M))) :
    lcGo t g tt te Δ (l.map enc) M = some (((l.filter c).all s, (l.filter c).map f), M) := by
  induction l with
  | nil => rfl
  | cons a l ih =>
    obtain ⟨Δ1, h1, h2, h3⟩ := h a List.mem_cons_self
    have ih := ih fun a ha => h a (List.mem_cons_of_mem _ ha)
    cases hc : c a with
    | true =>
      rw [hc] at h2
      simp [lcGo, h1, h2, h3 hc, fz1, ih, hc]
    | false =>
      rw [hc] at h2
      simp [lcGo, h1, h2, ih, hc]
/-- with no test -/
theorem lc_map {Δ : Sl} {M : MS} (f : α → PD) (s : α → Bool) (l : List α)
    (h : ∀ a, a ∈ l → ∃ Δ1, g t (enc a) Δ = some Δ1 ∧ te Δ1 M = some (.d (s a) (f a), M)) :
    lcGo t g tTrue te Δ (l.map enc) M = some ((l.all s, l.map f), M) := by
  have := lc_enc (tt := tTrue) (enc := enc) (M := M) (fun _ => true) f s l (fun a ha => by
    obtain ⟨Δ1, h1, h2⟩ := h a ha
    exact ⟨Δ1, h1, rfl, fun _ => h2⟩)
  rw [this, List.filter_eq_self.mpr (fun _ _ => rfl)]
/-- a comprehension with a changing store: what holds of the store is kept -/
theorem lc_inv {Δ : Sl} (P : MS → Prop) (R : PD → Prop) (s : Bool) (xs : List PD)
    (h : ∀ x, x ∈ xs → ∀ M, P M → ∃ Δ1, g t x Δ = some Δ1 ∧ ∃ y M2, te Δ1 M = some (.d s y, M2) ∧ P M2 ∧ R y) :
    ∀ M, P M → ∃ ys M2, lcGo t g tTrue te Δ xs M = some ((ys.all fun _ => s, ys), M2) ∧ ys.length = xs.length ∧ P M2 ∧ ∀ y, y ∈ ys → R y := by
  induction xs with
  | nil => exact fun M hM => ⟨[], M, rfl, rfl, hM, fun _ h => nomatch h⟩
  | cons x xs ih =>
    intro M hM
    obtain ⟨Δ1, h1, y, M2, h2, h3, h4⟩ := h x List.mem_cons_self M hM
    obtain ⟨ys, M3, h5, h6, h7, h8⟩ := ih (fun x hx => h x (List.mem_cons_of_mem _ hx)) M2 h3
    refine ⟨y :: ys, M3, ?_, by simp [h6], h7, ?_⟩
    · simp [lcGo, h1, tTrue, h2, fz1, h5]
    · intro z hz
      cases hz with
      | head => exact h4
      | tail _ hz => exact h8 z hz
/-- a for loop that goes to its end -/
theorem for_inv (P : List α → Sl → MS → Prop) (l : List α)
    (h : ∀ done a rest, l = done ++ a :: rest → ∀ Δ M, P done Δ M → ∃ Δ1, g t (enc a) Δ = some Δ1 ∧ ∃ Δ2 M2, b Δ1 M = some (.nx, Δ2, M2) ∧ P (done ++ [a]) Δ2 M2) :
    ∀ Δ M, P [] Δ M → ∃ Δ' M', forGo t g b (l.map enc) Δ M = some (.nx, Δ', M') ∧ P l Δ' M' := by
  suffices hs : ∀ rest done, l = done ++ rest → ∀ Δ M, P done Δ M → ∃ Δ' M', forGo t g b (rest.map enc) Δ M = some (.nx, Δ', M') ∧ P l Δ' M' from fun Δ M hP => hs l [] rfl Δ M hP
  intro rest
  induction rest with
  | nil =>
    intro done e Δ M hP
    refine ⟨Δ, M, rfl, ?_⟩
    rw [e, List.append_nil]
    exact hP
  | cons a rest ih =>
    intro done e Δ M hP
    obtain ⟨Δ1, h1, Δ2, M2, h2, h3⟩ := h done a rest e Δ M hP
    obtain ⟨Δ', M', h4, h5⟩ := ih (done ++ [a]) (by simp [e]) Δ2 M2 h3
    refine ⟨Δ', M', ?_, h5⟩
    simp [forGo, h1, h2, h4]
end
section
variable {Δ : Sl} {M : MS} {i j : Nat} {r s : Bool} {x y : PD} {g : Tg} {gs : Tgs} {xs : List PD}
theorem tg_nm : gNm i r x Δ = some (Δ.set i (some (.d (nf r x) x))) := eq_of_heq HEq.rfl
theorem tg_2 : gTp (gsCons (gNm i) (gsCons (gNm j) gsNil)) r (.tuple [x, y]) Δ = some ((Δ.set i (some (.d (nf r x) x))).set j (some (.d (nf r y) y))) := eq_of_heq HEq.rfl
theorem nf_t : nf r (.tuple xs) = r := eq_of_heq HEq.rfl
theorem nf_l : nf r (.list xs) = r := eq_of_heq HEq.rfl
theorem nf_fr {q : Rat} : nf r (fr q) = r := eq_of_heq HEq.rfl
theorem nf_i {n : Int} : nf r (.int n) = true := eq_of_heq HEq.rfl
theorem fzQ_l : fzQ (.d r (.list xs)) M = some ((r, xs), M) := eq_of_heq HEq.rfl
theorem fzQ_t : fzQ (.d r (.tuple xs)) M = some ((r, xs), M) := eq_of_heq HEq.rfl
theorem bLen_l : bLen [.d r (.list xs)] M = some (.d true (.int xs.length), M) := eq_of_heq HEq.rfl
theorem bLen_t : bLen [.d r (.tuple xs)] M = some (.d true (.int xs.length), M) := eq_of_heq HEq.rfl
theorem bTuple_l : bTuple [.d r (.list xs)] M = some (.d r (.tuple xs), M) := eq_of_heq HEq.rfl
theorem isi_tt : gIsi "tuple" (.d r (.tuple xs)) M = some (.d true (.bool true), M) := eq_of_heq HEq.rfl
theorem isi_ii {n : Int} : gIsi "int" (.d r (.int n)) M = some (.d true (.bool true), M) := eq_of_heq HEq.rfl
theorem isi_bi {n : Int} : gIsi "bool" (.d r (.int n)) M = some (.d true (.bool false), M) := eq_of_heq HEq.rfl
theorem gIs_n : gIs (.d r .none) M = some (.d true (.bool true), M) := eq_of_heq HEq.rfl
theorem gIs_i {n : Int} : gIs (.d r (.int n)) M = some (.d true (.bool false), M) := eq_of_heq HEq.rfl
theorem gEq_d (h : SeqAt.shaped x = true) (k : SeqAt.shaped y = true) : gEq (.d r x) (.d s y) M = some (.d true (.bool (PyData.eqv x y)), M) := if_pos ⟨h, k⟩
theorem gNe_d (h : SeqAt.shaped x = true) (k : SeqAt.shaped y = true) : gNe (.d r x) (.d s y) M = some (.d true (.bool (!PyData.eqv x y)), M) := if_pos ⟨h, k⟩
theorem bools_map {α : Type} (l : List α) (f : α → Bool) : asBools (l.map fun a => PyData.bool (f a)) = some (l.map f) := by
  induction l with
  | nil => rfl
  | cons a l ih => simp [asBools, ih]
theorem bAll_map {α : Type} (l : List α) (f : α → Bool) : bAll [.d r (.list (l.map fun a => PyData.bool (f a)))] M = some (.d true (.bool (l.all f)), M) := by
  show (match asBools (l.map fun a => PyData.bool (f a)) with | some bs => some (W.d true (PyData.bool (bs.all id)), M) | none => none) = _
  rw [bools_map]
  simp [List.all_map]
theorem fr_shaped (q : Rat) : SeqAt.shaped (fr q) = true := by
  unfold fr
  rfl
theorem ev_range1 {m : Sm (List W)} {n : Nat} (h : m Δ M = some ([.d r (.int n)], M)) (l : n < 2 ^ 62) : mRange1 m Δ M = some ((true, rangeD 0 n), M) := by
  unfold mRange1
  rw [h]
  have : -(2 ^ 62) ≤ (n : Int) ∧ (n : Int) < 2 ^ 62 := by omega
  simp only [this, and_self, if_true, Int.toNat_natCast]
theorem fr_eqv (p q : Rat) : PyData.eqv (fr p) (fr q) = decide (p = q) := by
  have e : PyData.eqv (fr p) (fr q) = (decide (p.num = q.num) && (decide ((p.den : Int) = (q.den : Int)) && true)) := by
    unfold fr
    rfl
  rw [e]
  by_cases h : p = q
  · subst h
    simp
  · simp only [h, decide_false]
    by_cases h1 : p.num = q.num
    · have : p.den ≠ q.den := fun h2 => h (Rat.ext h1 h2)
      have : ¬((p.den : Int) = (q.den : Int)) := by omega
      simp [this]
    · simp [h1]
theorem gEq_fr {p q : Rat} : gEq (.d r (fr p)) (.d s (fr q)) M = some (.d true (.bool (decide (p = q))), M) := by
  rw [gEq_d (fr_shaped p) (fr_shaped q), fr_eqv]
theorem gNe_fr {p q : Rat} : gNe (.d r (fr p)) (.d s (fr q)) M = some (.d true (.bool (!decide (p = q))), M) := by
  rw [gNe_d (fr_shaped p) (fr_shaped q), fr_eqv]
/-- sums and their sizes -/
theorem sz_0 : Sz 1 0 := ⟨by decide, by decide⟩
theorem sum_sz {b : Nat} : ∀ {l : List Rat}, (∀ q, q ∈ l → Sz b q) → Sz (1 + l.length * (b + 1)) l.sum := by
  intro l h
  induction l with
  | nil => simpa using sz_0
  | cons a l ih =>
    have := add_sz (h a List.mem_cons_self) (ih fun q hq => h q (List.mem_cons_of_mem _ hq))
    rw [List.sum_cons, List.length_cons, Nat.add_mul]
    refine this.mono ?_
    omega
theorem sum_snoc (l : List Rat) (q : Rat) : (l ++ [q]).sum = l.sum + q := by
  induction l with
  | nil => simp [Rat.add_comm]
  | cons a l ih => simp [ih, Rat.add_assoc]
def rgK : List W × MS → Option ((Bool × List PD) × MS)
  | ([.d _ (.int j)], M1) => if -(2 ^ 62) ≤ j ∧ j < 2 ^ 62 then some ((true, rangeD 0 j.toNat), M1) else none
  | _ => none
theorem ev_rg {m : Sm (List W)} : mRange1 m Δ M = @ob _ _ (m Δ M) ⟨rgK⟩ := by
  unfold mRange1 ob
  rcases m Δ M with _ | ⟨ws, M1⟩
  · rfl
  · rcases ws with _ | ⟨w, _ | _⟩
    · rfl
    · cases w with
      | d r x => cases x <;> rfl
      | loc n => rfl
      | s xs => rfl
      | fn y => rfl
    · cases w with
      | d r x => cases x <;> rfl
      | loc n => rfl
      | s xs => rfl
      | fn y => rfl
def nE (i : Nat) : PD := .int (i : Int)
theorem rgK_n {n : Nat} (l : n < 2 ^ 62) : rgK ([.d r (.int n)], M) = some ((true, (List.range n).map nE), M) := by
  have : -(2 ^ 62) ≤ (n : Int) ∧ (n : Int) < 2 ^ 62 := by omega
  unfold rgK
  simp only [this, and_self, if_true, Int.toNat_natCast]
  unfold rangeD nE
  simp only [Int.zero_add]
theorem rgK_o {n : Int} (m : Nat) (h : n = m) (l : m < 2 ^ 62) : rgK ([.d r (.int n)], M) = some ((true, (List.range m).map nE), M) := by
  subst h
  exact rgK_n l
theorem nf_nE {n : Nat} : nf r (nE n) = true := eq_of_heq HEq.rfl
theorem gIx_at {α : Type} {l : List α} {enc : α → PD} {n : Nat} {k : Int} (e : k = n) (h : n < l.length) : gIx (.d r (.list (l.map enc))) (.d s (.int k)) M = some (.d (nf r (enc l[n])) (enc l[n]), M) := by
  subst e
  show (match atI (l.map enc) (n : Int) with | some y => some (W.d (nf r y) y, M) | none => none) = _
  rw [atI_nat (j := n) (v := enc l[n]) (by simp [h])]
theorem gIxT_at {α : Type} {l : List α} {enc : α → PD} {n : Nat} {k : Int} (e : k = n) (h : n < l.length) : gIx (.d r (.tuple (l.map enc))) (.d s (.int k)) M = some (.d (nf r (enc l[n])) (enc l[n]), M) := by
  subst e
  show (match atI (l.map enc) (n : Int) with | some y => some (W.d (nf r y) y, M) | none => none) = _
  rw [atI_nat (j := n) (v := enc l[n]) (by simp [h])]
theorem gNeg_i {n : Int} : gNeg (.d r (.int n)) M = some (.d true (.int (-n)), M) := eq_of_heq HEq.rfl
theorem ixM_last {α : Type} {l : List α} {enc : α → PD} {z : α} : gIx (.loc M.length) (.d s (.int (-1))) (M ++ [.lst r ((l ++ [z]).map enc)]) = some (.d (nf r (enc z)) (enc z), M ++ [.lst r ((l ++ [z]).map enc)]) := by
  have h : (M ++ [MO.lst r ((l ++ [z]).map enc)])[M.length]? = some (.lst r ((l ++ [z]).map enc)) := by simp
  rw [gIx_int]
  show (match (match (M ++ [MO.lst r ((l ++ [z]).map enc)])[M.length]? with
    | some (.lst t xs) => some (t, xs)
    | some (.fzn t xs) => some (t, xs)
    | _ => none) with
    | some (t, xs) => (match atI xs (-1) with
      | some y => some (W.d (nf t y) y, M ++ [MO.lst r ((l ++ [z]).map enc)])
      | none => none)
    | none => none) = _
  rw [h]
  have e : atI ((l ++ [z]).map enc) (-1) = some (enc z) := by
    have e1 : ixN ((l ++ [z]).map enc).length (-1) = some l.length := by
      unfold ixN
      rw [if_neg (by decide), if_pos (by simp; omega)]
      congr 1
      simp
      omega
    unfold atI
    rw [e1]
    simp
  simp only [e]
theorem last_get {o : MO} : (M ++ [o])[M.length]? = some o := by simp
theorem last_set {o o' : MO} : (M ++ [o]).set M.length o' = M ++ [o'] := by simp
theorem app_last {a e : Sm W} {xs : List PD} (ha : a Δ (M ++ [.lst r xs]) = some (.loc M.length, M ++ [.lst r xs])) (he : e Δ (M ++ [.lst r xs]) = some (.d s x, M ++ [.lst r xs])) (hl : xs.length ≤ 100000) : mApp a e Δ (M ++ [.lst r xs]) = some (.d true .none, M ++ [.lst (r && s) (xs ++ [x])]) := by
  unfold mApp
  rw [ha]
  simp only [last_get]
  rw [he]
  simp only [fz1, last_get, if_pos hl, last_set]
def rqK : W × MS → Option (W × MS)
  | (.d t (.tuple xs), M1) => some (.d t (.tuple xs.reverse), M1)
  | (w, M1) => (match rdL w M1 with
    | some (t, xs) => some (.d t (.list xs.reverse), M1)
    | none => none)
theorem ev_revq {a : Sm W} : mRevQ a Δ M = @ob _ _ (a Δ M) ⟨rqK⟩ := by
  unfold mRevQ ob
  rcases a Δ M with _ | ⟨w, M1⟩
  · rfl
  · cases w with
    | d t x => cases x <;> rfl
    | loc n => rfl
    | s xs => rfl
    | fn y => rfl
theorem rq_t {xs : List PD} : rqK (.d r (.tuple xs), M) = some (.d r (.tuple xs.reverse), M) := eq_of_heq HEq.rfl
theorem rq_last {xs : List PD} : rqK (.loc M.length, M ++ [.lst r xs]) = some (.d r (.list xs.reverse), M ++ [.lst r xs]) := by
  show (match rdL (.loc M.length) (M ++ [MO.lst r xs]) with
    | some (t, ys) => some (W.d t (PyData.list ys.reverse), M ++ [MO.lst r xs])
    | none => none) = _
  have : rdL (.loc M.length) (M ++ [MO.lst r xs]) = some (r, xs) := by
    show (match (M ++ [MO.lst r xs])[M.length]? with
    | some (.lst t xs) => some (t, xs)
    | some (.fzn t xs) => some (t, xs)
    | _ => none) = _
    rw [last_get]
  rw [this]
end
end Ek

/-! EkB: fractions over a common bottom -/
namespace Ek
open PySem PySem.Spec PyProof.Rows L2
/-- times D it is an int of at most N -/
def Bd (D N : Nat) (q : Rat) : Prop := ∃ n : Int, n.natAbs ≤ N ∧ q * (D : Rat) = (n : Rat)
theorem Bd.add {D N L : Nat} {p q : Rat} (h : Bd D N p) (k : Bd D L q) : Bd D (N + L) (p + q) := by
  obtain ⟨n, h1, h2⟩ := h
  obtain ⟨l, k1, k2⟩ := k
  refine ⟨n + l, by omega, ?_⟩
  rw [Rat.add_mul, h2, k2, Rat.intCast_add]
theorem Bd.mul {D E N L : Nat} {p q : Rat} (h : Bd D N p) (k : Bd E L q) : Bd (D * E) (N * L) (p * q) := by
  obtain ⟨n, h1, h2⟩ := h
  obtain ⟨l, k1, k2⟩ := k
  refine ⟨n * l, by rw [Int.natAbs_mul]; exact Nat.mul_le_mul h1 k1, ?_⟩
  rw [Rat.intCast_mul, ← h2, ← k2, Rat.natCast_mul]
  grind
theorem Bd.mono {D N L : Nat} {p : Rat} (h : Bd D N p) (l : N ≤ L) : Bd D L p := by
  obtain ⟨n, h1, h2⟩ := h
  exact ⟨n, by omega, h2⟩
theorem Bd.wide {D N E : Nat} {p : Rat} (h : Bd D N p) : Bd (D * E) (N * E) p := by
  obtain ⟨n, h1, h2⟩ := h
  refine ⟨n * E, ?_, ?_⟩
  · rw [Int.natAbs_mul]
    exact Nat.mul_le_mul_right _ h1
  · rw [Rat.natCast_mul, Rat.intCast_mul, ← h2, Rat.intCast_natCast]
    grind
theorem Bd.sz {D N b : Nat} {p : Rat} (h : Bd D N p) (h0 : D ≠ 0) (hD : D < 2 ^ b) (hN : N < 2 ^ b) : Sz b p := by
  obtain ⟨n, h1, h2⟩ := h
  have hd : (D : Rat) ≠ 0 := by
    intro e
    exact h0 (by exact_mod_cast e)
  have e : p = Rat.normalize n D h0 := by
    rw [Rat.normalize_eq_mkRat, Rat.mkRat_eq_div, ← h2]
    grind
  rw [e]
  exact norm_sz h0 (by omega) hD
end Ek

/-! EkY: what code makes of known values, whatever the flags and the rest of the store -/
namespace Ek
open PySem PySem.Spec PyProof.Rows L2
/-- what is known of a name: a value, a place, the script, an own list that may grow, an own list that is only read -/
inductive AV where
  | d (x : PD)
  | loc (n : Nat)
  | s (xs : List PD)
  | fn (y : Str)
  | ml (k : Nat) (xs : List PD)
  | lv (k : Nat) (xs : List PD)
  /-- an own dict -/
  | md (k : Nat) (kvs : List (PD × PD))
abbrev AE := List (Option AV)
/-- a list stands there -/
def At (M : MS) (k : Nat) (xs : List PD) : Prop := ∃ t, M[k]? = some (.lst t xs) ∨ M[k]? = some (.fzn t xs)
def isV (n : Nat) (M : MS) : W → AV → Prop
  | .d _ x, .d y => x = y
  | .loc a, .loc m => a = m
  | .s xs, .s ys => xs = ys
  | .fn x, .fn y => x = y
  | .loc a, .ml k xs => a = k ∧ n ≤ k ∧ ∃ t, M[k]? = some (.lst t xs)
  | .loc a, .lv k xs => a = k ∧ n ≤ k ∧ At M k xs
  | .loc a, .md k kvs => a = k ∧ n ≤ k ∧ M[k]? = some (.dT kvs)
  | _, _ => False
def plc : AV → Option Nat
  | .ml k _ => some k
  | .lv k _ => some k
  | .md k _ => some k
  | _ => none
/-- a place that may change -/
def ow : AV → Option Nat
  | .ml k _ => some k
  | .md k _ => some k
  | _ => none
/-- what a def leaves as it was -/
structure Bs where
  n : Nat
  P : MS → Prop
  le : ∀ M, P M → n ≤ M.length
  up : ∀ M M', P M → M.length ≤ M'.length → (∀ k, k < n → M'[k]? = M[k]?) → P M'
structure Sat (B : Bs) (E : AE) (Δ : Sl) (M : MS) : Prop where
  len : Δ.length = E.length
  base : B.P M
  sl : ∀ (i : Nat) (v : AV), E[i]? = some (some v) → ∃ w, Δ[i]? = some (some w) ∧ isV B.n M w v
  nd : ∀ (i j k : Nat) (u v : AV), i ≠ j → E[i]? = some (some u) → ow u = some k → E[j]? = some (some v) → plc v ≠ some k
def Lvw (E : AE) (k : Nat) : Prop := ∃ (i : Nat) (xs : List PD), E[i]? = some (some (.lv k xs))
/-- what reading may do: more things; read lists may stand still from now on -/
structure Step (E : AE) (M M' : MS) : Prop where
  len : M.length ≤ M'.length
  at_ : ∀ (k : Nat) (o : MO), M[k]? = some o → M'[k]? = some o ∨ (Lvw E k ∧ ∃ t xs, o = .lst t xs ∧ M'[k]? = some (.fzn t xs))
theorem Step.refl {E : AE} {M : MS} : Step E M M := ⟨Nat.le_refl _, fun _ _ h => .inl h⟩
theorem Step.app {E : AE} {M : MS} (N : MS) : Step E M (M ++ N) := ⟨by simp, fun k o h => .inl (by
  have : k < M.length := (List.getElem?_eq_some_iff.mp h).1
  rw [List.getElem?_append_left this]
  exact h)⟩
theorem Step.trans {E : AE} {M M1 M2 : MS} (a : Step E M M1) (b : Step E M1 M2) : Step E M M2 := by
  refine ⟨Nat.le_trans a.len b.len, fun k o h => ?_⟩
  rcases a.at_ k o h with h1 | ⟨l, t, xs, rfl, h1⟩
  · exact b.at_ k o h1
  · rcases b.at_ k _ h1 with h2 | ⟨_, t', xs', e, _⟩
    · exact .inr ⟨l, t, xs, rfl, h2⟩
    · cases e
theorem Step.mono {E E' : AE} {M M' : MS} (h : ∀ k, Lvw E k → Lvw E' k) (a : Step E M M') : Step E' M M' :=
  ⟨a.len, fun k o e => (a.at_ k o e).imp id fun ⟨l, r⟩ => ⟨h k l, r⟩⟩
theorem At.step {E : AE} {M M' : MS} {k : Nat} {xs : List PD} (a : Step E M M') (h : At M k xs) : At M' k xs := by
  obtain ⟨t, h | h⟩ := h
  · rcases a.at_ k _ h with h1 | ⟨_, t', ys, e, h1⟩
    · exact ⟨t, .inl h1⟩
    · cases e; exact ⟨t, .inr h1⟩
  · rcases a.at_ k _ h with h1 | ⟨_, t', ys, e, h1⟩
    · exact ⟨t, .inr h1⟩
    · cases e
theorem isV_d {n : Nat} {M : MS} {w : W} {x : PD} (h : isV n M w (.d x)) : ∃ t, w = .d t x := by
  cases w with
  | d t y => cases h; exact ⟨t, rfl⟩
  | loc n => cases h
  | s xs => cases h
  | fn y => cases h
theorem isV_loc {k : Nat} {M : MS} {w : W} {n : Nat} (h : isV k M w (.loc n)) : w = .loc n := by
  cases w with
  | d t y => cases h
  | loc m => cases h; rfl
  | s xs => cases h
  | fn y => cases h
theorem isV_s {k : Nat} {M : MS} {w : W} {xs : List PD} (h : isV k M w (.s xs)) : w = .s xs := by
  cases w with
  | d t y => cases h
  | loc m => cases h
  | s ys => cases h; rfl
  | fn y => cases h
theorem isV_fn {k : Nat} {M : MS} {w : W} {y : Str} (h : isV k M w (.fn y)) : w = .fn y := by
  cases w with
  | d t y => cases h
  | loc m => cases h
  | s ys => cases h
  | fn z => cases h; rfl
theorem isV_ml {n : Nat} {M : MS} {w : W} {k : Nat} {xs : List PD} (h : isV n M w (.ml k xs)) : w = .loc k ∧ n ≤ k ∧ ∃ t, M[k]? = some (.lst t xs) := by
  cases w with
  | d t y => cases h
  | loc m => obtain ⟨rfl, h⟩ := h; exact ⟨rfl, h⟩
  | s ys => cases h
  | fn y => cases h
theorem isV_lv {n : Nat} {M : MS} {w : W} {k : Nat} {xs : List PD} (h : isV n M w (.lv k xs)) : w = .loc k ∧ n ≤ k ∧ At M k xs := by
  cases w with
  | d t y => cases h
  | loc m => obtain ⟨rfl, h⟩ := h; exact ⟨rfl, h⟩
  | s ys => cases h
  | fn y => cases h
theorem isV_md {n : Nat} {M : MS} {w : W} {k : Nat} {xs : List (PD × PD)} (h : isV n M w (.md k xs)) : w = .loc k ∧ n ≤ k ∧ M[k]? = some (.dT xs) := by
  cases w with
  | d t y => cases h
  | loc m => obtain ⟨rfl, h⟩ := h; exact ⟨rfl, h⟩
  | s ys => cases h
  | fn y => cases h
theorem Sat.lv_ge {B : Bs} {E : AE} {Δ : Sl} {M : MS} (S : Sat B E Δ M) {k : Nat} (h : Lvw E k) : B.n ≤ k := by
  obtain ⟨i, xs, h⟩ := h
  obtain ⟨w, _, h2⟩ := S.sl i _ h
  exact (isV_lv h2).2.1
theorem Sat.step {B : Bs} {E : AE} {Δ : Sl} {M M' : MS} (S : Sat B E Δ M) (a : Step E M M') : Sat B E Δ M' := by
  refine ⟨S.len, B.up M M' S.base a.len fun k hk => ?_, fun i v h => ?_, S.nd⟩
  · have hl := B.le M S.base
    have : M[k]? = some M[k] := List.getElem?_eq_getElem (by omega)
    rcases a.at_ k _ this with h1 | ⟨l, _⟩
    · rw [h1, this]
    · have := S.lv_ge l
      omega
  · obtain ⟨w, h1, h2⟩ := S.sl i v h
    refine ⟨w, h1, ?_⟩
    cases v with
    | d x => obtain ⟨t, rfl⟩ := isV_d h2; rfl
    | loc m => have := isV_loc h2; subst this; rfl
    | s xs => have := isV_s h2; subst this; rfl
    | fn y => have := isV_fn h2; subst this; rfl
    | ml k xs =>
      obtain ⟨rfl, h3, t, h4⟩ := isV_ml h2
      refine ⟨rfl, h3, t, ?_⟩
      rcases a.at_ k _ h4 with h5 | ⟨⟨j, ys, hj⟩, _⟩
      · exact h5
      · by_cases e : i = j
        · subst e
          rw [h] at hj
          cases hj
        · exact absurd rfl (S.nd i j k _ _ e h rfl hj)
    | lv k xs =>
      obtain ⟨rfl, h3, h4⟩ := isV_lv h2
      exact ⟨rfl, h3, h4.step a⟩
    | md k kvs =>
      obtain ⟨rfl, h3, h4⟩ := isV_md h2
      refine ⟨rfl, h3, ?_⟩
      rcases a.at_ k _ h4 with h5 | ⟨_, t, xs, e, _⟩
      · exact h5
      · cases e
theorem sat_set {B : Bs} {E : AE} {Δ : Sl} {M : MS} {w : W} {x : PD} (S : Sat B E Δ M) (i : Nat) (hw : ∃ t, w = .d t x) : Sat B (E.set i (some (.d x))) (Δ.set i (some w)) M := by
  obtain ⟨t, rfl⟩ := hw
  refine ⟨by simp [S.len], S.base, fun k u hk => ?_, fun a b k u v hab ha hu hb => ?_⟩
  · rw [List.getElem?_set] at hk ⊢
    split at hk
    · rename_i e
      subst e
      split at hk
      · rename_i l
        cases hk
        rw [if_pos rfl, if_pos (by rw [S.len]; exact l)]
        exact ⟨_, rfl, rfl⟩
      · cases hk
    · rename_i e
      rw [if_neg e]
      exact S.sl k u hk
  · rw [List.getElem?_set] at ha hb
    split at ha
    · split at ha
      · cases ha; cases hu
      · cases ha
    · split at hb
      · split at hb
        · cases hb; intro h; cases h
        · cases hb
      · exact S.nd a b k u v hab ha hu hb
theorem sat_none {B : Bs} {E : AE} {Δ : Sl} {M : MS} (S : Sat B E Δ M) (i : Nat) : Sat B (E.set i none) (Δ.set i none) M := by
  refine ⟨by simp [S.len], S.base, fun k u hk => ?_, fun a b k u v hab ha hu hb => ?_⟩
  · rw [List.getElem?_set] at hk ⊢
    split at hk
    · split at hk <;> cases hk
    · rename_i e
      rw [if_neg e]
      exact S.sl k u hk
  · rw [List.getElem?_set] at ha hb
    split at ha
    · split at ha <;> cases ha
    · split at hb
      · split at hb <;> cases hb
      · exact S.nd a b k u v hab ha hu hb
def wipeA (E : AE) : List Nat → AE
  | [] => E
  | v :: vs => (wipeA E vs).set v none
theorem sat_wipe {B : Bs} {E : AE} {Δ : Sl} {M : MS} (h : Sat B E Δ M) : ∀ vs : List Nat, Sat B (wipeA E vs) (wipeD Δ vs) M
  | [] => h
  | v :: vs => sat_none (sat_wipe h vs) v
theorem lvw_set {E : AE} {i k : Nat} {o : Option AV} (ho : ∀ xs, o ≠ some (.lv k xs)) (h : Lvw (E.set i o) k) : Lvw E k := by
  obtain ⟨a, xs, h⟩ := h
  rw [List.getElem?_set] at h
  split at h
  · split at h
    · cases h; exact absurd rfl (ho xs)
    · cases h
  · exact ⟨a, xs, h⟩
theorem lv_wipe {E : AE} {k : Nat} : ∀ {vs : List Nat}, Lvw (wipeA E vs) k → Lvw E k
  | [], h => h
  | v :: vs, h => lv_wipe (vs := vs) (lvw_set (fun _ e => by cases e) h)
/-- fewer things known -/
inductive WkE : AE → AE → Prop
  | nil : WkE [] []
  | k {o : Option AV} {E E' : AE} : WkE E E' → WkE (o :: E) (o :: E')
  | n {o : Option AV} {E E' : AE} : WkE E E' → WkE (o :: E) (none :: E')
  | v {k : Nat} {xs : List PD} {E E' : AE} : WkE E E' → WkE (some (.ml k xs) :: E) (some (.lv k xs) :: E')
theorem WkE.refl : ∀ E : AE, WkE E E
  | [] => .nil
  | _ :: E => .k (WkE.refl E)
theorem WkE.get : ∀ {E E' : AE}, WkE E E' → E'.length = E.length ∧ ∀ (i : Nat) (v : AV), E'[i]? = some (some v) → E[i]? = some (some v) ∨ ∃ k xs, v = .lv k xs ∧ E[i]? = some (some (.ml k xs))
  | _, _, .nil => ⟨rfl, fun i v h => .inl h⟩
  | _, _, .k t => by
    obtain ⟨h1, h2⟩ := WkE.get t
    refine ⟨by simp [h1], fun i v h => ?_⟩
    cases i with
    | zero => exact .inl (by simpa using h)
    | succ i => simpa using h2 i v (by simpa using h)
  | _, _, .n t => by
    obtain ⟨h1, h2⟩ := WkE.get t
    refine ⟨by simp [h1], fun i v h => ?_⟩
    cases i with
    | zero => simp at h
    | succ i => simpa using h2 i v (by simpa using h)
  | _, _, .v t => by
    obtain ⟨h1, h2⟩ := WkE.get t
    refine ⟨by simp [h1], fun i v h => ?_⟩
    cases i with
    | zero =>
      simp at h
      subst h
      exact .inr ⟨_, _, rfl, rfl⟩
    | succ i => simpa using h2 i v (by simpa using h)
theorem sat_wk {B : Bs} {E E' : AE} {Δ : Sl} {M : MS} (w : WkE E E') (S : Sat B E Δ M) : Sat B E' Δ M := by
  obtain ⟨h1, h2⟩ := w.get
  refine ⟨by rw [h1, S.len], S.base, fun i v e => ?_, fun i j k u v hij hi hu hj => ?_⟩
  · rcases h2 i v e with h | ⟨k, xs, rfl, h⟩
    · exact S.sl i v h
    · obtain ⟨u, h3, h4⟩ := S.sl i _ h
      obtain ⟨rfl, h5, t, h6⟩ := isV_ml h4
      exact ⟨_, h3, rfl, h5, t, .inl h6⟩
  · rcases h2 i u hi with h | ⟨_, _, e, _⟩
    · rcases h2 j v hj with h' | ⟨k', ys, rfl, h'⟩
      · exact S.nd i j k u v hij h hu h'
      · exact (show plc (.ml k' ys) ≠ some k from S.nd i j k u _ hij h hu h')
    · subst e; cases hu
/-! ### arguments -/
/-- a value as it is handed over: data, or an own list -/
def isA (M : MS) : W → AV → Prop
  | .d _ x, .d y => x = y
  | .loc k, .d (.list xs) => At M k xs
  | .loc a, .loc m => a = m
  | .s xs, .s ys => xs = ys
  | .fn x, .fn y => x = y
  | _, _ => False
inductive DV (M : MS) : List W → List AV → Prop
  | nil : DV M [] []
  | cons {w : W} {ws : List W} {v : AV} {vs : List AV} : isA M w v → DV M ws vs → DV M (w :: ws) (v :: vs)
theorem DV.length {M : MS} : ∀ {ws : List W} {vs : List AV}, DV M ws vs → ws.length = vs.length
  | _, _, .nil => rfl
  | _, _, .cons _ t => by simp [DV.length t]
theorem DV.append {M : MS} : ∀ {ws us : List W} {vs xs : List AV}, DV M ws vs → DV M us xs → DV M (ws ++ us) (vs ++ xs)
  | _, _, _, _, .nil, h => h
  | _, _, _, _, .cons a t, h => .cons a (DV.append t h)
theorem isA.step {E : AE} {M M' : MS} {w : W} {v : AV} (a : Step E M M') (h : isA M w v) : isA M' w v := by
  cases w with
  | d t x => cases v <;> first | exact h | cases h
  | loc k =>
    cases v with
    | d x => cases x <;> first | exact At.step a h | cases h
    | loc m => exact h
    | s xs => cases h
    | fn y => cases h
    | ml k xs => cases h
    | lv k xs => cases h
    | md k xs => cases h
  | s xs => cases v <;> first | exact h | cases h
  | fn y => cases v <;> first | exact h | cases h
theorem DV.step {E : AE} {M M' : MS} (a : Step E M M') : ∀ {ws : List W} {vs : List AV}, DV M ws vs → DV M' ws vs
  | _, _, .nil => .nil
  | _, _, .cons h t => .cons (h.step a) (DV.step a t)
theorem DV.get {M : MS} : ∀ {ws : List W} {vs : List AV} {i : Nat} {v : AV}, DV M ws vs → vs[i]? = some v → ∃ w, ws[i]? = some w ∧ isA M w v
  | _, _, i, v, .nil, h => by simp at h
  | _, _, 0, v, .cons a t, h => by simp at h; subst h; exact ⟨_, rfl, a⟩
  | _, _, i + 1, v, .cons a t, h => by simpa using DV.get (i := i) t (by simpa using h)
theorem DV.pick {M : MS} {ws : List W} {vs : List AV} (h : DV M ws vs) : ∀ pm : List Nat, DV M (pick pm ws) (pick pm vs)
  | [] => .nil
  | i :: pm => by
    have ih := DV.pick h pm
    unfold Ek.pick at ih ⊢
    cases hv : vs[i]? with
    | none =>
      have : ws[i]? = none := by
        rw [List.getElem?_eq_none_iff] at hv ⊢
        rw [h.length]
        exact hv
      rw [List.filterMap_cons_none this, List.filterMap_cons_none hv]
      exact ih
    | some v =>
      obtain ⟨w, h1, h2⟩ := h.get hv
      rw [List.filterMap_cons_some h1, List.filterMap_cons_some hv]
      exact .cons h2 ih
/-- the places among values -/
def Pl (ws : List W) (k : Nat) : Prop := W.loc k ∈ ws
/-- what a call may do: more things; lists that are handed over may stand still -/
structure StepF (ws : List W) (M M' : MS) : Prop where
  len : M.length ≤ M'.length
  at_ : ∀ (k : Nat) (o : MO), M[k]? = some o → M'[k]? = some o ∨ (Pl ws k ∧ ∃ t xs, o = .lst t xs ∧ M'[k]? = some (.fzn t xs))
theorem StepF.app {ws : List W} {M : MS} (N : MS) : StepF ws M (M ++ N) := ⟨by simp, fun k o h => .inl (by
  have : k < M.length := (List.getElem?_eq_some_iff.mp h).1
  rw [List.getElem?_append_left this]
  exact h)⟩
def FnC (f : Fd) (vs : List AV) (x : PD) : Prop := ∀ ws M, DV M ws vs → ∃ t M', f ws M = some (.d t x, M') ∧ StepF ws M M'
/-! ### the readings -/
def Ev (B : Bs) (m : Sm W) (E : AE) (x : PD) : Prop := ∀ Δ M, Sat B E Δ M → ∃ t M', m Δ M = some (.d t x, M') ∧ Step E M M'
def EvT (B : Bs) (m : Sm Bool) (E : AE) (b : Bool) : Prop := ∀ Δ M, Sat B E Δ M → ∃ M', m Δ M = some (b, M') ∧ Step E M M'
def EvL (B : Bs) (m : Sm (Bool × List PD)) (E : AE) (xs : List PD) : Prop := ∀ Δ M, Sat B E Δ M → ∃ t M', m Δ M = some ((t, xs), M') ∧ Step E M M'
def EvA (B : Bs) (ms : List (Sm W)) (E : AE) (vs : List AV) : Prop := ∀ Δ M, Sat B E Δ M → ∃ ws M', mArgs ms Δ M = some (ws, M') ∧ Step E M M' ∧ DV M' ws vs ∧ ∀ k, Pl ws k → Lvw E k ∨ AV.loc k ∈ vs
section
variable {B : Bs} {E E' : AE} {a b c : Sm W} {x y z : PD} {i j k n : Nat} {p q : Sm Bool} {it : Sm (Bool × List PD)} {g : Tg}
theorem e_var (h : E[i]? = some (some (.d x))) : Ev B (mVar i) E x := fun Δ M S => by
  obtain ⟨w, h1, h2⟩ := S.sl i _ h
  obtain ⟨t, rfl⟩ := isV_d h2
  exact ⟨t, M, by unfold mVar; rw [h1], .refl⟩
theorem e_D {t : Bool} : Ev B (mD t x) E x := fun Δ M S => ⟨t, M, rfl, .refl⟩
theorem e_bin {g : W → W → MS → Option (W × MS)} (ha : Ev B a E x) (hb : Ev B b E y) (hg : ∀ t s M, ∃ r, g (.d t x) (.d s y) M = some (.d r z, M)) : Ev B (mBin g a b) E z := fun Δ M S => by
  obtain ⟨t, M1, h1, s1⟩ := ha Δ M S
  obtain ⟨s, M2, h2, s2⟩ := hb Δ M1 (S.step s1)
  obtain ⟨r, h3⟩ := hg t s M2
  exact ⟨r, M2, by unfold mBin; rw [h1]; simp only []; rw [h2]; exact h3, s1.trans s2⟩
theorem e_un {g : W → MS → Option (W × MS)} (ha : Ev B a E x) (hg : ∀ t M, ∃ r, g (.d t x) M = some (.d r z, M)) : Ev B (mUn g a) E z := fun Δ M S => by
  obtain ⟨t, M1, h1, s1⟩ := ha Δ M S
  obtain ⟨r, h3⟩ := hg t M1
  exact ⟨r, M1, by unfold mUn; rw [h1]; exact h3, s1⟩
theorem a_nil : EvA B [] E [] := fun Δ M S => ⟨[], M, rfl, .refl, .nil, fun k h => by cases h⟩
theorem a_cons {ms : List (Sm W)} {vs : List AV} (ha : Ev B a E x) (hr : EvA B ms E vs) : EvA B (a :: ms) E (.d x :: vs) := fun Δ M S => by
  obtain ⟨t, M1, h1, s1⟩ := ha Δ M S
  obtain ⟨ws, M2, h2, s2, h3, h4⟩ := hr Δ M1 (S.step s1)
  refine ⟨.d t x :: ws, M2, ?_, s1.trans s2, .cons rfl h3, fun k h => ?_⟩
  · show (match a Δ M with | some (x, M1) => (match mArgs ms Δ M1 with | some (xs, M2) => some (x :: xs, M2) | none => none) | none => none) = _
    rw [h1]
    simp only []
    rw [h2]
  · cases h with
    | tail _ h => exact (h4 k h).imp id fun h => List.mem_cons_of_mem _ h
/-- an own list is handed over -/
theorem a_lv {ms : List (Sm W)} {vs : List AV} {xs : List PD} (ha : E[i]? = some (some (.lv k xs))) (hr : EvA B ms E vs) : EvA B (mVar i :: ms) E (.d (.list xs) :: vs) := fun Δ M S => by
  obtain ⟨w, h1, h4⟩ := S.sl i _ ha
  obtain ⟨rfl, h5, h6⟩ := isV_lv h4
  obtain ⟨ws, M2, h2, s2, h3, h7⟩ := hr Δ M S
  refine ⟨.loc k :: ws, M2, ?_, s2, .cons (h6.step s2) h3, fun k' h => ?_⟩
  · show (match mVar i Δ M with | some (x, M1) => (match mArgs ms Δ M1 with | some (xs, M2) => some (x :: xs, M2) | none => none) | none => none) = _
    unfold mVar
    rw [h1]
    simp only []
    rw [h2]
  · cases h with
    | head => exact .inl ⟨i, xs, ha⟩
    | tail _ h => exact (h7 k' h).imp id fun h => List.mem_cons_of_mem _ h
theorem StepF.to {ws : List W} {vs : List AV} {M M' : MS} (h : StepF ws M M') (hp : ∀ k, Pl ws k → Lvw E k ∨ AV.loc k ∈ vs) (hv : ∀ k, AV.loc k ∉ vs) : Step E M M' :=
  ⟨h.len, fun k o e => (h.at_ k o e).imp id fun ⟨p, r⟩ => ⟨(hp k p).elim id fun z => absurd z (hv k), r⟩⟩
/-- no place among what is handed over -/
def noLoc : List AV → Bool
  | [] => true
  | .d _ :: r => noLoc r
  | .s _ :: r => noLoc r
  | .fn _ :: r => noLoc r
  | _ :: _ => false
theorem noLoc_ok : ∀ {vs : List AV}, noLoc vs = true → ∀ k, AV.loc k ∉ vs
  | [], _, k, h => by cases h
  | .d _ :: r, e, k, h => by
    cases h with
    | tail _ h => exact noLoc_ok (vs := r) e k h
  | .s _ :: r, e, k, h => by
    cases h with
    | tail _ h => exact noLoc_ok (vs := r) e k h
  | .fn _ :: r, e, k, h => by
    cases h with
    | tail _ h => exact noLoc_ok (vs := r) e k h
  | .loc _ :: r, e, k, h => by cases e
  | .ml _ _ :: r, e, k, h => by cases e
  | .lv _ _ :: r, e, k, h => by cases e
  | .md _ _ :: r, e, k, h => by cases e
theorem e_call {f : Fd} {ms : List (Sm W)} {vs : List AV} (hf : FnC f vs x) (ha : EvA B ms E vs) (hn : vs.length = n) (hl : noLoc vs = true := by rfl) : Ev B (mCall n f (mArgs ms)) E x := fun Δ M S => by
  obtain ⟨ws, M1, h1, s1, h2, h4⟩ := ha Δ M S
  obtain ⟨t, M2, h3, s2⟩ := hf ws M1 h2
  refine ⟨t, M2, ?_, s1.trans (s2.to h4 (noLoc_ok hl))⟩
  unfold mCall
  rw [h1]
  simp only [h2.length, hn, if_true]
  exact h3
theorem pl_pick {ws : List W} {pm : List Nat} {k : Nat} (h : Pl (pick pm ws) k) : Pl ws k := by
  unfold Pl Ek.pick at h
  obtain ⟨i, _, h⟩ := List.mem_filterMap.mp h
  exact List.mem_of_getElem? h
theorem e_callK {f : Fd} {ms ks : List (Sm W)} {us vs xs : List AV} {n0 nk : Nat} {pm : List Nat} (hf : FnC f xs x) (ha : EvA B ms E us) (hk : EvA B ks E vs) (h0 : us.length = n0) (h1 : vs.length = nk) (hx : us ++ pick pm vs = xs) (hn : xs.length = n) (hl : noLoc us = true := by rfl) (hl2 : noLoc vs = true := by rfl) : Ev B (mCallK n n0 nk pm f (mArgs ms) (mArgs ks)) E x := fun Δ M S => by
  obtain ⟨ws, M1, a1, s1, a2, a3⟩ := ha Δ M S
  obtain ⟨zs, M2, b1, s2, b2, b3⟩ := hk Δ M1 (S.step s1)
  subst hx
  have hd : DV M2 (ws ++ pick pm zs) (us ++ pick pm vs) := (a2.step s2).append (b2.pick pm)
  obtain ⟨t, M3, c3, s3⟩ := hf _ M2 hd
  have s4 : Step E M2 M3 := ⟨s3.len, fun k o e => (s3.at_ k o e).imp id fun ⟨p, r⟩ => ⟨by
    rcases List.mem_append.mp p with p | p
    · exact (a3 k p).elim id fun z => absurd z (noLoc_ok hl k)
    · exact (b3 k (pl_pick p)).elim id fun z => absurd z (noLoc_ok hl2 k), r⟩⟩
  refine ⟨t, M3, ?_, (s1.trans s2).trans s4⟩
  unfold mCallK
  rw [a1]
  simp only []
  rw [b1]
  have e : pickK n0 nk pm ws zs = ws ++ pick pm zs := by
    unfold pickK
    rw [if_pos ⟨by rw [a2.length, h0], by rw [b2.length, h1]⟩]
  simp only [e, hd.length, hn, if_true]
  exact c3
/-- a built-in over data alone -/
def FnB (f : Fd) (xs : List PD) (x : PD) : Prop := ∀ ts : List Bool, ts.length = xs.length → ∀ M, ∃ t, f ((ts.zip xs).map fun p => W.d p.1 p.2) M = some (.d t x, M)
theorem e_if {α : Type} (enc : α → PD) {u v : α} {k : Bool} (hc : EvT B p E k) (ha : k = true → Ev B a E (enc u)) (hb : k = false → Ev B b E (enc v)) : Ev B (mIf p a b) E (enc (if k = true then u else v)) := fun Δ M S => by
  obtain ⟨M1, h1, s1⟩ := hc Δ M S
  cases k with
  | true =>
    obtain ⟨t, M2, h2, s2⟩ := ha rfl Δ M1 (S.step s1)
    exact ⟨t, M2, by unfold mIf; rw [h1]; simp only [if_true]; exact h2, s1.trans s2⟩
  | false =>
    obtain ⟨t, M2, h2, s2⟩ := hb rfl Δ M1 (S.step s1)
    exact ⟨t, M2, by unfold mIf; rw [h1]; simp only [Bool.false_eq_true, if_false]; exact h2, s1.trans s2⟩
theorem t_B1 {k : Bool} (h : Ev B a E (.bool k)) : EvT B (tB1 a) E k := fun Δ M S => by
  obtain ⟨t, M1, h1, s1⟩ := h Δ M S
  exact ⟨M1, by unfold tB1; rw [h1], s1⟩
theorem t_true : EvT B tTrue E true := fun Δ M S => ⟨M, rfl, .refl⟩
theorem t_not {k : Bool} (h : EvT B p E k) : EvT B (tNot' p) E (!k) := fun Δ M S => by
  obtain ⟨M1, h1, s1⟩ := h Δ M S
  exact ⟨M1, by unfold tNot'; rw [h1], s1⟩
theorem t_and {k l : Bool} (h : EvT B p E k) (h' : k = true → EvT B q E l) : EvT B (tAnd' p q) E (k && l) := fun Δ M S => by
  obtain ⟨M1, h1, s1⟩ := h Δ M S
  cases k with
  | true =>
    obtain ⟨M2, h2, s2⟩ := h' rfl Δ M1 (S.step s1)
    exact ⟨M2, by unfold tAnd'; rw [h1]; simp only [if_true]; rw [h2]; simp, s1.trans s2⟩
  | false => exact ⟨M1, by unfold tAnd'; rw [h1]; simp, s1⟩
theorem t_or {k l : Bool} (h : EvT B p E k) (h' : k = false → EvT B q E l) : EvT B (tOr' p q) E (k || l) := fun Δ M S => by
  obtain ⟨M1, h1, s1⟩ := h Δ M S
  cases k with
  | false =>
    obtain ⟨M2, h2, s2⟩ := h' rfl Δ M1 (S.step s1)
    exact ⟨M2, by unfold tOr'; rw [h1]; simp only [Bool.false_eq_true, if_false]; rw [h2]; simp, s1.trans s2⟩
  | true => exact ⟨M1, by unfold tOr'; rw [h1]; simp, s1⟩
theorem e_and {k l : Bool} (h : Ev B a E (.bool k)) (h' : k = true → Ev B b E (.bool l)) : Ev B (mAnd a b) E (.bool (k && l)) := fun Δ M S => by
  obtain ⟨t, M1, h1, s1⟩ := h Δ M S
  cases k with
  | true =>
    obtain ⟨t2, M2, h2, s2⟩ := h' rfl Δ M1 (S.step s1)
    exact ⟨t2, M2, by unfold mAnd; rw [h1]; simp only [if_true]; rw [h2]; simp, s1.trans s2⟩
  | false => exact ⟨true, M1, by unfold mAnd; rw [h1]; simp, s1⟩
theorem e_or {k l : Bool} (h : Ev B a E (.bool k)) (h' : k = false → Ev B b E (.bool l)) : Ev B (mOr a b) E (.bool (k || l)) := fun Δ M S => by
  obtain ⟨t, M1, h1, s1⟩ := h Δ M S
  cases k with
  | false =>
    obtain ⟨t2, M2, h2, s2⟩ := h' rfl Δ M1 (S.step s1)
    exact ⟨t2, M2, by unfold mOr; rw [h1]; simp only [Bool.false_eq_true, if_false]; rw [h2]; simp, s1.trans s2⟩
  | true => exact ⟨true, M1, by unfold mOr; rw [h1]; simp, s1⟩
/-! displays -/
/-- all are data or own lists that are read -/
theorem fz_dv : ∀ {ws : List W} {xs : List PD} {M : MS}, DV M ws (xs.map AV.d) → ∃ t M', fzAll ws M = some (t, xs, M') ∧ StepF ws M M'
  | _, [], M, h => by cases h; exact ⟨true, M, rfl, ⟨Nat.le_refl _, fun _ _ h => .inl h⟩⟩
  | _, x :: xs, M, h => by
    cases h with
    | @cons w ws _ _ h1 h2 =>
      cases w with
      | d t y =>
        cases h1
        obtain ⟨s, M', h3, s3⟩ := fz_dv (M := M) h2
        exact ⟨t && s, M', by simp [fzAll, fz1, h3], s3.len, fun k o e => (s3.at_ k o e).imp id fun ⟨p, r⟩ => ⟨List.mem_cons_of_mem _ p, r⟩⟩
      | s ys => cases h1
      | fn y => cases h1
      | loc k =>
        cases x with
        | list ys =>
          obtain ⟨t, hk | hk⟩ := h1
          · have hlt : k < M.length := (List.getElem?_eq_some_iff.mp hk).1
            have s1 : StepF [W.loc k] M (M.set k (.fzn t ys)) := ⟨by simp, fun k' o e => by
              by_cases hkk : k = k'
              · subst hkk
                rw [hk] at e
                cases e
                exact .inr ⟨List.mem_singleton.mpr rfl, t, ys, rfl, by simp [hlt]⟩
              · exact .inl (by rw [List.getElem?_set, if_neg hkk]; exact e)⟩
            have st : Step ([some (.lv k ys)] : AE) M (M.set k (.fzn t ys)) := ⟨s1.len, fun k' o e => (s1.at_ k' o e).imp id fun ⟨p, r⟩ => ⟨by
              have : k' = k := by
                have := List.mem_singleton.mp p
                cases this; rfl
              subst this
              exact ⟨0, ys, rfl⟩, r⟩⟩
            obtain ⟨s, M', h3, s3⟩ := fz_dv (M := M.set k (.fzn t ys)) (h2.step st)
            refine ⟨t && s, M', by simp [fzAll, fz1, hk, h3], Nat.le_trans s1.len s3.len, fun k' o e => ?_⟩
            rcases s1.at_ k' o e with e1 | ⟨p, t1, xs1, rfl, e1⟩
            · exact (s3.at_ k' o e1).imp id fun ⟨p, r⟩ => ⟨List.mem_cons_of_mem _ p, r⟩
            · rcases s3.at_ k' _ e1 with e2 | ⟨p2, t2, xs2, e3, _⟩
              · exact .inr ⟨by have := List.mem_singleton.mp p; rw [Pl, this]; exact List.mem_cons_self, t1, xs1, rfl, e2⟩
              · cases e3
          · obtain ⟨s, M', h3, s3⟩ := fz_dv (M := M) h2
            exact ⟨t && s, M', by simp [fzAll, fz1, hk, h3], s3.len, fun k o e => (s3.at_ k o e).imp id fun ⟨p, r⟩ => ⟨List.mem_cons_of_mem _ p, r⟩⟩
        | _ => cases h1
theorem noLoc_map : ∀ xs : List PD, noLoc (xs.map AV.d) = true
  | [] => rfl
  | x :: xs => noLoc_map xs
theorem e_tup {ms : List (Sm W)} {xs : List PD} {vs : List AV} (h : EvA B ms E vs) (e : vs = xs.map AV.d) (hl : xs.length ≤ 1000) : Ev B (mTup (mArgs ms)) E (.tuple xs) := fun Δ M S => by
  subst e
  obtain ⟨ws, M1, h1, s1, h2, h4⟩ := h Δ M S
  obtain ⟨t, M2, h3, s2⟩ := fz_dv h2
  exact ⟨t, M2, by unfold mTup; rw [h1]; simp only [h3, if_pos hl], s1.trans (s2.to h4 (noLoc_ok (noLoc_map xs)))⟩
theorem l_lst {ms : List (Sm W)} {xs : List PD} {vs : List AV} (h : EvA B ms E vs) (e : vs = xs.map AV.d) (hl : xs.length ≤ 1000) : EvL B (mLst (mArgs ms)) E xs := fun Δ M S => by
  subst e
  obtain ⟨ws, M1, h1, s1, h2, h4⟩ := h Δ M S
  obtain ⟨t, M2, h3, s2⟩ := fz_dv h2
  exact ⟨t, M2, by unfold mLst; rw [h1]; simp only [h3, if_pos hl], s1.trans (s2.to h4 (noLoc_ok (noLoc_map xs)))⟩
theorem e_old {xs : List PD} (h : EvL B it E xs) : Ev B (mOld it) E (.list xs) := fun Δ M S => by
  obtain ⟨t, M1, h1, s1⟩ := h Δ M S
  exact ⟨t, M1, by unfold mOld; rw [h1], s1⟩
theorem l_itemsL {xs : List PD} (h : Ev B a E (.list xs)) : EvL B (mItems a) E xs := fun Δ M S => by
  obtain ⟨t, M1, h1, s1⟩ := h Δ M S
  exact ⟨t, M1, by unfold mItems; rw [h1]; rfl, s1⟩
theorem l_itemsT {xs : List PD} (h : Ev B a E (.tuple xs)) : EvL B (mItems a) E xs := fun Δ M S => by
  obtain ⟨t, M1, h1, s1⟩ := h Δ M S
  exact ⟨t, M1, by unfold mItems; rw [h1]; rfl, s1⟩
/-- a read list comes to stand still -/
theorem fz_step {M : MS} {t : Bool} {xs : List PD} (hl : Lvw E k) (h : M[k]? = some (.lst t xs)) : Step E M (M.set k (.fzn t xs)) := by
  have hlt : k < M.length := (List.getElem?_eq_some_iff.mp h).1
  refine ⟨by simp, fun k' o e => ?_⟩
  by_cases hkk : k = k'
  · subst hkk
    rw [h] at e
    cases e
    exact .inr ⟨hl, t, xs, rfl, by simp [hlt]⟩
  · exact .inl (by rw [List.getElem?_set, if_neg hkk]; exact e)
theorem l_itemsM {xs : List PD} (h : E[i]? = some (some (.lv k xs))) : EvL B (mItems (mVar i)) E xs := fun Δ M S => by
  obtain ⟨w, h1, h4⟩ := S.sl i _ h
  obtain ⟨rfl, h5, t, h6 | h6⟩ := isV_lv h4
  · exact ⟨t, _, by unfold mItems mVar; rw [h1]; simp only [fzQ, h6], fz_step ⟨i, xs, h⟩ h6⟩
  · exact ⟨t, M, by unfold mItems mVar; rw [h1]; simp only [fzQ, h6], .refl⟩
/-- ints from one to below the other -/
def rng (a b : Int) : List Int := (List.range (b - a).toNat).map fun (i : Nat) => a + (i : Int)
theorem rngD (a b : Int) : rangeD a (b - a).toNat = (rng a b).map PyData.int := by
  unfold rangeD rng
  rw [List.map_map]
  rfl
theorem l_range1 {n : Int} (h : Ev B a E (.int n)) (hl : -(2 ^ 62) ≤ n ∧ n < 2 ^ 62) : EvL B (mRange1 (mArgs [a])) E ((rng 0 n).map PyData.int) := fun Δ M S => by
  obtain ⟨t, M1, h1, s1⟩ := h Δ M S
  refine ⟨true, M1, ?_, s1⟩
  unfold mRange1 mArgs
  rw [h1]
  simp only [mArgs, if_pos hl]
  rw [← rngD]
  simp
theorem l_range2 {m n : Int} (h : Ev B a E (.int m)) (h' : Ev B b E (.int n)) (hl : -(2 ^ 62) ≤ m ∧ m < 2 ^ 62 ∧ -(2 ^ 62) ≤ n ∧ n < 2 ^ 62) : EvL B (mRange2 (mArgs [a, b])) E ((rng m n).map PyData.int) := fun Δ M S => by
  obtain ⟨t, M1, h1, s1⟩ := h Δ M S
  obtain ⟨s, M2, h2, s2⟩ := h' Δ M1 (S.step s1)
  refine ⟨true, M2, ?_, s1.trans s2⟩
  unfold mRange2 mArgs mArgs
  rw [h1]
  simp only []
  rw [h2]
  simp only [mArgs, if_pos hl]
  rw [← rngD]
/-! targets -/
def TgA (g : Tg) (x : PD) (E E' : AE) : Prop := (∀ k, Lvw E' k → Lvw E k) ∧ ∀ B t Δ M, Sat B E Δ M → ∃ Δ', g t x Δ = some Δ' ∧ Sat B E' Δ' M
def TgsA (g : Tgs) (xs : List PD) (E E' : AE) : Prop := (∀ k, Lvw E' k → Lvw E k) ∧ ∀ B t Δ M, Sat B E Δ M → ∃ Δ', g t xs Δ = some Δ' ∧ Sat B E' Δ' M
theorem g_nm : TgA (gNm i) x E (E.set i (some (.d x))) := ⟨fun k h => lvw_set (fun _ e => by cases e) h, fun B t Δ M S => ⟨_, rfl, sat_set S i ⟨_, rfl⟩⟩⟩
theorem g_tp {r : Tgs} {xs : List PD} (h : TgsA r xs E E') : TgA (gTp r) (.tuple xs) E E' := h
theorem gs_nil : TgsA gsNil [] E E := ⟨fun _ h => h, fun B t Δ M S => ⟨Δ, rfl, S⟩⟩
theorem gs_cons {g : Tg} {r : Tgs} {xs : List PD} {E1 : AE} (h : TgA g x E E1) (h' : TgsA r xs E1 E') : TgsA (gsCons g r) (x :: xs) E E' := ⟨fun k l => h.1 k (h'.1 k l), fun B t Δ M S => by
  obtain ⟨Δ1, h1, S1⟩ := h.2 B t Δ M S
  obtain ⟨Δ2, h2, S2⟩ := h'.2 B t Δ1 M S1
  exact ⟨Δ2, by show (match g t x Δ with | some Δ1 => r t xs Δ1 | none => none) = _; rw [h1]; exact h2, S2⟩⟩
/-! comprehensions -/
theorem lc_go {α β : Type} (enc : α → PD) (encb : β → PD) (l : List α) (c : α → Bool) (f : α → β) {tt : Sm Bool} {te : Sm W} (h : ∀ z, z ∈ l → ∃ E', TgA g (enc z) E E' ∧ EvT B tt E' (c z) ∧ (c z = true → Ev B te E' (encb (f z)))) (t : Bool) (Δ : Sl) : ∀ M, Sat B E Δ M → ∃ s M', lcGo t g tt te Δ (l.map enc) M = some ((s, ((l.filter c).map f).map encb), M') ∧ Step E M M' := by
  induction l with
  | nil => exact fun M S => ⟨true, M, by simp [lcGo], .refl⟩
  | cons z l ih =>
    intro M S
    obtain ⟨E', h1, h2, h3⟩ := h z List.mem_cons_self
    obtain ⟨Δ1, g1, S1⟩ := h1.2 B t Δ M S
    obtain ⟨M1, k1, s1⟩ := h2 Δ1 M S1
    have s1' := s1.mono h1.1
    have ih := ih fun z hz => h z (List.mem_cons_of_mem _ hz)
    cases hc : c z with
    | true =>
      obtain ⟨s, M2, k2, s2⟩ := h3 hc Δ1 M1 (S1.step s1)
      have s2' := s2.mono h1.1
      obtain ⟨s', M3, k3, s3⟩ := ih M2 ((S.step s1').step s2')
      rw [hc] at k1
      refine ⟨s && s', M3, ?_, (s1'.trans s2').trans s3⟩
      simp only [List.map_cons, lcGo, g1, k1]
      rw [k2]
      simp only [fz1]
      rw [k3]
      simp [hc]
    | false =>
      obtain ⟨s', M3, k3, s3⟩ := ih M1 (S.step s1')
      rw [hc] at k1
      refine ⟨s', M3, ?_, s1'.trans s3⟩
      simp only [List.map_cons, lcGo, g1, k1]
      rw [k3]
      simp [hc]
theorem l_lcf {α β : Type} (enc : α → PD) (encb : β → PD) {l : List α} (c : α → Bool) (f : α → β) {tt : Sm Bool} {te : Sm W} {vs : List Nat} (hi : EvL B it E (l.map enc)) (hl : l.length ≤ 100000) (h : ∀ z, z ∈ l → ∃ E', TgA g (enc z) (wipeA E vs) E' ∧ EvT B tt E' (c z) ∧ (c z = true → Ev B te E' (encb (f z)))) : EvL B (mLc it g tt te vs) E (((l.filter c).map f).map encb) := fun Δ M S => by
  obtain ⟨t, M1, h1, s1⟩ := hi Δ M S
  obtain ⟨s, M2, h2, s2⟩ := lc_go enc encb l c f h t (wipeD Δ vs) M1 (sat_wipe (S.step s1) vs)
  refine ⟨s, M2, ?_, s1.trans (s2.mono fun k => lv_wipe)⟩
  unfold mLc
  rw [h1]
  simp only []
  rw [if_pos (by simpa using hl), h2]
theorem l_lcm {α β : Type} (enc : α → PD) (encb : β → PD) {l : List α} (f : α → β) {te : Sm W} {vs : List Nat} (hi : EvL B it E (l.map enc)) (hl : l.length ≤ 100000) (h : ∀ z, z ∈ l → ∃ E', TgA g (enc z) (wipeA E vs) E' ∧ Ev B te E' (encb (f z))) : EvL B (mLc it g tTrue te vs) E ((l.map f).map encb) := by
  have := l_lcf (tt := tTrue) enc encb (fun _ => true) f hi hl (fun z hz => by
    obtain ⟨E', h1, h2⟩ := h z hz
    exact ⟨E', h1, t_true, fun _ => h2⟩)
  rwa [List.filter_eq_self.mpr (fun _ _ => rfl)] at this
/-! statements -/
inductive Oc where
  | nx (E : AE) | rt (x : PD) | bk (E : AE) | ct (E : AE)
def Mt (B : Bs) : Fl → Sl → MS → Oc → Prop
  | .nx, Δ, M, .nx E => Sat B E Δ M
  | .bk, Δ, M, .bk E => Sat B E Δ M
  | .ct, Δ, M, .ct E => Sat B E Δ M
  | .rt w, _, M, .rt x => (∃ t, w = .d t x) ∧ B.P M
  | _, _, _, _ => False
def EvS (B : Bs) (s : Ss) (E : AE) (o : Oc) : Prop := ∀ Δ M, Sat B E Δ M → ∃ f Δ' M', s Δ M = some (f, Δ', M') ∧ Mt B f Δ' M' o
variable {s t r : Ss} {o : Oc}
theorem s_next (w : WkE E E') : EvS B sNext E (.nx E') := fun Δ M S => ⟨.nx, Δ, M, rfl, sat_wk w S⟩
theorem s_nextI : EvS B sNext E (.nx E) := fun Δ M S => ⟨.nx, Δ, M, rfl, S⟩
theorem s_break (w : WkE E E') : EvS B (sSeq sBreak t) E (.bk E') := fun Δ M S => ⟨.bk, Δ, M, rfl, sat_wk w S⟩
theorem s_wk (w : WkE E E') (h : EvS B s E' o) : EvS B s E o := fun Δ M S => h Δ M (sat_wk w S)
theorem s_seq {E1 : AE} (h : EvS B s E (.nx E1)) (h' : EvS B t E1 o) : EvS B (sSeq s t) E o := fun Δ M S => by
  obtain ⟨f, Δ1, M1, h1, m1⟩ := h Δ M S
  cases f with
  | nx =>
    obtain ⟨f2, Δ2, M2, h2, m2⟩ := h' Δ1 M1 m1
    exact ⟨f2, Δ2, M2, by unfold sSeq; rw [h1]; exact h2, m2⟩
  | rt w => cases m1
  | bk => cases m1
  | ct => cases m1
theorem s_seqR {x : PD} (h : EvS B s E (.rt x)) : EvS B (sSeq s t) E (.rt x) := fun Δ M S => by
  obtain ⟨f, Δ1, M1, h1, m1⟩ := h Δ M S
  cases f with
  | rt w => exact ⟨.rt w, Δ1, M1, by unfold sSeq; rw [h1], m1⟩
  | nx => cases m1
  | bk => cases m1
  | ct => cases m1
theorem s_assoc (h : EvS B (sSeq s (sSeq t r)) E o) : EvS B (sSeq (sSeq s t) r) E o := fun Δ M S => by
  obtain ⟨f, Δ1, M1, h1, m1⟩ := h Δ M S
  refine ⟨f, Δ1, M1, ?_, m1⟩
  rw [← h1]
  unfold sSeq
  cases s Δ M with
  | none => rfl
  | some u => obtain ⟨f, Δ2, M2⟩ := u; cases f <;> rfl
theorem s_ret (h : Ev B a E x) : EvS B (sSeq (sRet a) t) E (.rt x) := s_seqR fun Δ M S => by
  obtain ⟨u, M1, h1, s1⟩ := h Δ M S
  exact ⟨.rt (.d u x), Δ, M1, by unfold sRet; rw [h1]; rfl, ⟨_, rfl⟩, (S.step s1).base⟩
theorem s_retM {xs : List PD} (h : E[i]? = some (some (.lv k xs))) : EvS B (sSeq (sRet (mVar i)) t) E (.rt (.list xs)) := s_seqR fun Δ M S => by
  obtain ⟨w, h1, h4⟩ := S.sl i _ h
  obtain ⟨rfl, h5, u, h6 | h6⟩ := isV_lv h4
  · exact ⟨.rt (.d u (.list xs)), Δ, _, by unfold sRet mVar; rw [h1]; simp only [fz1, h6], ⟨_, rfl⟩, (S.step (fz_step ⟨i, xs, h⟩ h6)).base⟩
  · exact ⟨.rt (.d u (.list xs)), Δ, M, by unfold sRet mVar; rw [h1]; simp only [fz1, h6], ⟨_, rfl⟩, S.base⟩
theorem s_drop (h : Ev B a E x) (h' : EvS B t E o) : EvS B (sSeq (sDrop a) t) E o := s_seq (E1 := E) (fun Δ M S => by
  obtain ⟨u, M1, h1, s1⟩ := h Δ M S
  exact ⟨.nx, Δ, M1, by unfold sDrop; rw [h1], S.step s1⟩) h'
theorem s_set (h : Ev B a E x) (h' : EvS B t (E.set i (some (.d x))) o) : EvS B (sSeq (sSet i a) t) E o := s_seq (fun Δ M S => by
  obtain ⟨u, M1, h1, s1⟩ := h Δ M S
  exact ⟨.nx, _, M1, by unfold sSet; rw [h1], sat_set (S.step s1) i ⟨_, rfl⟩⟩) h'
/-- a new own list -/
theorem sat_new {M : MS} {Δ : Sl} {u : Bool} {xs : List PD} (S : Sat B E Δ M) (i : Nat) : Sat B (E.set i (some (.ml M.length xs))) (Δ.set i (some (.loc M.length))) (M ++ [.lst u xs]) := by
  have S1 := S.step (Step.app (E := E) [.lst u xs])
  have hk : ∀ (j : Nat) (v : AV), E[j]? = some (some v) → plc v ≠ some M.length := by
    intro j v hv hp
    obtain ⟨w, _, h2⟩ := S.sl j v hv
    cases v with
    | ml k ys =>
      obtain ⟨_, _, t, h3⟩ := isV_ml h2
      have := (List.getElem?_eq_some_iff.mp h3).1
      cases hp
      omega
    | lv k ys =>
      obtain ⟨_, _, t, h3 | h3⟩ := isV_lv h2
      · have := (List.getElem?_eq_some_iff.mp h3).1
        cases hp
        omega
      · have := (List.getElem?_eq_some_iff.mp h3).1
        cases hp
        omega
    | md k ys =>
      obtain ⟨_, _, h3⟩ := isV_md h2
      have := (List.getElem?_eq_some_iff.mp h3).1
      cases hp
      omega
    | d x => cases hp
    | loc n => cases hp
    | s xs => cases hp
    | fn y => cases hp
  refine ⟨by simp [S.len], S1.base, fun j v hv => ?_, fun a b k u' v hab ha hu hb => ?_⟩
  · rw [List.getElem?_set] at hv ⊢
    split at hv
    · rename_i e
      subst e
      split at hv
      · rename_i l
        cases hv
        rw [if_pos rfl, if_pos (by rw [S.len]; exact l)]
        exact ⟨_, rfl, rfl, B.le M S.base, u, by simp⟩
      · cases hv
    · rename_i e
      rw [if_neg e]
      exact S1.sl j v hv
  · rw [List.getElem?_set] at ha hb
    split at ha
    · split at ha
      · cases ha
        rename_i e _
        rw [if_neg (by omega)] at hb
        cases hu
        exact hk b v hb
      · cases ha
    · split at hb
      · split at hb
        · cases hb
          intro h
          cases h
          exact hk a _ ha (by cases u' <;> first | exact hu | cases hu)
        · cases hb
      · exact S.nd a b k u' v hab ha hu hb
theorem s_new {xs : List PD} (h : EvL B it E xs) (h' : ∀ k, EvS B t (E.set i (some (.ml k xs))) o) : EvS B (sSeq (sSet i (mNew it)) t) E o := fun Δ M S => by
  obtain ⟨u, M1, h1, s1⟩ := h Δ M S
  obtain ⟨f, Δ2, M2, h2, m2⟩ := h' M1.length _ _ (sat_new (u := u) (xs := xs) (S.step s1) i)
  refine ⟨f, Δ2, M2, ?_, m2⟩
  unfold sSeq sSet mNew
  rw [h1]
  exact h2
/-- an own list grows -/
theorem sat_upd {M : MS} {Δ : Sl} {u : Bool} {xs ys : List PD} (S : Sat B E Δ M) (h : E[i]? = some (some (.ml k xs))) : Sat B (E.set i (some (.ml k ys))) Δ (M.set k (.lst u ys)) := by
  obtain ⟨w, h1, h4⟩ := S.sl i _ h
  obtain ⟨rfl, h5, u', h6⟩ := isV_ml h4
  have hlt : k < M.length := (List.getElem?_eq_some_iff.mp h6).1
  have hi : i < E.length := (List.getElem?_eq_some_iff.mp h).1
  refine ⟨by simp [S.len], B.up M _ S.base (by simp) (fun k' hk' => by rw [List.getElem?_set, if_neg (by omega)]), fun j v hv => ?_, fun a b k' u2 v hab ha hu2 hb => ?_⟩
  · rw [List.getElem?_set] at hv
    split at hv
    · rename_i e
      subst e
      first
        | cases hv
        | (rw [if_pos hi] at hv; cases hv)
      exact ⟨_, h1, rfl, h5, u, by simp [hlt]⟩
    · rename_i e
      obtain ⟨w, h7, h8⟩ := S.sl j v hv
      refine ⟨w, h7, ?_⟩
      have hp := S.nd i j k _ v e h rfl hv
      cases v with
      | d x => obtain ⟨t, rfl⟩ := isV_d h8; rfl
      | loc m => have := isV_loc h8; subst this; rfl
      | s zs => have := isV_s h8; subst this; rfl
      | fn y => have := isV_fn h8; subst this; rfl
      | ml k' zs =>
        obtain ⟨rfl, h9, t, h10⟩ := isV_ml h8
        have : k ≠ k' := fun e => hp (by rw [e]; rfl)
        exact ⟨rfl, h9, t, by rw [List.getElem?_set, if_neg this]; exact h10⟩
      | lv k' zs =>
        obtain ⟨rfl, h9, t, h10⟩ := isV_lv h8
        have : k ≠ k' := fun e => hp (by rw [e]; rfl)
        exact ⟨rfl, h9, t, by rw [List.getElem?_set, if_neg this]; exact h10⟩
      | md k' zs =>
        obtain ⟨rfl, h9, h10⟩ := isV_md h8
        have : k ≠ k' := fun e => hp (by rw [e]; rfl)
        exact ⟨rfl, h9, by rw [List.getElem?_set, if_neg this]; exact h10⟩
  · rw [List.getElem?_set] at ha hb
    split at ha
    · rename_i e
      subst e
      first
        | cases ha
        | (rw [if_pos hi] at ha; cases ha)
      rw [if_neg hab] at hb
      cases hu2
      exact S.nd i b k _ v hab h rfl hb
    · split at hb
      · rename_i e1 e2
        subst e2
        first
          | cases hb
          | (rw [if_pos hi] at hb; cases hb)
        have := S.nd a i k' _ _ hab ha hu2 h
        exact this
      · exact S.nd a b k' _ v hab ha hu2 hb
theorem s_app {xs : List PD} (h : E[i]? = some (some (.ml k xs))) (he : Ev B a E x) (hl : xs.length ≤ 100000) (h' : EvS B t (E.set i (some (.ml k (xs ++ [x])))) o) : EvS B (sSeq (sDrop (mApp (mVar i) a)) t) E o := fun Δ M S => by
  obtain ⟨w, h1, h4⟩ := S.sl i _ h
  obtain ⟨rfl, h5, u, h6⟩ := isV_ml h4
  obtain ⟨v, M1, h2, s1⟩ := he Δ M S
  have S1 := S.step s1
  obtain ⟨w', h1', h4'⟩ := S1.sl i _ h
  obtain ⟨e, _, u', h7⟩ := isV_ml h4'
  obtain ⟨f, Δ2, M2, h8, m2⟩ := h' _ _ (sat_upd (u := u' && v) (ys := xs ++ [x]) S1 h)
  refine ⟨f, Δ2, M2, ?_, m2⟩
  rw [← h8]
  have e : mApp (mVar i) a Δ M = some (.d true .none, M1.set k (.lst (u' && v) (xs ++ [x]))) := by
    unfold mApp mVar
    rw [h1]
    simp only [h6]
    rw [h2]
    simp only [fz1, h7, if_pos hl]
  unfold sSeq sDrop
  rw [e]
theorem s_par (h : Ev B a E x) (h' : Ev B b E y) (h2 : EvS B t ((E.set i (some (.d x))).set j (some (.d y))) o) : EvS B (sSeq (sPar i j (mArgs [a, b])) t) E o := s_seq (fun Δ M S => by
  obtain ⟨u, M1, h1, s1⟩ := h Δ M S
  obtain ⟨v, M2, h3, s2⟩ := h' Δ M1 (S.step s1)
  refine ⟨.nx, _, M2, ?_, sat_set (sat_set ((S.step s1).step s2) i ⟨u, rfl⟩) j ⟨v, rfl⟩⟩
  unfold sPar mArgs mArgs mArgs
  rw [h1]
  simp only []
  rw [h3]) h2
theorem s_par3 (h : Ev B a E x) (h' : Ev B b E y) (h'' : Ev B c E z) (h2 : EvS B t (((E.set i (some (.d x))).set j (some (.d y))).set k (some (.d z))) o) : EvS B (sSeq (sPar3 i j k (mArgs [a, b, c])) t) E o := s_seq (fun Δ M S => by
  obtain ⟨u, M1, h1, s1⟩ := h Δ M S
  obtain ⟨v, M2, h3, s2⟩ := h' Δ M1 (S.step s1)
  obtain ⟨w, M3, h4, s3⟩ := h'' Δ M2 ((S.step s1).step s2)
  refine ⟨.nx, _, M3, ?_, sat_set (sat_set (sat_set (((S.step s1).step s2).step s3) i ⟨u, rfl⟩) j ⟨v, rfl⟩) k ⟨w, rfl⟩⟩
  unfold sPar3 mArgs mArgs mArgs mArgs
  rw [h1]
  simp only []
  rw [h3]
  simp only []
  rw [h4]) h2
theorem s_asg {g : Tg} (h : Ev B a E x) (hg : TgA g x E E') (h' : EvS B t E' o) : EvS B (sSeq (sAsg g a) t) E o := s_seq (fun Δ M S => by
  obtain ⟨u, M1, h1, s1⟩ := h Δ M S
  obtain ⟨Δ1, h2, S1⟩ := hg.2 B u Δ M1 (S.step s1)
  exact ⟨.nx, Δ1, M1, by unfold sAsg; rw [h1]; simp only [fz1, h2], S1⟩) h'
theorem s_if {α : Type} (F : α → Oc) {u v : α} {k : Bool} (hc : EvT B p E k) (ha : k = true → EvS B (sSeq s r) E (F u)) (hb : k = false → EvS B (sSeq t r) E (F v)) : EvS B (sSeq (sIf p s t) r) E (F (if k = true then u else v)) := fun Δ M S => by
  obtain ⟨M1, h1, s1⟩ := hc Δ M S
  cases k with
  | true =>
    obtain ⟨f, Δ2, M2, h2, m2⟩ := ha rfl Δ M1 (S.step s1)
    refine ⟨f, Δ2, M2, ?_, m2⟩
    rw [← h2]
    unfold sSeq sIf
    rw [h1]
    rfl
  | false =>
    obtain ⟨f, Δ2, M2, h2, m2⟩ := hb rfl Δ M1 (S.step s1)
    refine ⟨f, Δ2, M2, ?_, m2⟩
    rw [← h2]
    unfold sSeq sIf
    rw [h1]
    rfl
theorem s_skip (h : EvS B r E o) : EvS B (sSeq sNext r) E o := s_seq s_nextI h
/-- a loop to its end -/
theorem s_forN {α σ : Type} (enc : α → PD) (l : List α) (Es : σ → AE) (step : σ → α → σ) (s0 : σ) (hi : EvL B it E (l.map enc)) (hw : WkE E (Es s0))
    (h : ∀ done z rest, l = done ++ z :: rest → ∀ u, u = done.foldl step s0 → ∃ E', TgA g (enc z) (Es u) E' ∧ EvS B s E' (.nx (Es (step u z)))) : EvS B (sFor it g s) E (.nx (Es (l.foldl step s0))) := fun Δ M S => by
  obtain ⟨t, M1, h1, s1⟩ := hi Δ M S
  suffices hs : ∀ rest done, l = done ++ rest → ∀ Δ M, Sat B (Es (done.foldl step s0)) Δ M → ∃ Δ' M', forGo t g s (rest.map enc) Δ M = some (.nx, Δ', M') ∧ Sat B (Es (l.foldl step s0)) Δ' M' by
    obtain ⟨Δ', M2, h2, S2⟩ := hs l [] rfl Δ M1 (sat_wk hw (S.step s1))
    exact ⟨.nx, Δ', M2, by unfold sFor; rw [h1]; exact h2, S2⟩
  intro rest
  induction rest with
  | nil =>
    intro done e Δ M S
    refine ⟨Δ, M, by simp [forGo], ?_⟩
    rw [e, List.append_nil]
    exact S
  | cons z rest ih =>
    intro done e Δ M S
    obtain ⟨E', h2, h3⟩ := h done z rest e _ rfl
    obtain ⟨Δ1, g1, S1⟩ := h2.2 B t Δ M S
    obtain ⟨f, Δ2, M2, k1, m1⟩ := h3 Δ1 M S1
    cases f with
    | nx =>
      obtain ⟨Δ3, M3, k3, S3⟩ := ih (done ++ [z]) (by simp [e]) Δ2 M2 (by rw [List.foldl_append]; exact m1)
      refine ⟨Δ3, M3, ?_, S3⟩
      simp [forGo, g1, k1]
      exact k3
    | rt w => cases m1
    | bk => cases m1
    | ct => cases m1
theorem s_for {α σ : Type} (enc : α → PD) (l : List α) (Es : σ → AE) (step : σ → α → σ) (s0 : σ) (hi : EvL B it E (l.map enc)) (hw : WkE E (Es s0))
    (h : ∀ done z rest, l = done ++ z :: rest → ∀ u, u = done.foldl step s0 → ∃ E', TgA g (enc z) (Es u) E' ∧ EvS B s E' (.nx (Es (step u z))))
    (h' : EvS B r (Es (l.foldl step s0)) o) : EvS B (sSeq (sFor it g s) r) E o := s_seq (s_forN enc l Es step s0 hi hw h) h'
/-- a loop that may return -/
def foldR {α σ β : Type} (step : σ → α → σ ⊕ β) : List α → σ → σ ⊕ β
  | [], u => .inl u
  | z :: l, u => match step u z with
    | .inl v => foldR step l v
    | .inr b => .inr b
theorem foldR_app {α σ β : Type} (step : σ → α → σ ⊕ β) (l m : List α) (u : σ) : foldR step (l ++ m) u = (match foldR step l u with
    | .inl v => foldR step m v
    | .inr b => .inr b) := by
  induction l generalizing u with
  | nil => rfl
  | cons z l ih =>
    show (match step u z with | .inl v => foldR step (l ++ m) v | .inr b => .inr b) = _
    show _ = (match (match step u z with | .inl v => foldR step l v | .inr b => .inr b) with | .inl v => foldR step m v | .inr b => .inr b)
    cases step u z with
    | inl v => exact ih v
    | inr b => rfl
def ocR {σ β : Type} (Es : σ → AE) (encr : β → PD) : σ ⊕ β → Oc
  | .inl u => .nx (Es u)
  | .inr b => .rt (encr b)
def endR {σ β : Type} (k : σ → β) : σ ⊕ β → β
  | .inl u => k u
  | .inr b => b
theorem s_forR {α σ β : Type} (enc : α → PD) (encr : β → PD) (l : List α) (Es : σ → AE) (step : σ → α → σ ⊕ β) (s0 : σ) (k : σ → β) (hi : EvL B it E (l.map enc)) (hw : WkE E (Es s0))
    (h : ∀ done z rest, l = done ++ z :: rest → ∀ u, foldR step done s0 = .inl u → ∃ E', TgA g (enc z) (Es u) E' ∧ EvS B s E' (ocR Es encr (step u z)))
    (h' : ∀ u, foldR step l s0 = .inl u → EvS B r (Es u) (.rt (encr (k u)))) : EvS B (sSeq (sFor it g s) r) E (.rt (encr (endR k (foldR step l s0)))) := fun Δ M S => by
  obtain ⟨t, M1, h1, s1⟩ := hi Δ M S
  suffices hs : ∀ rest done, l = done ++ rest → ∀ Δ M u, foldR step done s0 = .inl u → Sat B (Es u) Δ M → ∃ f Δ' M', forGo t g s (rest.map enc) Δ M = some (f, Δ', M') ∧ Mt B f Δ' M' (ocR Es encr (foldR step l s0)) by
    obtain ⟨f, Δ', M2, h2, m2⟩ := hs l [] rfl Δ M1 s0 rfl (sat_wk hw (S.step s1))
    have hf : sFor it g s Δ M = some (f, Δ', M2) := by unfold sFor; rw [h1]; exact h2
    cases hr : foldR step l s0 with
    | inl u =>
      rw [hr] at m2
      cases f with
      | nx =>
        obtain ⟨f3, Δ3, M3, h3, m3⟩ := h' u hr Δ' M2 m2
        exact ⟨f3, Δ3, M3, by unfold sSeq; rw [hf]; exact h3, m3⟩
      | rt w => cases m2
      | bk => cases m2
      | ct => cases m2
    | inr b =>
      rw [hr] at m2
      cases f with
      | rt w => exact ⟨.rt w, Δ', M2, by unfold sSeq; rw [hf], m2⟩
      | nx => cases m2
      | bk => cases m2
      | ct => cases m2
  intro rest
  induction rest with
  | nil =>
    intro done e Δ M u hu S
    refine ⟨.nx, Δ, M, by simp [forGo], ?_⟩
    rw [e, List.append_nil, hu]
    exact S
  | cons z rest ih =>
    intro done e Δ M u hu S
    obtain ⟨E', h2, h3⟩ := h done z rest e u hu
    obtain ⟨Δ1, g1, S1⟩ := h2.2 B t Δ M S
    obtain ⟨f, Δ2, M2, k1, m1⟩ := h3 Δ1 M S1
    have e2 : foldR step (done ++ [z]) s0 = step u z := by
      rw [foldR_app, hu]
      show (match step u z with | .inl v => (Sum.inl v : σ ⊕ β) | .inr b => .inr b) = _
      cases step u z <;> rfl
    cases hz : step u z with
    | inl v =>
      rw [hz] at m1 e2
      cases f with
      | nx =>
        obtain ⟨f3, Δ3, M3, k3, m3⟩ := ih (done ++ [z]) (by simp [e]) Δ2 M2 v e2 m1
        refine ⟨f3, Δ3, M3, ?_, m3⟩
        simp [forGo, g1, k1]
        exact k3
      | rt w => cases m1
      | bk => cases m1
      | ct => cases m1
    | inr b =>
      rw [hz] at m1 e2
      have e3 : foldR step l s0 = .inr b := by
        rw [e, show done ++ z :: rest = (done ++ [z]) ++ rest by simp, foldR_app, e2]
      rw [e3]
      cases f with
      | rt w => exact ⟨.rt w, Δ2, M2, by simp [forGo, g1, k1], m1⟩
      | nx => cases m1
      | bk => cases m1
      | ct => cases m1
/-! defs -/
def flg : AV → Bool
  | .d _ => true
  | .fn _ => true
  | _ => false
/-- what a def may be handed over -/
def given : AV → Bool
  | .d _ => true
  | .loc _ => true
  | .s _ => true
  | .fn _ => true
  | _ => false
theorem StepF.refl {ws : List W} {M : MS} : StepF ws M M := ⟨Nat.le_refl _, fun _ _ h => .inl h⟩
theorem StepF.up {ws us : List W} {M M' : MS} (h : StepF ws M M') (l : ∀ k, Pl ws k → Pl us k) : StepF us M M' := ⟨h.len, fun k o e => (h.at_ k o e).imp id fun ⟨p, r⟩ => ⟨l k p, r⟩⟩
theorem StepF.trans {ws : List W} {M M1 M2 : MS} (a : StepF ws M M1) (b : StepF ws M1 M2) : StepF ws M M2 := by
  refine ⟨Nat.le_trans a.len b.len, fun k o h => ?_⟩
  rcases a.at_ k o h with h1 | ⟨l, t, xs, rfl, h1⟩
  · exact b.at_ k o h1
  · rcases b.at_ k _ h1 with h2 | ⟨_, t', xs', e, _⟩
    · exact .inr ⟨l, t, xs, rfl, h2⟩
    · cases e
theorem isA.stepF {ws : List W} {M M' : MS} {w : W} {v : AV} (a : StepF ws M M') (h : isA M w v) : isA M' w v := by
  cases w with
  | d t x => cases v <;> first | exact h | cases h
  | loc k =>
    cases v with
    | d x =>
      cases x with
      | list xs =>
        obtain ⟨t, h | h⟩ := h
        · rcases a.at_ k _ h with h1 | ⟨_, t', ys, e, h1⟩
          · exact ⟨t, .inl h1⟩
          · cases e; exact ⟨t, .inr h1⟩
        · rcases a.at_ k _ h with h1 | ⟨_, t', ys, e, h1⟩
          · exact ⟨t, .inr h1⟩
          · cases e
      | _ => cases h
    | loc m => exact h
    | s xs => cases h
    | fn y => cases h
    | ml k xs => cases h
    | lv k xs => cases h
    | md k xs => cases h
  | s xs => cases v <;> first | exact h | cases h
  | fn y => cases v <;> first | exact h | cases h
theorem DV.stepF {us : List W} {M M' : MS} (a : StepF us M M') : ∀ {ws : List W} {vs : List AV}, DV M ws vs → DV M' ws vs
  | _, _, .nil => .nil
  | _, _, .cons h t => .cons (h.stepF a) (DV.stepF a t)
/-- how arguments stand behind the handing over -/
inductive UV : List W → List AV → Prop
  | nil : UV [] []
  | d {t : Bool} {x : PD} {ws : List W} {vs : List AV} : UV ws vs → UV (.d t x :: ws) (.d x :: vs)
  | l {k : Nat} {ws : List W} {vs : List AV} : UV ws vs → UV (.loc k :: ws) (.loc k :: vs)
  | s {xs : List PD} {ws : List W} {vs : List AV} : UV ws vs → UV (.s xs :: ws) (.s xs :: vs)
  | f {y : Str} {ws : List W} {vs : List AV} : UV ws vs → UV (.fn y :: ws) (.fn y :: vs)
theorem UV.length : ∀ {ws : List W} {vs : List AV}, UV ws vs → ws.length = vs.length
  | _, _, .nil => rfl
  | _, _, .d t => by simp [UV.length t]
  | _, _, .l t => by simp [UV.length t]
  | _, _, .s t => by simp [UV.length t]
  | _, _, .f t => by simp [UV.length t]
theorem UV.get {n : Nat} {M : MS} : ∀ {ws : List W} {vs : List AV} {i : Nat} {v : AV}, UV ws vs → vs[i]? = some v → (∃ w, ws[i]? = some w ∧ isV n M w v) ∧ plc v = none
  | _, _, i, v, .nil, h => by simp at h
  | _, _, 0, v, .d t, h => by simp at h; subst h; exact ⟨⟨_, rfl, rfl⟩, rfl⟩
  | _, _, 0, v, .l t, h => by simp at h; subst h; exact ⟨⟨_, rfl, rfl⟩, rfl⟩
  | _, _, 0, v, .s t, h => by simp at h; subst h; exact ⟨⟨_, rfl, rfl⟩, rfl⟩
  | _, _, 0, v, .f t, h => by simp at h; subst h; exact ⟨⟨_, rfl, rfl⟩, rfl⟩
  | _, _, i + 1, v, .d t, h => by simpa using UV.get (i := i) t (by simpa using h)
  | _, _, i + 1, v, .l t, h => by simpa using UV.get (i := i) t (by simpa using h)
  | _, _, i + 1, v, .s t, h => by simpa using UV.get (i := i) t (by simpa using h)
  | _, _, i + 1, v, .f t, h => by simpa using UV.get (i := i) t (by simpa using h)
theorem fzP_dv : ∀ {ws : List W} {vs : List AV} {M : MS}, DV M ws vs → ∃ us M', fzP (vs.map flg) ws M = some (us, M') ∧ UV us vs ∧ StepF ws M M' ∧ ∀ k, AV.loc k ∈ vs → (∀ j, W.loc j ∈ ws → ∀ t xs, M[k]? = some (.lst t xs) → True) 
  | _, _, M, .nil => ⟨[], M, rfl, .nil, .refl, fun _ h => by cases h⟩
  | _, _, M, .cons (w := w) (ws := ws) (v := v) (vs := vs) h t => by
    have keep : ∀ {us : List W} {M' : MS}, fzP (vs.map flg) ws M = some (us, M') → (flg v = false ∨ (∃ t x, w = .d t x) ∨ ∃ y, w = .fn y) → fzP ((v :: vs).map flg) (w :: ws) M = some (w :: us, M') := by
      intro us M' e hh
      have e2 : fzP ((v :: vs).map flg) (w :: ws) M = (match fzP (vs.map flg) ws M with | some (us, M2) => some (w :: us, M2) | none => none) := by
        rcases hh with hh | ⟨t, x, rfl⟩ | ⟨y, rfl⟩
        · show fzP (flg v :: vs.map flg) (w :: ws) M = _
          rw [hh]
          cases w <;> rfl
        · show fzP (flg v :: vs.map flg) (W.d t x :: ws) M = _
          cases flg v <;> rfl
        · show fzP (flg v :: vs.map flg) (W.fn y :: ws) M = _
          cases flg v <;> rfl
      rw [e2, e]
    cases w with
    | d tt x =>
      cases v <;> first | cases h | skip
      obtain ⟨us, M', e, u, s1, _⟩ := fzP_dv (M := M) t
      exact ⟨_, M', keep e (.inr (.inl ⟨_, _, rfl⟩)), .d u, s1.up fun k p => List.mem_cons_of_mem _ p, fun _ _ _ _ _ _ _ => trivial⟩
    | s xs =>
      cases v <;> first | cases h | skip
      obtain ⟨us, M', e, u, s1, _⟩ := fzP_dv (M := M) t
      exact ⟨_, M', keep e (.inl rfl), .s u, s1.up fun k p => List.mem_cons_of_mem _ p, fun _ _ _ _ _ _ _ => trivial⟩
    | fn y =>
      cases v <;> first | cases h | skip
      obtain ⟨us, M', e, u, s1, _⟩ := fzP_dv (M := M) t
      exact ⟨_, M', keep e (.inr (.inr ⟨_, rfl⟩)), .f u, s1.up fun k p => List.mem_cons_of_mem _ p, fun _ _ _ _ _ _ _ => trivial⟩
    | loc k =>
      cases v with
      | loc m =>
        cases h
        obtain ⟨us, M', e, u, s1, _⟩ := fzP_dv (M := M) t
        exact ⟨_, M', keep e (.inl rfl), .l u, s1.up fun k p => List.mem_cons_of_mem _ p, fun _ _ _ _ _ _ _ => trivial⟩
      | d x =>
        cases x with
        | list ys =>
          obtain ⟨tt, hk | hk⟩ := h
          · have hlt : k < M.length := (List.getElem?_eq_some_iff.mp hk).1
            have s1 : StepF [W.loc k] M (M.set k (.fzn tt ys)) := ⟨by simp, fun k' o e => by
              by_cases hkk : k = k'
              · subst hkk
                rw [hk] at e
                cases e
                exact .inr ⟨List.mem_singleton.mpr rfl, tt, ys, rfl, by simp [hlt]⟩
              · exact .inl (by rw [List.getElem?_set, if_neg hkk]; exact e)⟩
            obtain ⟨us, M', e, u, s2, _⟩ := fzP_dv (M := M.set k (.fzn tt ys)) (t.stepF s1)
            refine ⟨.d tt (.list ys) :: us, M', ?_, .d u, (s1.up fun k' p => by have := List.mem_singleton.mp p; rw [Pl, this]; exact List.mem_cons_self).trans (s2.up fun k p => List.mem_cons_of_mem _ p), fun _ _ _ _ _ _ _ => trivial⟩
            show (match fz1 (.loc k) M with | some (t, x, M1) => (match fzP (vs.map flg) ws M1 with | some (us, M2) => some (W.d t x :: us, M2) | none => none) | none => none) = _
            simp only [fz1, hk]
            rw [e]
          · obtain ⟨us, M', e, u, s2, _⟩ := fzP_dv (M := M) t
            refine ⟨.d tt (.list ys) :: us, M', ?_, .d u, s2.up fun k p => List.mem_cons_of_mem _ p, fun _ _ _ _ _ _ _ => trivial⟩
            show (match fz1 (.loc k) M with | some (t, x, M1) => (match fzP (vs.map flg) ws M1 with | some (us, M2) => some (W.d t x :: us, M2) | none => none) | none => none) = _
            simp only [fz1, hk]
            rw [e]
        | _ => cases h
      | s xs => cases h
      | fn y => cases h
      | ml k xs => cases h
      | lv k xs => cases h
      | md k xs => cases h
/-- all that stood before stays -/
def bsP (M0 : MS) : Bs := ⟨M0.length, fun M => M0.length ≤ M.length ∧ ∀ k, k < M0.length → M[k]? = M0[k]?, fun M h => h.1, fun M M' h l e => ⟨Nat.le_trans h.1 l, fun k hk => (e k hk).trans (h.2 k hk)⟩⟩
theorem uv_sat {B : Bs} {us : List W} {vs : List AV} {M : MS} {n : Nat} (u : UV us vs) (hB : B.P M) : Sat B (vs.map some ++ List.replicate (n - vs.length) none) (us.map some ++ List.replicate (n - us.length) none) M := by
  have key : ∀ (i : Nat) (v : AV), (vs.map some ++ List.replicate (n - vs.length) none)[i]? = some (some v) → vs[i]? = some v ∧ i < vs.length := by
    intro i v hv
    by_cases hi : i < vs.length
    · rw [List.getElem?_append_left (by simpa using hi), List.getElem?_map] at hv
      cases hu : vs[i]? with
      | none => rw [hu] at hv; cases hv
      | some u => rw [hu] at hv; cases hv; exact ⟨rfl, hi⟩
    · rw [List.getElem?_append_right (by simpa using Nat.le_of_not_lt hi), List.getElem?_replicate] at hv
      split at hv <;> cases hv
  refine ⟨by simp [u.length], hB, fun i v hv => ?_, fun i j k u2 v hij hi hu2 hj => ?_⟩
  · obtain ⟨h1, h2⟩ := key i v hv
    obtain ⟨⟨w, h3, h4⟩, _⟩ := u.get (n := B.n) (M := M) h1
    refine ⟨w, ?_, h4⟩
    rw [List.getElem?_append_left (by rw [List.length_map, u.length]; exact h2), List.getElem?_map, h3]
    rfl
  · obtain ⟨h1, h2⟩ := key i _ hi
    have := (u.get (n := B.n) (M := M) h1).2
    cases u2 <;> cases hu2 <;> cases this
theorem fn_c {vs : List AV} {fz : List Bool} (hf : fz = vs.map flg) (h : ∀ B, EvS B s (vs.map some ++ List.replicate (n - vs.length) none) (.rt x)) : FnC (semFz fz n s) vs x := fun ws M hd => by
  obtain ⟨us, M1, e1, u, s1, _⟩ := fzP_dv hd
  obtain ⟨f, Δ', M2, h1, m1⟩ := h (bsP M1) _ M1 (uv_sat u ⟨Nat.le_refl _, fun _ _ => rfl⟩)
  cases f with
  | rt w =>
    obtain ⟨⟨t, rfl⟩, hP⟩ := m1
    refine ⟨t, M2, ?_, Nat.le_trans s1.len hP.1, fun k o e => ?_⟩
    · subst hf
      unfold semFz
      rw [e1]
      unfold semF
      simp only []
      rw [h1]
    · have hk : k < M.length := (List.getElem?_eq_some_iff.mp e).1
      have := hP.2 k (Nat.lt_of_lt_of_le hk s1.len)
      rcases s1.at_ k o e with h2 | ⟨p, t', xs, rfl, h2⟩
      · exact .inl (this.trans h2)
      · exact .inr ⟨p, t', xs, rfl, this.trans h2⟩
  | nx => cases m1
  | bk => cases m1
  | ct => cases m1
theorem fn_c0 {vs : List AV} {fz : List Bool} (hf : fz = vs.map flg) (h : ∀ B, EvS B s (vs.map some ++ List.replicate (n - vs.length) none) (.nx E)) : FnC (semFz fz n s) vs .none := fun ws M hd => by
  obtain ⟨us, M1, e1, u, s1, _⟩ := fzP_dv hd
  obtain ⟨f, Δ', M2, h1, m1⟩ := h (bsP M1) _ M1 (uv_sat u ⟨Nat.le_refl _, fun _ _ => rfl⟩)
  cases f with
  | nx =>
    have hP := m1.base
    refine ⟨true, M2, ?_, Nat.le_trans s1.len hP.1, fun k o e => ?_⟩
    · subst hf
      unfold semFz
      rw [e1]
      unfold semF
      simp only []
      rw [h1]
    · have hk : k < M.length := (List.getElem?_eq_some_iff.mp e).1
      have := hP.2 k (Nat.lt_of_lt_of_le hk s1.len)
      rcases s1.at_ k o e with h2 | ⟨p, t', xs, rfl, h2⟩
      · exact .inl (this.trans h2)
      · exact .inr ⟨p, t', xs, rfl, this.trans h2⟩
  | rt w => cases m1
  | bk => cases m1
  | ct => cases m1
/-! own lists, read -/
def RdM (E : AE) (i : Nat) (xs : List PD) : Prop := ∃ k, E[i]? = some (some (.ml k xs)) ∨ E[i]? = some (some (.lv k xs))
theorem rd_var {Δ : Sl} {M : MS} {xs : List PD} (S : Sat B E Δ M) (h : RdM E i xs) : ∃ k t, mVar i Δ M = some (.loc k, M) ∧ (M[k]? = some (.lst t xs) ∨ M[k]? = some (.fzn t xs)) := by
  obtain ⟨k, h | h⟩ := h
  · obtain ⟨w, h1, h2⟩ := S.sl i _ h
    obtain ⟨rfl, _, t, h3⟩ := isV_ml h2
    exact ⟨k, t, by unfold mVar; rw [h1], .inl h3⟩
  · obtain ⟨w, h1, h2⟩ := S.sl i _ h
    obtain ⟨rfl, _, t, h3⟩ := isV_lv h2
    exact ⟨k, t, by unfold mVar; rw [h1], h3⟩
theorem rdM_at {M : MS} {k : Nat} {t : Bool} {xs : List PD} (h : M[k]? = some (.lst t xs) ∨ M[k]? = some (.fzn t xs)) : rdM (.loc k) M = some (t, xs) := by
  rcases h with h | h <;> simp [rdM, h]
theorem rdL_at {M : MS} {k : Nat} {t : Bool} {xs : List PD} (h : M[k]? = some (.lst t xs) ∨ M[k]? = some (.fzn t xs)) : rdL (.loc k) M = some (t, xs) := rdM_at h
theorem rdQ_at {M : MS} {k : Nat} {t : Bool} {xs : List PD} (h : M[k]? = some (.lst t xs) ∨ M[k]? = some (.fzn t xs)) : rdQ (.loc k) M = some (t, xs) := rdM_at h
theorem rdD_at {M : MS} {k : Nat} {t : Bool} {xs : List PD} (h : M[k]? = some (.lst t xs) ∨ M[k]? = some (.fzn t xs)) : rdD (.loc k) M = some (.list xs) := by
  rcases h with h | h <;> simp [rdD, h]
/-- an operation with an own list ahead -/
theorem m_binl {g : W → W → MS → Option (W × MS)} {xs : List PD} (ha : RdM E i xs) (hb : Ev B b E y) (hg : ∀ k t s M, (M[k]? = some (.lst t xs) ∨ M[k]? = some (.fzn t xs)) → ∃ r, g (.loc k) (.d s y) M = some (.d r z, M)) : Ev B (mBin g (mVar i) b) E z := fun Δ M S => by
  obtain ⟨k, t, h1, h2⟩ := rd_var S ha
  obtain ⟨s, M2, h3, s2⟩ := hb Δ M S
  have h4 : ∃ t, M2[k]? = some (.lst t xs) ∨ M2[k]? = some (.fzn t xs) := (show At M k xs from ⟨t, h2⟩).step s2
  obtain ⟨t', h4⟩ := h4
  obtain ⟨r, h5⟩ := hg k t' s M2 h4
  exact ⟨r, M2, by unfold mBin; rw [h1]; simp only []; rw [h3]; exact h5, s2⟩
theorem m_binr {g : W → W → MS → Option (W × MS)} {xs : List PD} (ha : Ev B a E y) (hb : RdM E i xs) (hg : ∀ k t s M, (M[k]? = some (.lst t xs) ∨ M[k]? = some (.fzn t xs)) → ∃ r, g (.d s y) (.loc k) M = some (.d r z, M)) : Ev B (mBin g a (mVar i)) E z := fun Δ M S => by
  obtain ⟨s, M1, h3, s1⟩ := ha Δ M S
  obtain ⟨k, t, h1, h2⟩ := rd_var (S.step s1) hb
  obtain ⟨r, h5⟩ := hg k t s M1 h2
  exact ⟨r, M1, by unfold mBin; rw [h3]; simp only []; rw [h1]; exact h5, s1⟩
theorem m_fn1 {f : Fd} {xs : List PD} (ha : RdM E i xs) (hf : ∀ k t M, (M[k]? = some (.lst t xs) ∨ M[k]? = some (.fzn t xs)) → ∃ r, f [.loc k] M = some (.d r z, M)) : Ev B (mFn f (mArgs [mVar i])) E z := fun Δ M S => by
  obtain ⟨k, t, h1, h2⟩ := rd_var S ha
  obtain ⟨r, h5⟩ := hf k t M h2
  exact ⟨r, M, by unfold mFn mArgs; rw [h1]; simp only [mArgs]; exact h5, .refl⟩
end
end Ek

/-! EkZ: typed readings of operations -/
namespace Ek
open PySem PySem.Spec PyProof.Rows L2
def eL {α : Type} (enc : α → PD) (l : List α) : PD := .list (l.map enc)
def eT {α : Type} (enc : α → PD) (l : List α) : PD := .tuple (l.map enc)
def eP {α β : Type} (ea : α → PD) (eb : β → PD) (p : α × β) : PD := .tuple [ea p.1, eb p.2]
def eP3 {α β γ : Type} (ea : α → PD) (eb : β → PD) (ec : γ → PD) (p : α × β × γ) : PD := .tuple [ea p.1, eb p.2.1, ec p.2.2]
def eI (i : Int) : PD := .int i
def eB (b : Bool) : PD := .bool b
/-- what == tells of encoded things; n: how deep they are at most -/
structure EqOk {α : Type} [DecidableEq α] (n : Nat) (enc : α → PD) : Prop where
  lay : ∀ a, PyData.canLay0 (enc a) = true
  dep : ∀ a, PyData.depth (enc a) ≤ n
  eq : ∀ a b, PyData.eqv (enc a) (enc b) = decide (a = b)
theorem EqOk.sh {α : Type} [DecidableEq α] {n : Nat} {enc : α → PD} (h : EqOk n enc) (l : n ≤ 64) (a : α) : SeqAt.shaped (enc a) = true := by
  unfold SeqAt.shaped
  rw [h.lay a]
  simpa using Nat.le_trans (h.dep a) l
theorem eq_fr : EqOk 1 fr := ⟨fun a => rfl, fun a => by simp [fr, PyData.depth, PyData.depthAll], fr_eqv⟩
theorem layAll {α : Type} {enc : α → PD} (h : ∀ a, PyData.canLay0 (enc a) = true) : ∀ l : List α, PyData.canLayAll0 (l.map enc) = true
  | [] => rfl
  | a :: l => by simp [PyData.canLayAll0, h a, layAll h l]
theorem depAll {α : Type} {enc : α → PD} {n : Nat} (h : ∀ a, PyData.depth (enc a) ≤ n) : ∀ l : List α, PyData.depthAll (l.map enc) ≤ n
  | [] => Nat.zero_le _
  | a :: l => by
    have := h a
    have := depAll h l
    simp [PyData.depthAll]
    omega
theorem eqAll {α : Type} [DecidableEq α] {enc : α → PD} (h : ∀ a b, PyData.eqv (enc a) (enc b) = decide (a = b)) : ∀ l m : List α, PyData.eqvAll (l.map enc) (m.map enc) = decide (l = m)
  | [], [] => by simp [PyData.eqvAll]
  | [], b :: m => by simp [PyData.eqvAll]
  | a :: l, [] => by simp [PyData.eqvAll]
  | a :: l, b :: m => by
    simp only [List.map_cons, PyData.eqvAll, h a b, eqAll h l m]
    by_cases h1 : a = b <;> by_cases h2 : l = m <;> simp [h1, h2]
theorem eq_L {α : Type} [DecidableEq α] {n : Nat} {enc : α → PD} (h : EqOk n enc) : EqOk (n + 1) (eL enc) :=
  ⟨fun l => by simp [eL, PyData.canLay0, layAll h.lay], fun l => by simpa [eL, PyData.depth] using depAll h.dep l, fun l m => by simpa [eL, PyData.eqv] using eqAll h.eq l m⟩
theorem eq_T {α : Type} [DecidableEq α] {n : Nat} {enc : α → PD} (h : EqOk n enc) : EqOk (n + 1) (eT enc) :=
  ⟨fun l => by simp [eT, PyData.canLay0, layAll h.lay], fun l => by simpa [eT, PyData.depth] using depAll h.dep l, fun l m => by simpa [eT, PyData.eqv] using eqAll h.eq l m⟩
theorem eq_P {α β : Type} [DecidableEq α] [DecidableEq β] {ea : α → PD} {eb : β → PD} {n m : Nat} (ha : EqOk n ea) (hb : EqOk m eb) : EqOk (max n m + 1) (eP ea eb) := by
  refine ⟨fun p => ?_, fun p => ?_, fun p q => ?_⟩
  · simp [eP, PyData.canLay0, PyData.canLayAll0, ha.lay, hb.lay]
  · have := ha.dep p.1
    have := hb.dep p.2
    simp [eP, PyData.depth, PyData.depthAll]
    omega
  · have e : PyData.eqv (eP ea eb p) (eP ea eb q) = (PyData.eqv (ea p.1) (ea q.1) && (PyData.eqv (eb p.2) (eb q.2) && true)) := by
      unfold eP
      rfl
    rw [e, ha.eq, hb.eq]
    obtain ⟨p1, p2⟩ := p
    obtain ⟨q1, q2⟩ := q
    by_cases h1 : p1 = q1 <;> by_cases h2 : p2 = q2 <;> simp [h1, h2]
theorem eq_I : EqOk 0 eI := ⟨fun a => rfl, fun a => Nat.le_refl 0, fun a b => rfl⟩
theorem eq_B : EqOk 0 eB := ⟨fun a => rfl, fun a => Nat.le_refl 0, fun a b => by cases a <;> cases b <;> rfl⟩
section
variable {B : Bs} {E E' : AE} {a b c : Sm W} {x y z : PD} {i j : Int} {α β γ : Type} {ea : α → PD} {eb : β → PD}
theorem i_add (ha : Ev B a E (eI i)) (hb : Ev B b E (eI j)) : Ev B (mBin gAdd a b) E (eI (i + j)) := e_bin ha hb fun t s M => ⟨_, rfl⟩
theorem i_sub (ha : Ev B a E (eI i)) (hb : Ev B b E (eI j)) : Ev B (mBin gSub a b) E (eI (i - j)) := e_bin ha hb fun t s M => ⟨_, rfl⟩
theorem i_mul (ha : Ev B a E (eI i)) (hb : Ev B b E (eI j)) (h : CMulE i j) : Ev B (mBin gMul a b) E (eI (i * j)) := e_bin ha hb fun t s M => ⟨_, gMul_i h⟩
theorem i_fdiv (ha : Ev B a E (eI i)) (hb : Ev B b E (eI j)) (h : CDivW i j) : Ev B (mBin gFdiv a b) E (eI (i / j)) := e_bin ha hb fun t s M => ⟨_, gFdiv_i h⟩
theorem i_mod (ha : Ev B a E (eI i)) (hb : Ev B b E (eI j)) (h : 0 < j) : Ev B (mBin gMod a b) E (eI (i % j)) := e_bin ha hb fun t s M => ⟨_, gMod_i h⟩
theorem i_neg (ha : Ev B a E (eI i)) : Ev B (mUn gNeg a) E (eI (-i)) := e_un ha fun t M => ⟨_, gNeg_i⟩
theorem i_lt (ha : Ev B a E (eI i)) (hb : Ev B b E (eI j)) : Ev B (mBin gLt a b) E (eB (decide (i < j))) := e_bin ha hb fun t s M => ⟨_, gLt_i⟩
theorem i_le (ha : Ev B a E (eI i)) (hb : Ev B b E (eI j)) : Ev B (mBin gLe a b) E (eB (decide (i ≤ j))) := e_bin ha hb fun t s M => ⟨_, gLe_i⟩
theorem i_gt (ha : Ev B a E (eI i)) (hb : Ev B b E (eI j)) : Ev B (mBin gGt a b) E (eB (decide (j < i))) := e_bin ha hb fun t s M => ⟨_, gGt_i⟩
theorem i_ge (ha : Ev B a E (eI i)) (hb : Ev B b E (eI j)) : Ev B (mBin gGe a b) E (eB (decide (j ≤ i))) := e_bin ha hb fun t s M => ⟨_, gGe_i⟩
theorem y_eq [DecidableEq α] {u v : α} {n : Nat} (H : EqOk n ea) (ha : Ev B a E (ea u)) (hb : Ev B b E (ea v)) (hn : n ≤ 64 := by decide) : Ev B (mBin gEq a b) E (eB (decide (u = v))) := e_bin ha hb fun t s M => ⟨_, by rw [gEq_d (H.sh hn u) (H.sh hn v), H.eq]; rfl⟩
theorem y_ne [DecidableEq α] {u v : α} {n : Nat} (H : EqOk n ea) (ha : Ev B a E (ea u)) (hb : Ev B b E (ea v)) (hn : n ≤ 64 := by decide) : Ev B (mBin gNe a b) E (eB (!decide (u = v))) := e_bin ha hb fun t s M => ⟨_, by rw [gNe_d (H.sh hn u) (H.sh hn v), H.eq]; rfl⟩
theorem y_not {k : Bool} (ha : Ev B a E (eB k)) : Ev B (mUn gNot a) E (eB (!k)) := e_un ha fun t M => ⟨_, rfl⟩
theorem t_b {k : Bool} (ha : Ev B a E (eB k)) : EvT B (tB1 a) E k := t_B1 ha
theorem y_and {k l : Bool} (h : Ev B a E (eB k)) (h' : k = true → Ev B b E (eB l)) : Ev B (mAnd a b) E (eB (k && l)) := e_and h h'
theorem y_or {k l : Bool} (h : Ev B a E (eB k)) (h' : k = false → Ev B b E (eB l)) : Ev B (mOr a b) E (eB (k || l)) := e_or h h'
/-! pairs -/
theorem p_0 {p : α × β} (ha : Ev B a E (eP ea eb p)) : Ev B (mBin gIx a (mD true (.int 0))) E (ea p.1) := e_bin ha e_D fun t s M => ⟨_, gIx_0⟩
theorem p_1 {p : α × β} (ha : Ev B a E (eP ea eb p)) : Ev B (mBin gIx a (mD true (.int 1))) E (eb p.2) := e_bin ha e_D fun t s M => ⟨_, gIx_1⟩
theorem f_0 {q : Rat} (ha : Ev B a E (fr q)) : Ev B (mBin gIx a (mD true (.int 0))) E (eI q.num) := e_bin ha e_D fun t s M => ⟨_, gIx_0⟩
theorem f_1 {q : Rat} (ha : Ev B a E (fr q)) : Ev B (mBin gIx a (mD true (.int 1))) E (eI q.den) := e_bin ha e_D fun t s M => ⟨_, gIx_1⟩
theorem p_mk {u : α} {v : β} (ha : Ev B a E (ea u)) (hb : Ev B b E (eb v)) : Ev B (mTup (mArgs [a, b])) E (eP ea eb (u, v)) := e_tup (xs := [ea u, eb v]) (a_cons ha (a_cons hb a_nil)) rfl (by simp)
theorem p_mk3 {ec : γ → PD} {u : α} {v : β} {w : γ} (ha : Ev B a E (ea u)) (hb : Ev B b E (eb v)) (hc : Ev B c E (ec w)) : Ev B (mTup (mArgs [a, b, c])) E (eP3 ea eb ec (u, v, w)) := e_tup (xs := [ea u, eb v, ec w]) (a_cons ha (a_cons hb (a_cons hc a_nil))) rfl (by simp)
theorem g_p {i j : Nat} {p : α × β} : TgA (gTp (gsCons (gNm i) (gsCons (gNm j) gsNil))) (eP ea eb p) E ((E.set i (some (.d (ea p.1)))).set j (some (.d (eb p.2)))) := g_tp (gs_cons g_nm (gs_cons g_nm gs_nil))
theorem g_p3 {i j k : Nat} {ec : γ → PD} {p : α × β × γ} : TgA (gTp (gsCons (gNm i) (gsCons (gNm j) (gsCons (gNm k) gsNil)))) (eP3 ea eb ec p) E (((E.set i (some (.d (ea p.1)))).set j (some (.d (eb p.2.1)))).set k (some (.d (ec p.2.2)))) := g_tp (gs_cons g_nm (gs_cons g_nm (gs_cons g_nm gs_nil)))
/-! lists, tuples -/
/-- the thing at an index, as Python counts -/
def ix {α : Type} [Inhabited α] (l : List α) (i : Int) : α := (atI l i).getD default
/-- the index is one -/
def IxOk (n : Nat) (i : Int) : Prop := -(n : Int) ≤ i ∧ i < n
theorem atI_map {α β : Type} (f : α → β) (l : List α) (i : Int) : atI (l.map f) i = (atI l i).map f := by
  unfold atI
  rw [List.length_map]
  cases ixN l.length i with
  | none => rfl
  | some j => simp
theorem ix_some {α : Type} [Inhabited α] {l : List α} {i : Int} (h : IxOk l.length i) : atI l i = some (ix l i) := by
  obtain ⟨h1, h2⟩ := h
  have : ∃ j, ixN l.length i = some j ∧ j < l.length := by
    unfold ixN
    by_cases h0 : 0 ≤ i
    · rw [if_pos h0, if_pos h2]
      exact ⟨_, rfl, by omega⟩
    · rw [if_neg h0, if_pos h1]
      exact ⟨_, rfl, by omega⟩
  obtain ⟨j, e, hj⟩ := this
  unfold ix atI
  rw [e]
  simp [hj]
theorem ix_nat {α : Type} [Inhabited α] {l : List α} {n : Nat} (h : n < l.length) : ix l (n : Int) = l[n] := by
  unfold ix
  rw [atI_nat (j := n) (v := l[n]) (by simp [h])]
  rfl
theorem ix_zero {α : Type} [Inhabited α] (z : α) (l : List α) : ix (z :: l) 0 = z := ix_nat (l := z :: l) (n := 0) (by simp)
theorem ix_last {α : Type} [Inhabited α] (z : α) (l : List α) : ix (l ++ [z]) (-1) = z := by
  have e : ixN (l ++ [z]).length (-1) = some l.length := by
    unfold ixN
    rw [if_neg (by decide), if_pos (by simp; omega)]
    congr 1
    simp
    omega
  unfold ix atI
  rw [e]
  simp
theorem x_L [Inhabited α] {l : List α} (ha : Ev B a E (eL ea l)) (hb : Ev B b E (eI i)) (h : IxOk l.length i) : Ev B (mBin gIx a b) E (ea (ix l i)) := e_bin ha hb fun t s M => ⟨nf t (ea (ix l i)), by
  show (match atI (l.map ea) i with | some y => some (W.d (nf t y) y, M) | none => none) = _
  rw [atI_map, ix_some h]
  rfl⟩
theorem x_T [Inhabited α] {l : List α} (ha : Ev B a E (eT ea l)) (hb : Ev B b E (eI i)) (h : IxOk l.length i) : Ev B (mBin gIx a b) E (ea (ix l i)) := e_bin ha hb fun t s M => ⟨nf t (ea (ix l i)), by
  show (match atI (l.map ea) i with | some y => some (W.d (nf t y) y, M) | none => none) = _
  rw [atI_map, ix_some h]
  rfl⟩
theorem catL {l m : List α} (ha : Ev B a E (eL ea l)) (hb : Ev B b E (eL ea m)) (h : l.length + m.length ≤ 10000) : Ev B (mBin gAdd a b) E (eL ea (l ++ m)) := e_bin ha hb fun t s M => ⟨t && s, by
  show (if (l.map ea).length + (m.map ea).length ≤ 10000 then some (W.d (t && s) (PyData.list (l.map ea ++ m.map ea)), M) else none) = _
  rw [if_pos (by simpa using h), ← List.map_append]
  rfl⟩
theorem itL {l : List α} (h : Ev B a E (eL ea l)) : EvL B (mItems a) E (l.map ea) := l_itemsL h
theorem itT {l : List α} (h : Ev B a E (eT ea l)) : EvL B (mItems a) E (l.map ea) := l_itemsT h
theorem oldL {it : Sm (Bool × List PD)} {l : List α} (h : EvL B it E (l.map ea)) : Ev B (mOld it) E (eL ea l) := e_old h
theorem e_fn1 {f : Fd} (h : Ev B a E x) (hf : ∀ t M, ∃ s, f [.d t x] M = some (.d s y, M)) : Ev B (mFn f (mArgs [a])) E y := fun Δ M S => by
  obtain ⟨t, M1, h1, s1⟩ := h Δ M S
  obtain ⟨s, h2⟩ := hf t M1
  exact ⟨s, M1, by unfold mFn mArgs; rw [h1]; simp only [mArgs]; exact h2, s1⟩
theorem e_fn2 {f : Fd} (h : Ev B a E x) (h' : Ev B b E y) (hf : ∀ t r M, ∃ s, f [.d t x, .d r y] M = some (.d s z, M)) : Ev B (mFn f (mArgs [a, b])) E z := fun Δ M S => by
  obtain ⟨t, M1, h1, s1⟩ := h Δ M S
  obtain ⟨r, M2, h2, s2⟩ := h' Δ M1 (S.step s1)
  obtain ⟨s, h3⟩ := hf t r M2
  exact ⟨s, M2, by unfold mFn mArgs mArgs; rw [h1]; simp only []; rw [h2]; simp only [mArgs]; exact h3, s1.trans s2⟩
theorem lenL {l : List α} (h : Ev B a E (eL ea l)) : Ev B (mFn bLen (mArgs [a])) E (eI l.length) := e_fn1 h fun t M => ⟨true, by unfold eL; rw [bLen_l]; simp [eI]⟩
theorem lenT {l : List α} (h : Ev B a E (eT ea l)) : Ev B (mFn bLen (mArgs [a])) E (eI l.length) := e_fn1 h fun t M => ⟨true, by unfold eT; rw [bLen_t]; simp [eI]⟩
theorem tupL {l : List α} (h : Ev B a E (eL ea l)) : Ev B (mFn bTuple (mArgs [a])) E (eT ea l) := e_fn1 h fun t M => ⟨t, rfl⟩
theorem tupT {l : List α} (h : Ev B a E (eT ea l)) : Ev B (mFn bTuple (mArgs [a])) E (eT ea l) := e_fn1 h fun t M => ⟨t, rfl⟩
theorem lstT {l : List α} (h : Ev B a E (eT ea l)) : Ev B (mFn bList (mArgs [a])) E (eL ea l) := e_fn1 h fun t M => ⟨t, rfl⟩
theorem lstL {l : List α} (h : Ev B a E (eL ea l)) : Ev B (mFn bList (mArgs [a])) E (eL ea l) := e_fn1 h fun t M => ⟨t, rfl⟩
theorem i_int (h : Ev B a E (eI i)) : Ev B (mFn bInt (mArgs [a])) E (eI i) := e_fn1 h fun t M => ⟨true, rfl⟩
theorem i_abs (h : Ev B a E (eI i)) : Ev B (mFn bAbs (mArgs [a])) E (eI (i.natAbs : Int)) := e_fn1 h fun t M => ⟨true, by
  show some (W.d true (PyData.int (if i < 0 then -i else i)), M) = some (W.d true (PyData.int (i.natAbs : Int)), M)
  have : (if i < 0 then -i else i) = ((i.natAbs : Nat) : Int) := by split <;> omega
  rw [this]⟩
theorem i_max (h : Ev B a E (eI i)) (h' : Ev B b E (eI j)) : Ev B (mFn bMax (mArgs [a, b])) E (eI (max i j)) := e_fn2 h h' fun t s M => ⟨true, by
  show some (W.d true (PyData.int (if j > i then j else i)), M) = some (W.d true (PyData.int (max i j)), M)
  have : (if j > i then j else i) = max i j := by split <;> omega
  rw [this]⟩
theorem i_min (h : Ev B a E (eI i)) (h' : Ev B b E (eI j)) : Ev B (mFn bMin (mArgs [a, b])) E (eI (min i j)) := e_fn2 h h' fun t s M => ⟨true, by
  show some (W.d true (PyData.int (if j < i then j else i)), M) = some (W.d true (PyData.int (min i j)), M)
  have : (if j < i then j else i) = min i j := by split <;> omega
  rw [this]⟩
theorem boolsL (l : List Bool) : asBools (l.map eB) = some l := by
  induction l with
  | nil => rfl
  | cons a l ih => simp [asBools, ih, eB]
theorem y_all {l : List Bool} (h : Ev B a E (eL eB l)) : Ev B (mFn bAll (mArgs [a])) E (eB (l.all id)) := e_fn1 h fun t M => ⟨true, by
  show (match asBools (l.map eB) with | some bs => some (W.d true (PyData.bool (bs.all id)), M) | none => none) = _
  rw [boolsL]
  rfl⟩
theorem y_any {l : List Bool} (h : Ev B a E (eL eB l)) : Ev B (mFn bAny (mArgs [a])) E (eB (l.any id)) := e_fn1 h fun t M => ⟨true, by
  show (match asBools (l.map eB) with | some bs => some (W.d true (PyData.bool (bs.any id)), M) | none => none) = _
  rw [boolsL]
  rfl⟩
theorem intsL (l : List Int) : asInts (l.map eI) = some l := by
  induction l with
  | nil => rfl
  | cons a l ih => simp [asInts, ih, eI]
theorem y_sum {l : List Int} (h : Ev B a E (eL eI l)) : Ev B (mFn bSum (mArgs [a])) E (eI l.sum) := e_fn1 h fun t M => ⟨true, by
  show (match asInts (l.map eI) with | some l => some (W.d true (PyData.int l.sum), M) | none => none) = _
  rw [intsL]
  rfl⟩
/-- displays -/
theorem lst0 : EvL B (mLst (mArgs [])) E (([] : List α).map ea) := l_lst (xs := []) a_nil rfl (by simp)
/-- a list display by its parts -/
theorem lstN {ms : List (Sm W)} {l : List α} {vs : List AV} (h : EvA B ms E vs) (e : vs = (l.map ea).map AV.d) (hl : l.length ≤ 1000) : EvL B (mLst (mArgs ms)) E (l.map ea) := l_lst h e (by simpa using hl)
theorem tupN {ms : List (Sm W)} {l : List α} {vs : List AV} (h : EvA B ms E vs) (e : vs = (l.map ea).map AV.d) (hl : l.length ≤ 1000) : Ev B (mTup (mArgs ms)) E (eT ea l) := e_tup h e (by simpa using hl)
/-- slices -/
def cut {α : Type} (l : List α) (lo hi : Option Int) : List α := (l.drop (HT.sIx l.length 0 lo)).take (HT.sIx l.length l.length hi - HT.sIx l.length 0 lo)
theorem cut_map {α β : Type} (f : α → β) (l : List α) (lo hi : Option Int) : ((l.map f).drop (HT.sIx (l.map f).length 0 lo)).take (HT.sIx (l.map f).length (l.map f).length hi - HT.sIx (l.map f).length 0 lo) = (cut l lo hi).map f := by
  unfold cut
  rw [List.map_take, List.map_drop, List.length_map]
def EvP (B : Bs) (m : Sm (Option Int)) (E : AE) (o : Option Int) : Prop := ∀ Δ M, Sat B E Δ M → ∃ M', m Δ M = some (o, M') ∧ Step E M M'
theorem prt0 : EvP B (mPart none) E none := fun Δ M S => ⟨M, rfl, .refl⟩
theorem prt1 (h : Ev B a E (eI i)) : EvP B (mPart (some a)) E (some i) := fun Δ M S => by
  obtain ⟨t, M1, h1, s1⟩ := h Δ M S
  exact ⟨M1, by unfold mPart; simp only []; rw [h1]; rfl, s1⟩
theorem slL {p q : Sm (Option Int)} {lo hi : Option Int} {l : List α} (ha : Ev B a E (eL ea l)) (hp : EvP B p E lo) (hq : EvP B q E hi) : Ev B (mSl a p q) E (eL ea (cut l lo hi)) := fun Δ M S => by
  obtain ⟨t, M1, h1, s1⟩ := ha Δ M S
  obtain ⟨M2, h2, s2⟩ := hp Δ M1 (S.step s1)
  obtain ⟨M3, h3, s3⟩ := hq Δ M2 ((S.step s1).step s2)
  refine ⟨t, M3, ?_, (s1.trans s2).trans s3⟩
  unfold mSl
  rw [h1]
  simp only []
  rw [h2]
  simp only []
  rw [h3]
  unfold eL
  simp only [rdL, rdM, cutD]
  rw [cut_map]
theorem slT {p q : Sm (Option Int)} {lo hi : Option Int} {l : List α} (ha : Ev B a E (eT ea l)) (hp : EvP B p E lo) (hq : EvP B q E hi) : Ev B (mSl a p q) E (eT ea (cut l lo hi)) := fun Δ M S => by
  obtain ⟨t, M1, h1, s1⟩ := ha Δ M S
  obtain ⟨M2, h2, s2⟩ := hp Δ M1 (S.step s1)
  obtain ⟨M3, h3, s3⟩ := hq Δ M2 ((S.step s1).step s2)
  refine ⟨t, M3, ?_, (s1.trans s2).trans s3⟩
  unfold mSl
  rw [h1]
  simp only []
  rw [h2]
  simp only []
  rw [h3]
  unfold eT
  simp only [cutD]
  rw [cut_map]
theorem revL {l : List α} (ha : Ev B a E (eL ea l)) : Ev B (mRevQ a) E (eL ea l.reverse) := fun Δ M S => by
  obtain ⟨t, M1, h1, s1⟩ := ha Δ M S
  refine ⟨t, M1, ?_, s1⟩
  unfold mRevQ
  rw [h1]
  unfold eL
  simp [rdL, rdM]
theorem revT {l : List α} (ha : Ev B a E (eT ea l)) : Ev B (mRevQ a) E (eT ea l.reverse) := fun Δ M S => by
  obtain ⟨t, M1, h1, s1⟩ := ha Δ M S
  refine ⟨t, M1, ?_, s1⟩
  unfold mRevQ
  rw [h1]
  unfold eT
  simp
/-! own lists -/
theorem m_ix [Inhabited α] {i : Nat} {n : Int} {l : List α} (ha : RdM E i (l.map ea)) (hb : Ev B b E (eI n)) (h : IxOk l.length n) : Ev B (mBin gIx (mVar i) b) E (ea (ix l n)) := m_binl ha hb fun k t s M hk => ⟨nf t (ea (ix l n)), by
  unfold eI
  rw [gIx_int]
  show (match rdQ (.loc k) M with | some (t, xs) => (match atI xs n with | some y => some (W.d (nf t y) y, M) | none => none) | none => none) = _
  rw [rdQ_at hk]
  simp only []
  rw [atI_map, ix_some h]
  rfl⟩
theorem m_len {i : Nat} {l : List α} (ha : RdM E i (l.map ea)) : Ev B (mFn bLen (mArgs [mVar i])) E (eI l.length) := m_fn1 ha fun k t M hk => ⟨true, by
  show (match rdQ (.loc k) M with | some (_, xs) => some (W.d true (.int xs.length), M) | none => none) = _
  rw [rdQ_at hk]
  simp [eI]⟩
theorem m_tup {i : Nat} {l : List α} (ha : RdM E i (l.map ea)) : Ev B (mFn bTuple (mArgs [mVar i])) E (eT ea l) := m_fn1 ha fun k t M hk => ⟨t, by
  show (match rdL (.loc k) M with | some (t, xs) => some (W.d t (.tuple xs), M) | none => none) = _
  rw [rdL_at hk]
  rfl⟩
theorem m_lst {i : Nat} {l : List α} (ha : RdM E i (l.map ea)) : Ev B (mFn bList (mArgs [mVar i])) E (eL ea l) := m_fn1 ha fun k t M hk => ⟨t, by
  rw [bList_at hk]
  show (match rdQ (.loc k) M with | some (t, xs) => some (W.d t (.list xs), M) | none => none) = _
  rw [rdQ_at hk]
  rfl⟩
theorem m_rev {i : Nat} {l : List α} (ha : RdM E i (l.map ea)) : Ev B (mRevQ (mVar i)) E (eL ea l.reverse) := fun Δ M S => by
  obtain ⟨k, t, h1, h2⟩ := rd_var S ha
  refine ⟨t, M, ?_, .refl⟩
  unfold mRevQ
  rw [h1]
  simp only [rdL_at h2]
  simp [eL]
theorem m_sl {i : Nat} {p q : Sm (Option Int)} {lo hi : Option Int} {l : List α} (ha : RdM E i (l.map ea)) (hp : EvP B p E lo) (hq : EvP B q E hi) : Ev B (mSl (mVar i) p q) E (eL ea (cut l lo hi)) := fun Δ M S => by
  obtain ⟨k, t, h1, h2⟩ := rd_var S ha
  obtain ⟨M2, h3, s2⟩ := hp Δ M S
  obtain ⟨M3, h4, s3⟩ := hq Δ M2 (S.step s2)
  obtain ⟨t', h5⟩ := ((show At M k (l.map ea) from ⟨t, h2⟩).step s2).step s3
  refine ⟨t', M3, ?_, s2.trans s3⟩
  unfold mSl
  rw [h1]
  simp only []
  rw [h3]
  simp only []
  rw [h4]
  simp only [rdL_at h5, cutD]
  rw [cut_map]
  rfl
theorem m_catl {i : Nat} {l m : List α} (ha : RdM E i (l.map ea)) (hb : Ev B b E (eL ea m)) (h : l.length + m.length ≤ 10000) : Ev B (mBin gAdd (mVar i) b) E (eL ea (l ++ m)) := m_binl ha hb fun k t s M hk => ⟨t && s, by
  show (match rdM (.loc k) M, rdM (.d s (.list (m.map ea))) M with
    | some (t, xs), some (s, ys) => if xs.length + ys.length ≤ 10000 then some (W.d (t && s) (.list (xs ++ ys)), M) else none
    | _, _ => none) = _
  rw [rdM_at hk]
  simp only [rdM]
  rw [if_pos (by simpa using h), ← List.map_append]
  rfl⟩
theorem m_catr {i : Nat} {l m : List α} (ha : Ev B a E (eL ea l)) (hb : RdM E i (m.map ea)) (h : l.length + m.length ≤ 10000) : Ev B (mBin gAdd a (mVar i)) E (eL ea (l ++ m)) := m_binr ha hb fun k t s M hk => ⟨s && t, by
  show (match rdM (.d s (.list (l.map ea))) M, rdM (.loc k) M with
    | some (t, xs), some (s, ys) => if xs.length + ys.length ≤ 10000 then some (W.d (t && s) (.list (xs ++ ys)), M) else none
    | _, _ => none) = _
  rw [rdM_at hk]
  simp only [rdM]
  rw [if_pos (by simpa using h), ← List.map_append]
  rfl⟩
theorem m_eql [DecidableEq α] {i : Nat} {l m : List α} {n : Nat} (H : EqOk n ea) (ha : RdM E i (l.map ea)) (hb : Ev B b E (eL ea m)) (hn : n ≤ 63 := by decide) : Ev B (mBin gEq (mVar i) b) E (eB (decide (l = m))) := m_binl ha hb fun k t s M hk => ⟨true, by
  show (match rdD (.loc k) M, some (eL ea m) with
    | some d, some e => if SeqAt.shaped d = true ∧ SeqAt.shaped e = true then some (W.d true (.bool (PyData.eqv d e)), M) else none
    | _, _ => none) = _
  rw [rdD_at hk]
  have h1 := (eq_L H).sh (by omega) l
  have h2 := (eq_L H).sh (by omega) m
  have h3 := (eq_L H).eq l m
  unfold eL at h1 h2 h3 ⊢
  simp only [h1, h2, and_self, if_true, h3]
  rfl⟩
theorem m_nel [DecidableEq α] {i : Nat} {l m : List α} {n : Nat} (H : EqOk n ea) (ha : RdM E i (l.map ea)) (hb : Ev B b E (eL ea m)) (hn : n ≤ 63 := by decide) : Ev B (mBin gNe (mVar i) b) E (eB (!decide (l = m))) := m_binl ha hb fun k t s M hk => ⟨true, by
  show (match rdD (.loc k) M, some (eL ea m) with
    | some d, some e => if SeqAt.shaped d = true ∧ SeqAt.shaped e = true then some (W.d true (.bool (!PyData.eqv d e)), M) else none
    | _, _ => none) = _
  rw [rdD_at hk]
  have h1 := (eq_L H).sh (by omega) l
  have h2 := (eq_L H).sh (by omega) m
  have h3 := (eq_L H).eq l m
  unfold eL at h1 h2 h3 ⊢
  simp only [h1, h2, and_self, if_true, h3]
  rfl⟩
theorem mr_ml {i k : Nat} {xs : List PD} (h : E[i]? = some (some (.ml k xs))) : RdM E i xs := ⟨k, .inl h⟩
theorem mr_lv {i k : Nat} {xs : List PD} (h : E[i]? = some (some (.lv k xs))) : RdM E i xs := ⟨k, .inr h⟩
theorem itM {i k : Nat} {l : List α} (h : E[i]? = some (some (.lv k (l.map ea)))) : EvL B (mItems (mVar i)) E (l.map ea) := l_itemsM h
theorem a_lvL {i k : Nat} {ms : List (Sm W)} {vs : List AV} {l : List α} (ha : E[i]? = some (some (.lv k (l.map ea)))) (hr : EvA B ms E vs) : EvA B (mVar i :: ms) E (.d (eL ea l) :: vs) := a_lv ha hr
theorem s_retL {i k : Nat} {t : Ss} {l : List α} (h : E[i]? = some (some (.lv k (l.map ea)))) : EvS B (sSeq (sRet (mVar i)) t) E (.rt (eL ea l)) := s_retM h
theorem s_newL {it : Sm (Bool × List PD)} {i : Nat} {t : Ss} {o : Oc} {l : List α} (h : EvL B it E (l.map ea)) (h' : ∀ k, EvS B t (E.set i (some (.ml k (l.map ea)))) o) : EvS B (sSeq (sSet i (mNew it)) t) E o := s_new h h'
theorem s_appL {i k : Nat} {t : Ss} {o : Oc} {l : List α} {u : α} (h : E[i]? = some (some (.ml k (l.map ea)))) (he : Ev B a E (ea u)) (hl : l.length ≤ 100000) (h' : EvS B t (E.set i (some (.ml k ((l ++ [u]).map ea)))) o) : EvS B (sSeq (sDrop (mApp (mVar i) a)) t) E o := s_app h he (by simpa using hl) (by rw [List.map_append] at h'; exact h')
theorem cut_from1 {α : Type} (l : List α) : cut l (some 1) none = l.drop 1 := by
  unfold cut HT.sIx
  cases l with
  | nil => simp
  | cons a l => simp
theorem cut_to1 {α : Type} (l : List α) : cut l none (some 1) = l.take 1 := by
  unfold cut HT.sIx
  cases l with
  | nil => simp
  | cons a l => simp
end
end Ek

/-! EkQ: small fractions; more typed readings -/
namespace Ek
open PySem PySem.Spec PyProof.Rows L2
/-- small enough for all that laws and program do -/
def Sm' (q : Rat) : Prop := Sz 480 q
def Sm2 (p q : Rat) : Prop := Sm' p ∧ Sm' q
section
variable {B : Bs} {E E' E1 E2 : AE} {a b c : Sm W} {x y z : PD} {i j : Int} {α β γ : Type} {ea : α → PD} {eb : β → PD} {ec : γ → PD}
theorem rg1 (h : Ev B a E (eI i)) (hl : -(2 ^ 62) ≤ i ∧ i < 2 ^ 62) : EvL B (mRange1 (mArgs [a])) E ((rng 0 i).map eI) := l_range1 h hl
theorem rg2 (h : Ev B a E (eI i)) (h' : Ev B b E (eI j)) (hl : -(2 ^ 62) ≤ i ∧ i < 2 ^ 62 ∧ -(2 ^ 62) ≤ j ∧ j < 2 ^ 62) : EvL B (mRange2 (mArgs [a, b])) E ((rng i j).map eI) := l_range2 h h' hl
theorem g_pp {g1 g2 : Tg} {p : α × β} (h1 : TgA g1 (ea p.1) E E1) (h2 : TgA g2 (eb p.2) E1 E2) : TgA (gTp (gsCons g1 (gsCons g2 gsNil))) (eP ea eb p) E E2 := g_tp (gs_cons h1 (gs_cons h2 gs_nil))
theorem g_pp3 {g1 g2 g3 : Tg} {p : α × β × γ} {E3 : AE} (h1 : TgA g1 (ea p.1) E E1) (h2 : TgA g2 (eb p.2.1) E1 E2) (h3 : TgA g3 (ec p.2.2) E2 E3) : TgA (gTp (gsCons g1 (gsCons g2 (gsCons g3 gsNil)))) (eP3 ea eb ec p) E E3 := g_tp (gs_cons h1 (gs_cons h2 (gs_cons h3 gs_nil)))
theorem q_lit {q : Rat} (ha : Ev B a E (eI i)) (hb : Ev B b E (eI j)) (h : q.num = i ∧ (q.den : Int) = j) : Ev B (mTup (mArgs [a, b])) E (fr q) := by
  unfold fr
  rw [h.1, h.2]
  exact e_tup (xs := [eI i, eI j]) (a_cons ha (a_cons hb a_nil)) rfl (by simp)
theorem q_cst {q : Rat} {t : Bool} (h : q.num = i ∧ (q.den : Int) = j) : Ev B (mD t (.tuple [.int i, .int j])) E (fr q) := by
  unfold fr
  rw [h.1, h.2]
  exact e_D
theorem i_lit {t : Bool} : Ev B (mD t (.int i)) E (eI i) := e_D
theorem b_lit {t k : Bool} : Ev B (mD t (.bool k)) E (eB k) := e_D
theorem y_in [DecidableEq α] {u : α} {l : List α} {n : Nat} (neg : Bool) (H : EqOk n ea) (ha : Ev B a E (ea u)) (hb : Ev B b E (eL ea l)) (hn : n ≤ 63 := by decide) : Ev B (mBin (gIn neg) a b) E (eB (neg != decide (u ∈ l))) := e_bin ha hb fun t s M => ⟨true, by
  show (if SeqAt.shaped (ea u) = true ∧ SeqAt.shaped (eL ea l) = true then some (W.d true (PyData.bool (neg != (l.map ea).any fun z => PyData.eqv z (ea u))), M) else none) = _
  rw [if_pos ⟨H.sh (by omega) u, (eq_L H).sh (by omega) l⟩]
  have : ((l.map ea).any fun z => PyData.eqv z (ea u)) = decide (u ∈ l) := by
    rw [List.any_map]
    have e : ((fun z => PyData.eqv z (ea u)) ∘ ea) = fun v => decide (v = u) := by
      funext v
      exact H.eq v u
    rw [e]
    by_cases h : u ∈ l
    · simp [h]
    · simp only [h, decide_false]
      rw [List.any_eq_false]
      intro v hv
      simp
      rintro rfl
      exact h hv
  rw [this]
  rfl⟩
/-- ints from one down to above the other -/
def rngd (a b : Int) : List Int := (List.range (a - b).toNat).map fun (i : Nat) => a - (i : Int)
theorem rg3 {k : Int} (h : Ev B a E (eI i)) (h' : Ev B b E (eI j)) (h'' : Ev B c E (eI k)) (hl : k = -1 ∧ -(2 ^ 62) ≤ i ∧ i < 2 ^ 62 ∧ -(2 ^ 62) ≤ j ∧ j < 2 ^ 62) : EvL B (mRangeDn (mArgs [a, b, c])) E ((rngd i j).map eI) := fun Δ M S => by
  obtain ⟨t, M1, h1, s1⟩ := h Δ M S
  obtain ⟨u, M2, h2, s2⟩ := h' Δ M1 (S.step s1)
  obtain ⟨v, M3, h3, s3⟩ := h'' Δ M2 ((S.step s1).step s2)
  refine ⟨true, M3, ?_, (s1.trans s2).trans s3⟩
  unfold mRangeDn mArgs mArgs mArgs
  rw [h1]
  simp only []
  rw [h2]
  simp only []
  rw [h3]
  unfold eI
  simp only [mArgs, if_pos hl]
  unfold rangeDn rngd
  rw [List.map_map]
  rfl
/-! texts of data -/
structure RpOk (x : PD) : Prop where
  sh : PyData.showable x = true
  len : x.shown.length ≤ 1000000
  lay : SeqAt.shaped x = true
  ok : PyData.strOk x.shown = true
theorem repr_at {x : PD} {t : Bool} {M : MS} (h : RpOk x) : bRepr [.d t x] M = some (.d true (.str x.shown), M) := by
  show (if PyData.showable x = true ∧ x.shown.length ≤ 1000000 ∧ SeqAt.shaped x = true then some (W.d true (PyData.str x.shown), M) else none) = _
  rw [if_pos ⟨h.sh, h.len, h.lay⟩]
theorem str_shaped {x : Str} (h : PyData.strOk x = true) : SeqAt.shaped (.str x) = true := by
  unfold SeqAt.shaped
  simp [PyData.canLay0, PyData.depth, h]
theorem y_reprne {x y : PD} (ha : Ev B a E x) (hb : Ev B b E y) (hx : RpOk x) (hy : RpOk y) : Ev B (mBin gNe (mFn bRepr (mArgs [a])) (mFn bRepr (mArgs [b]))) E (eB (!decide (x.shown = y.shown))) :=
  e_bin (e_fn1 ha fun t M => ⟨true, repr_at hx⟩) (e_fn1 hb fun t M => ⟨true, repr_at hy⟩) fun t s M => ⟨true, by
    rw [gNe_d (str_shaped hx.ok) (str_shaped hy.ok)]
    have : PyData.eqv (.str x.shown) (.str y.shown) = decide (x.shown = y.shown) := by
      show (x.shown == y.shown) = _
      by_cases h : x.shown = y.shown
      · simp [h]
      · simp [h]
    rw [this]
    rfl⟩
theorem y_repreq {x y : PD} (ha : Ev B a E x) (hb : Ev B b E y) (hx : RpOk x) (hy : RpOk y) : Ev B (mBin gEq (mFn bRepr (mArgs [a])) (mFn bRepr (mArgs [b]))) E (eB (decide (x.shown = y.shown))) :=
  e_bin (e_fn1 ha fun t M => ⟨true, repr_at hx⟩) (e_fn1 hb fun t M => ⟨true, repr_at hy⟩) fun t s M => ⟨true, by
    rw [gEq_d (str_shaped hx.ok) (str_shaped hy.ok)]
    have : PyData.eqv (.str x.shown) (.str y.shown) = decide (x.shown = y.shown) := by
      show (x.shown == y.shown) = _
      by_cases h : x.shown = y.shown
      · simp [h]
      · simp [h]
    rw [this]
    rfl⟩
def rep {α : Type} (l : List α) (n : Int) : List α := (List.replicate n.toNat l).flatten
theorem repL {l : List α} (ha : Ev B a E (eL ea l)) (hb : Ev B b E (eI i)) (h : (0 ≤ i ∧ i ≤ 1000) ∧ l.length ≤ 1000) : Ev B (mBin gMul a b) E (eL ea (rep l i)) := e_bin ha hb fun t s M => ⟨t, by
  show (if 0 ≤ i ∧ i ≤ 1000 ∧ (l.map ea).length ≤ 1000 then some (W.d t (.list (List.replicate i.toNat (l.map ea)).flatten), M) else none) = _
  rw [if_pos ⟨h.1.1, h.1.2, by simpa using h.2⟩]
  unfold eL rep
  rw [List.map_flatten, List.map_replicate]⟩
theorem y_isN0 (ha : Ev B a E .none) : Ev B (mUn gIs a) E (eB true) := e_un ha fun t M => ⟨true, rfl⟩
/-- old promises as new ones, for data that are no lists -/
def noL : PD → Bool
  | .list _ => false
  | _ => true
theorem isA_d {M : MS} {w : W} {x : PD} (h : isA M w (.d x)) (hx : noL x = true) : ∃ t, w = .d t x := by
  cases w with
  | d t y => cases h; exact ⟨t, rfl⟩
  | loc k => cases x <;> first | (cases hx; done) | (cases h; done)
  | s xs => cases h
  | fn y => cases h
theorem fnc1 {f : Fd} {x y : PD} (h : ∀ r M, ∃ t N, f [.d r x] M = some (.d t y, M ++ N)) (hx : noL x = true := by rfl) : FnC f [.d x] y := fun ws M hd => by
  cases hd with
  | cons h1 h2 =>
    cases h2
    obtain ⟨t, rfl⟩ := isA_d h1 hx
    obtain ⟨s, N, e⟩ := h t M
    exact ⟨s, _, e, .app N⟩
theorem fnc2 {f : Fd} {x y z : PD} (h : ∀ r s M, ∃ t N, f [.d r x, .d s y] M = some (.d t z, M ++ N)) (hx : noL x = true := by rfl) (hy : noL y = true := by rfl) : FnC f [.d x, .d y] z := fun ws M hd => by
  cases hd with
  | cons h1 h2 =>
    cases h2 with
    | cons h2 h3 =>
      cases h3
      obtain ⟨t, rfl⟩ := isA_d h1 hx
      obtain ⟨s, rfl⟩ := isA_d h2 hy
      obtain ⟨u, N, e⟩ := h t s M
      exact ⟨u, _, e, .app N⟩
theorem fnc3 {f : Fd} {x y z v : PD} (h : ∀ r s u M, ∃ t N, f [.d r x, .d s y, .d u z] M = some (.d t v, M ++ N)) (hx : noL x = true := by rfl) (hy : noL y = true := by rfl) (hz : noL z = true := by rfl) : FnC f [.d x, .d y, .d z] v := fun ws M hd => by
  cases hd with
  | cons h1 h2 =>
    cases h2 with
    | cons h2 h3 =>
      cases h3 with
      | cons h3 h4 =>
        cases h4
        obtain ⟨t, rfl⟩ := isA_d h1 hx
        obtain ⟨s, rfl⟩ := isA_d h2 hy
        obtain ⟨u, rfl⟩ := isA_d h3 hz
        obtain ⟨w, N, e⟩ := h t s u M
        exact ⟨w, _, e, .app N⟩
theorem ex0 {m : Option (W × MS)} {t : Bool} {x : PD} {M : MS} (h : m = some (.d t x, M)) : ∃ t N, m = some (.d t x, M ++ N) := ⟨t, [], by simpa using h⟩
end
end Ek

/-! EkW: code that draws from a flask -/
namespace Ek
open PySem PySem.Spec PyProof.Rows L2
/-- the flask: three ints at a place -/
def Fk (j : Nat) (M : MS) : Prop := ∃ a i c : Int, M[j]? = some (.lst true [.int a, .int i, .int c])
theorem Fk.app {j : Nat} {M : MS} (h : Fk j M) (N : MS) : Fk j (M ++ N) := by
  obtain ⟨a, i, c, h⟩ := h
  refine ⟨a, i, c, ?_⟩
  have : j < M.length := (List.getElem?_eq_some_iff.mp h).1
  rw [List.getElem?_append_left this]
  exact h
/-- a base with the flask in it -/
structure FkB (B : Bs) (j : Nat) : Prop where
  lt : j < B.n
  fk : ∀ M, B.P M → Fk j M
  up : ∀ M M', B.P M → M.length ≤ M'.length → (∀ k, k < B.n → k ≠ j → M'[k]? = M[k]?) → Fk j M' → B.P M'
def Wc (B : Bs) (m : Sm W) (E : AE) (K : PD → Prop) : Prop := ∀ Δ M, Sat B E Δ M → ∃ t x M', m Δ M = some (.d t x, M') ∧ K x ∧ Sat B E Δ M'
def WcA (B : Bs) (j : Nat) (ms : List (Sm W)) (E : AE) (K : List AV → Prop) : Prop := ∀ Δ M, Sat B E Δ M → ∃ ws vs M', mArgs ms Δ M = some (ws, M') ∧ UV ws vs ∧ K vs ∧ Sat B E Δ M'
def WcL (B : Bs) (m : Sm (Bool × List PD)) (E : AE) (K : List PD → Prop) : Prop := ∀ Δ M, Sat B E Δ M → ∃ t xs M', m Δ M = some ((t, xs), M') ∧ K xs ∧ Sat B E Δ M'
def WcT (B : Bs) (m : Sm Bool) (E : AE) (K : Bool → Prop) : Prop := ∀ Δ M, Sat B E Δ M → ∃ b M', m Δ M = some (b, M') ∧ K b ∧ Sat B E Δ M'
def WcS (B : Bs) (s : Ss) (E : AE) (K : PD → Prop) : Prop := ∀ Δ M, Sat B E Δ M → ∃ t Δ' M' x, s Δ M = some (.rt (.d t x), Δ', M') ∧ K x ∧ B.P M'
/-- what a call that draws may do -/
structure StepW (j : Nat) (M M' : MS) : Prop where
  len : M.length ≤ M'.length
  at_ : ∀ (k : Nat) (o : MO), k ≠ j → M[k]? = some o → M'[k]? = some o
  fk : Fk j M'
def FnW (j : Nat) (f : Fd) (vs : List AV) (K : PD → Prop) : Prop := ∀ ws M, UV ws vs → Fk j M → ∃ t x M', f ws M = some (.d t x, M') ∧ K x ∧ StepW j M M'
theorem UV.dv {M : MS} : ∀ {ws : List W} {vs : List AV}, UV ws vs → DV M ws vs
  | _, _, .nil => .nil
  | _, _, .d t => .cons rfl (UV.dv t)
  | _, _, .l t => .cons rfl (UV.dv t)
  | _, _, .s t => .cons rfl (UV.dv t)
  | _, _, .f t => .cons rfl (UV.dv t)
theorem UV.pl : ∀ {ws : List W} {vs : List AV} {k : Nat}, UV ws vs → Pl ws k → AV.loc k ∈ vs
  | _, _, k, .nil, h => by cases h
  | _, _, k, .d t, h => by
    cases h with
    | tail _ h => exact List.mem_cons_of_mem _ (UV.pl t h)
  | _, _, k, .l t, h => by
    cases h with
    | head => exact List.mem_cons_self
    | tail _ h => exact List.mem_cons_of_mem _ (UV.pl t h)
  | _, _, k, .s t, h => by
    cases h with
    | tail _ h => exact List.mem_cons_of_mem _ (UV.pl t h)
  | _, _, k, .f t, h => by
    cases h with
    | tail _ h => exact List.mem_cons_of_mem _ (UV.pl t h)
theorem UV.fz {M : MS} : ∀ {ws : List W} {vs : List AV}, UV ws vs → fzP (vs.map flg) ws M = some (ws, M)
  | _, _, .nil => rfl
  | _, _, .d (t := t) (x := x) (ws := ws) (vs := vs) u => by
    show (match fzP (vs.map flg) ws M with | some (us, M2) => some (W.d t x :: us, M2) | none => none) = _
    rw [UV.fz u]
  | _, _, .l (k := k) (ws := ws) (vs := vs) u => by
    show (match fzP (vs.map flg) ws M with | some (us, M2) => some (W.loc k :: us, M2) | none => none) = _
    rw [UV.fz u]
  | _, _, .s (xs := xs) (ws := ws) (vs := vs) u => by
    show (match fzP (vs.map flg) ws M with | some (us, M2) => some (W.s xs :: us, M2) | none => none) = _
    rw [UV.fz u]
  | _, _, .f (y := y) (ws := ws) (vs := vs) u => by
    show (match fzP (vs.map flg) ws M with | some (us, M2) => some (W.fn y :: us, M2) | none => none) = _
    rw [UV.fz u]
inductive Rel2 {α β : Type} (R : α → β → Prop) : List α → List β → Prop
  | nil : Rel2 R [] []
  | cons {a : α} {b : β} {l : List α} {m : List β} : R a b → Rel2 R l m → Rel2 R (a :: l) (b :: m)
theorem Rel2.length {α β : Type} {R : α → β → Prop} : ∀ {l : List α} {m : List β}, Rel2 R l m → m.length = l.length
  | _, _, .nil => rfl
  | _, _, .cons _ t => by simp [Rel2.length t]
theorem Rel2.all {α β : Type} {R : α → β → Prop} {P : β → Prop} (h : ∀ a b, R a b → P b) : ∀ {l : List α} {m : List β}, Rel2 R l m → ∀ b, b ∈ m → P b
  | _, _, .nil, b, hb => by cases hb
  | _, _, .cons r t, b, hb => by
    cases hb with
    | head => exact h _ _ r
    | tail _ hb => exact Rel2.all h t b hb
section
variable {B : Bs} {j : Nat} {E E' : AE} {a b c : Sm W} {x y z : PD} {i n : Nat} {p q : Sm Bool} {it : Sm (Bool × List PD)} {g : Tg} {K K' : PD → Prop} {α β : Type}
theorem FnW.mono {f : Fd} {vs : List AV} (h : FnW j f vs K) (k : ∀ x, K x → K' x) : FnW j f vs K' := fun ws M hd F => by
  obtain ⟨t, x, M', h1, h2, h3⟩ := h ws M hd F
  exact ⟨t, x, M', h1, k x h2, h3⟩
theorem wc_pure (h : Ev B a E x) (k : K x) : Wc B a E K := fun Δ M S => by
  obtain ⟨t, M1, h1, s1⟩ := h Δ M S
  exact ⟨t, x, M1, h1, k, S.step s1⟩
theorem wc_bin {g : W → W → MS → Option (W × MS)} (h : Wc B a E fun x => Wc B b E fun y => ∃ z, (∀ t s M, ∃ r, g (.d t x) (.d s y) M = some (.d r z, M)) ∧ K z) : Wc B (mBin g a b) E K := fun Δ M S => by
  obtain ⟨t, x, M1, h1, h2, F1⟩ := h Δ M S
  obtain ⟨s, y, M2, h3, ⟨z, h4, k⟩, F2⟩ := h2 Δ M1 F1
  obtain ⟨r, h5⟩ := h4 t s M2
  exact ⟨r, z, M2, by unfold mBin; rw [h1]; simp only []; rw [h3]; exact h5, k, F2⟩
theorem wcA_nil {K : List AV → Prop} (k : K []) : WcA B j [] E K := fun Δ M S => ⟨[], [], M, rfl, .nil, k, S⟩
theorem wcA_cons {ms : List (Sm W)} {K : List AV → Prop} (h : Wc B a E fun x => WcA B j ms E fun vs => K (.d x :: vs)) : WcA B j (a :: ms) E K := fun Δ M S => by
  obtain ⟨t, x, M1, h1, h2, F1⟩ := h Δ M S
  obtain ⟨ws, vs, M2, h3, h4, k, F2⟩ := h2 Δ M1 F1
  refine ⟨.d t x :: ws, .d x :: vs, M2, ?_, .d h4, k, F2⟩
  show (match a Δ M with | some (x, M1) => (match mArgs ms Δ M1 with | some (xs, M2) => some (x :: xs, M2) | none => none) | none => none) = _
  rw [h1]
  simp only []
  rw [h3]
theorem wcA_var {ms : List (Sm W)} {K : List AV → Prop} (ha : E[i]? = some (some (.loc j))) (h : WcA B j ms E fun vs => K (.loc j :: vs)) : WcA B j (mVar i :: ms) E K := fun Δ M S => by
  obtain ⟨w, h1, h4⟩ := S.sl i _ ha
  have e := isV_loc h4
  subst e
  obtain ⟨ws, vs, M2, h3, h5, k, F2⟩ := h Δ M S
  refine ⟨.loc j :: ws, .loc j :: vs, M2, ?_, .l h5, k, F2⟩
  show (match mVar i Δ M with | some (x, M1) => (match mArgs ms Δ M1 with | some (xs, M2) => some (x :: xs, M2) | none => none) | none => none) = _
  unfold mVar
  rw [h1]
  simp only []
  rw [h3]
theorem sat_w {Δ : Sl} {M M' : MS} (hB : FkB B j) (S : Sat B E Δ M) (s : StepW j M M') : Sat B E Δ M' := by
  have hj := hB.lt
  have hlen := B.le M S.base
  refine ⟨S.len, hB.up M M' S.base s.len (fun k hk hkj => ?_) s.fk, fun i v h => ?_, S.nd⟩
  · have e : M[k]? = some M[k] := List.getElem?_eq_getElem (by omega)
    rw [s.at_ k _ hkj e, e]
  · obtain ⟨w, h1, h2⟩ := S.sl i v h
    refine ⟨w, h1, ?_⟩
    cases v with
    | d x => obtain ⟨t, rfl⟩ := isV_d h2; rfl
    | loc m => have := isV_loc h2; subst this; rfl
    | s xs => have := isV_s h2; subst this; rfl
    | fn y => have := isV_fn h2; subst this; rfl
    | ml k xs =>
      obtain ⟨rfl, h3, t, h4⟩ := isV_ml h2
      exact ⟨rfl, h3, t, s.at_ k _ (by omega) h4⟩
    | lv k xs =>
      obtain ⟨rfl, h3, t, h4⟩ := isV_lv h2
      exact ⟨rfl, h3, t, h4.imp (s.at_ k _ (by omega)) (s.at_ k _ (by omega))⟩
    | md k xs =>
      obtain ⟨rfl, h3, h4⟩ := isV_md h2
      exact ⟨rfl, h3, s.at_ k _ (by omega) h4⟩
theorem wc_call (hB : FkB B j) {f : Fd} {ms : List (Sm W)} (h : WcA B j ms E fun vs => vs.length = n ∧ FnW j f vs K) : Wc B (mCall n f (mArgs ms)) E K := fun Δ M S => by
  obtain ⟨ws, vs, M1, h1, h2, ⟨h3, h4⟩, F1⟩ := h Δ M S
  obtain ⟨t, x, M2, h5, k, s2⟩ := h4 ws M1 h2 (hB.fk M1 F1.base)
  refine ⟨t, x, M2, ?_, k, sat_w hB F1 s2⟩
  unfold mCall
  rw [h1]
  simp only [h2.length, h3, if_true]
  exact h5
/-- a call that does not draw -/
theorem wc_callP {f : Fd} {ms : List (Sm W)} (h : WcA B j ms E fun vs => vs.length = n ∧ noLoc vs = true ∧ ∃ x, FnC f vs x ∧ K x) : Wc B (mCall n f (mArgs ms)) E K := fun Δ M S => by
  obtain ⟨ws, vs, M1, h1, h2, ⟨h3, h4, x, h5, k⟩, F1⟩ := h Δ M S
  obtain ⟨t, M2, h6, s2⟩ := h5 ws M1 h2.dv
  have st : Step E M1 M2 := ⟨s2.len, fun k o e => (s2.at_ k o e).imp id fun ⟨p, r⟩ => absurd (h2.pl p) (noLoc_ok h4 k)⟩
  refine ⟨t, x, M2, ?_, k, F1.step st⟩
  unfold mCall
  rw [h1]
  simp only [h2.length, h3, if_true]
  exact h6
theorem wc_fn1 {f : Fd} (h : Wc B a E fun x => ∃ y, (∀ t M, ∃ s, f [.d t x] M = some (.d s y, M)) ∧ K y) : Wc B (mFn f (mArgs [a])) E K := fun Δ M S => by
  obtain ⟨t, x, M1, h1, ⟨y, h2, k⟩, F1⟩ := h Δ M S
  obtain ⟨s, h3⟩ := h2 t M1
  refine ⟨s, y, M1, ?_, k, F1⟩
  unfold mFn mArgs
  rw [h1]
  simp only [mArgs]
  exact h3
/-- a display of data: one after the other -/
def WcD (B : Bs) (ms : List (Sm W)) (E : AE) (K : List PD → Prop) : Prop := ∀ Δ M, Sat B E Δ M → ∃ ts xs M', mArgs ms Δ M = some ((List.zip ts xs).map fun p => W.d p.1 p.2, M') ∧ ts.length = xs.length ∧ K xs ∧ Sat B E Δ M'
theorem wcD_nil {K : List PD → Prop} (k : K []) : WcD B [] E K := fun Δ M S => ⟨[], [], M, rfl, rfl, k, S⟩
theorem wcD_cons {ms : List (Sm W)} {K : List PD → Prop} (h : Wc B a E fun x => WcD B ms E fun xs => K (x :: xs)) : WcD B (a :: ms) E K := fun Δ M S => by
  obtain ⟨t, x, M1, h1, h2, F1⟩ := h Δ M S
  obtain ⟨ts, xs, M2, h3, h4, k, F2⟩ := h2 Δ M1 F1
  refine ⟨t :: ts, x :: xs, M2, ?_, by simp [h4], k, F2⟩
  show (match a Δ M with | some (x, M1) => (match mArgs ms Δ M1 with | some (xs, M2) => some (x :: xs, M2) | none => none) | none => none) = _
  rw [h1]
  simp only []
  rw [h3]
  rfl
theorem fzAll_zip : ∀ {ts : List Bool} {xs : List PD} {M : MS}, ts.length = xs.length → ∃ t, fzAll ((List.zip ts xs).map fun p => W.d p.1 p.2) M = some (t, xs, M)
  | [], [], M, _ => ⟨true, rfl⟩
  | t :: ts, x :: xs, M, h => by
    obtain ⟨s, hs⟩ := fzAll_zip (ts := ts) (xs := xs) (M := M) (by simpa using h)
    exact ⟨t && s, by simp only [List.zip_cons_cons, List.map_cons, fzAll, fz1, hs]⟩
  | [], _ :: _, _, h => by cases h
  | _ :: _, [], _, h => by cases h
theorem wc_tup {ms : List (Sm W)} (h : WcD B ms E fun xs => xs.length ≤ 1000 ∧ K (.tuple xs)) : Wc B (mTup (mArgs ms)) E K := fun Δ M S => by
  obtain ⟨ts, xs, M1, h1, h2, ⟨hl, k⟩, F1⟩ := h Δ M S
  obtain ⟨t, h3⟩ := fzAll_zip (M := M1) h2
  exact ⟨t, .tuple xs, M1, by unfold mTup; rw [h1]; simp only [h3, if_pos hl], k, F1⟩
theorem wcL_lst {ms : List (Sm W)} {K : List PD → Prop} (h : WcD B ms E fun xs => xs.length ≤ 1000 ∧ K xs) : WcL B (mLst (mArgs ms)) E K := fun Δ M S => by
  obtain ⟨ts, xs, M1, h1, h2, ⟨hl, k⟩, F1⟩ := h Δ M S
  obtain ⟨t, h3⟩ := fzAll_zip (M := M1) h2
  exact ⟨t, xs, M1, by unfold mLst; rw [h1]; simp only [h3, if_pos hl], k, F1⟩
theorem wc_old (h : WcL B it E fun xs => K (.list xs)) : Wc B (mOld it) E K := fun Δ M S => by
  obtain ⟨t, xs, M1, h1, k, F1⟩ := h Δ M S
  exact ⟨t, .list xs, M1, by unfold mOld; rw [h1], k, F1⟩
theorem wcL_pure {xs : List PD} {K : List PD → Prop} (h : EvL B it E xs) (k : K xs) : WcL B it E K := fun Δ M S => by
  obtain ⟨t, M1, h1, s1⟩ := h Δ M S
  exact ⟨t, xs, M1, h1, k, S.step s1⟩
theorem wcT_pure {k : Bool} {K : Bool → Prop} (h : EvT B p E k) (hk : K k) : WcT B p E K := fun Δ M S => by
  obtain ⟨M1, h1, s1⟩ := h Δ M S
  exact ⟨k, M1, h1, hk, S.step s1⟩
theorem wcT_B1 {K : Bool → Prop} (h : Wc B a E fun x => ∃ k, x = eB k ∧ K k) : WcT B (tB1 a) E K := fun Δ M S => by
  obtain ⟨t, x, M1, h1, ⟨k, rfl, hk⟩, F1⟩ := h Δ M S
  exact ⟨k, M1, by unfold tB1; rw [h1]; rfl, hk, F1⟩
theorem wcT_not {K : Bool → Prop} (h : WcT B p E fun k => K (!k)) : WcT B (tNot' p) E K := fun Δ M S => by
  obtain ⟨k, M1, h1, hk, F1⟩ := h Δ M S
  exact ⟨!k, M1, by unfold tNot'; rw [h1], hk, F1⟩
theorem wc_if (h : WcT B p E fun k => (k = true → Wc B a E K) ∧ (k = false → Wc B b E K)) : Wc B (mIf p a b) E K := fun Δ M S => by
  obtain ⟨k, M1, h1, ⟨h2, h3⟩, F1⟩ := h Δ M S
  cases k with
  | true =>
    obtain ⟨t, x, M2, h4, hk, F2⟩ := h2 rfl Δ M1 F1
    exact ⟨t, x, M2, by unfold mIf; rw [h1]; simp only [if_true]; exact h4, hk, F2⟩
  | false =>
    obtain ⟨t, x, M2, h4, hk, F2⟩ := h3 rfl Δ M1 F1
    exact ⟨t, x, M2, by unfold mIf; rw [h1]; simp only [Bool.false_eq_true, if_false]; exact h4, hk, F2⟩
theorem wcL_range1 {K : List PD → Prop} (h : Wc B a E fun x => ∃ i : Int, x = eI i ∧ (-(2 ^ 62) ≤ i ∧ i < 2 ^ 62) ∧ K ((rng 0 i).map eI)) : WcL B (mRange1 (mArgs [a])) E K := fun Δ M S => by
  obtain ⟨t, x, M1, h1, ⟨i, rfl, hl, k⟩, F1⟩ := h Δ M S
  refine ⟨true, _, M1, ?_, k, F1⟩
  unfold mRange1 mArgs
  rw [h1]
  unfold eI
  simp only [mArgs, if_pos hl]
  rw [← show (rng 0 i).map PyData.int = (rng 0 i).map fun i => PyData.int i from rfl, ← rngD]
  simp
theorem wcL_range2 {K : List PD → Prop} (h : Wc B a E fun x => ∃ i : Int, x = eI i ∧ Wc B b E fun y => ∃ m : Int, y = eI m ∧ (-(2 ^ 62) ≤ i ∧ i < 2 ^ 62 ∧ -(2 ^ 62) ≤ m ∧ m < 2 ^ 62) ∧ K ((rng i m).map eI)) : WcL B (mRange2 (mArgs [a, b])) E K := fun Δ M S => by
  obtain ⟨t, x, M1, h1, ⟨i, rfl, h2⟩, F1⟩ := h Δ M S
  obtain ⟨s, y, M2, h3, ⟨m, rfl, hl, k⟩, F2⟩ := h2 Δ M1 F1
  refine ⟨true, _, M2, ?_, k, F2⟩
  unfold mRange2 mArgs mArgs
  rw [h1]
  simp only []
  rw [h3]
  unfold eI
  simp only [mArgs, if_pos hl]
  rw [← show (rng i m).map PyData.int = (rng i m).map fun i => PyData.int i from rfl, ← rngD]
theorem wcL_items {K : List PD → Prop} (h : Wc B a E fun x => ∃ xs, (x = .list xs ∨ x = .tuple xs) ∧ K xs) : WcL B (mItems a) E K := fun Δ M S => by
  obtain ⟨t, x, M1, h1, ⟨xs, hx, k⟩, F1⟩ := h Δ M S
  rcases hx with rfl | rfl
  · exact ⟨t, xs, M1, by unfold mItems; rw [h1]; rfl, k, F1⟩
  · exact ⟨t, xs, M1, by unfold mItems; rw [h1]; rfl, k, F1⟩
/-- what a target's names change is undone behind -/
theorem sat_back {E1 : AE} {Δ Δ1 : Sl} {M M' : MS} (S : Sat B E Δ M) (S1 : Sat B E1 Δ1 M') (h : ∀ (i : Nat) (v : AV), E[i]? = some (some v) → plc v ≠ none → E1[i]? = some (some v) ∧ Δ1[i]? = Δ[i]?) : Sat B E Δ M' := by
  refine ⟨S.len, S1.base, fun i v hv => ?_, S.nd⟩
  obtain ⟨w, h1, h2⟩ := S.sl i v hv
  refine ⟨w, h1, ?_⟩
  cases v with
  | d x => obtain ⟨t, rfl⟩ := isV_d h2; rfl
  | loc m => have := isV_loc h2; subst this; rfl
  | s xs => have := isV_s h2; subst this; rfl
  | fn y => have := isV_fn h2; subst this; rfl
  | ml k xs =>
    obtain ⟨h3, h4⟩ := h i _ hv (by intro e; cases e)
    obtain ⟨w', h5, h6⟩ := S1.sl i _ h3
    rw [h4, h1] at h5
    cases h5
    exact h6
  | lv k xs =>
    obtain ⟨h3, h4⟩ := h i _ hv (by intro e; cases e)
    obtain ⟨w', h5, h6⟩ := S1.sl i _ h3
    rw [h4, h1] at h5
    cases h5
    exact h6
  | md k xs =>
    obtain ⟨h3, h4⟩ := h i _ hv (by intro e; cases e)
    obtain ⟨w', h5, h6⟩ := S1.sl i _ h3
    rw [h4, h1] at h5
    cases h5
    exact h6
/-- own lists are none of what a comprehension's names hold -/
def OwnKept (E E' : AE) : Prop := ∀ (i : Nat) (v : AV), E[i]? = some (some v) → plc v ≠ none → E'[i]? = some (some v)
/-- no own lists at all -/
def noOwn : AE → Bool
  | [] => true
  | some (.ml _ _) :: _ => false
  | some (.lv _ _) :: _ => false
  | some (.md _ _) :: _ => false
  | _ :: r => noOwn r
theorem noOwn_ok : ∀ {E : AE}, noOwn E = true → ∀ (i : Nat) (v : AV), E[i]? = some (some v) → plc v = none
  | [], _, i, v, h => by simp at h
  | none :: r, e, 0, v, h => by simp at h
  | none :: r, e, i + 1, v, h => noOwn_ok (E := r) e i v (by simpa using h)
  | some (.d _) :: r, e, 0, v, h => by simp at h; subst h; rfl
  | some (.d _) :: r, e, i + 1, v, h => noOwn_ok (E := r) e i v (by simpa using h)
  | some (.loc _) :: r, e, 0, v, h => by simp at h; subst h; rfl
  | some (.loc _) :: r, e, i + 1, v, h => noOwn_ok (E := r) e i v (by simpa using h)
  | some (.s _) :: r, e, 0, v, h => by simp at h; subst h; rfl
  | some (.s _) :: r, e, i + 1, v, h => noOwn_ok (E := r) e i v (by simpa using h)
  | some (.fn _) :: r, e, 0, v, h => by simp at h; subst h; rfl
  | some (.fn _) :: r, e, i + 1, v, h => noOwn_ok (E := r) e i v (by simpa using h)
  | some (.ml _ _) :: r, e, i, v, h => by cases e
  | some (.lv _ _) :: r, e, i, v, h => by cases e
  | some (.md _ _) :: r, e, i, v, h => by cases e
theorem sat_mem {Δ Δ1 : Sl} {E1 : AE} {M M' : MS} (ho : noOwn E = true) (S : Sat B E Δ M) (S1 : Sat B E1 Δ1 M') : Sat B E Δ M' :=
  sat_back S S1 fun i v h hp => absurd (noOwn_ok ho i v h) hp
theorem lcw_go (enc : α → PD) (encb : β → PD) (R : α → β → Prop) (l : List α) {te : Sm W} (ho : noOwn E = true) (h : ∀ z, z ∈ l → ∃ E', TgA g (enc z) E E' ∧ Wc B te E' fun y => ∃ b, R z b ∧ y = encb b) (t : Bool) (Δ : Sl) : ∀ M, Sat B E Δ M → ∃ s bs M', lcGo t g tTrue te Δ (l.map enc) M = some ((s, bs.map encb), M') ∧ Rel2 R l bs ∧ Sat B E Δ M' := by
  induction l with
  | nil => exact fun M S => ⟨true, [], M, by simp [lcGo], .nil, S⟩
  | cons z l ih =>
    intro M S
    obtain ⟨E', h1, h2⟩ := h z List.mem_cons_self
    obtain ⟨Δ1, g1, S1⟩ := h1.2 B t Δ M S
    obtain ⟨s, y, M1, k1, ⟨b, hb, rfl⟩, F1⟩ := h2 Δ1 M S1
    obtain ⟨s2, bs, M2, k2, k3, F2⟩ := ih (fun z hz => h z (List.mem_cons_of_mem _ hz)) M1 (sat_mem ho S F1)
    refine ⟨s && s2, b :: bs, M2, ?_, .cons hb k3, F2⟩
    simp [lcGo, g1, tTrue]
    rw [k1]
    simp [fz1]
    rw [k2]
theorem noOwn_set : ∀ {E : AE} {i : Nat}, noOwn E = true → noOwn (E.set i none) = true
  | [], _, _ => rfl
  | none :: r, 0, h => h
  | none :: r, i + 1, h => noOwn_set (E := r) h
  | some (.d _) :: r, 0, h => h
  | some (.d _) :: r, i + 1, h => noOwn_set (E := r) h
  | some (.loc _) :: r, 0, h => h
  | some (.loc _) :: r, i + 1, h => noOwn_set (E := r) h
  | some (.s _) :: r, 0, h => h
  | some (.s _) :: r, i + 1, h => noOwn_set (E := r) h
  | some (.fn _) :: r, 0, h => h
  | some (.fn _) :: r, i + 1, h => noOwn_set (E := r) h
  | some (.ml _ _) :: r, _, h => by cases h
  | some (.lv _ _) :: r, _, h => by cases h
theorem noOwn_wipe (h : noOwn E = true) : ∀ vs : List Nat, noOwn (wipeA E vs) = true
  | [] => h
  | _ :: vs => noOwn_set (noOwn_wipe h vs)
theorem sat_unwipe {Δ : Sl} {M M' : MS} {vs : List Nat} (ho : noOwn E = true) (S : Sat B E Δ M) (S1 : Sat B (wipeA E vs) (wipeD Δ vs) M') : Sat B E Δ M' := sat_mem ho S S1
theorem wcL_lc {K : List PD → Prop} (enc : α → PD) (encb : β → PD) (R : α → β → Prop) {te : Sm W} {vs : List Nat} (h : WcL B it E fun xs => ∃ l : List α, xs = l.map enc ∧ l.length ≤ 100000 ∧ (∀ z, z ∈ l → ∃ E', TgA g (enc z) (wipeA E vs) E' ∧ Wc B te E' fun y => ∃ b, R z b ∧ y = encb b) ∧ ∀ bs, Rel2 R l bs → K (bs.map encb)) (ho : noOwn E = true := by rfl) : WcL B (mLc it g tTrue te vs) E K := fun Δ M S => by
  obtain ⟨t, xs, M1, h1, ⟨l, rfl, hl, h2, k⟩, F1⟩ := h Δ M S
  obtain ⟨s, bs, M2, h3, h4, F2⟩ := lcw_go enc encb R l (noOwn_wipe ho vs) h2 t (wipeD Δ vs) M1 (sat_wipe F1 vs)
  exact ⟨s, _, M2, by unfold mLc; rw [h1]; simp only []; rw [if_pos (by simpa using hl), h3], k bs h4, sat_unwipe ho F1 F2⟩
/-! statements -/
variable {s t r : Ss}
theorem ws_pure (h : EvS B s E (.rt x)) (k : K x) : WcS B s E K := fun Δ M S => by
  obtain ⟨f, Δ', M1, h1, m1⟩ := h Δ M S
  cases f with
  | rt w =>
    obtain ⟨⟨t, rfl⟩, hP⟩ := m1
    exact ⟨t, Δ', M1, x, h1, k, hP⟩
  | nx => cases m1
  | bk => cases m1
  | ct => cases m1
theorem ws_ret (h : Wc B a E K) : WcS B (sSeq (sRet a) t) E K := fun Δ M S => by
  obtain ⟨u, x, M1, h1, k, F1⟩ := h Δ M S
  exact ⟨u, Δ, M1, x, by unfold sSeq sRet; rw [h1]; rfl, k, F1.base⟩
theorem ws_set (h : Wc B a E fun x => WcS B t (E.set i (some (.d x))) K) : WcS B (sSeq (sSet i a) t) E K := fun Δ M S => by
  obtain ⟨u, x, M1, h1, h2, F1⟩ := h Δ M S
  obtain ⟨w, Δ', M2, z, h3, k, F2⟩ := h2 _ M1 (sat_set F1 i ⟨u, rfl⟩)
  exact ⟨w, Δ', M2, z, by unfold sSeq sSet; rw [h1]; exact h3, k, F2⟩
theorem ws_drop (h : Wc B a E fun _ => WcS B t E K) : WcS B (sSeq (sDrop a) t) E K := fun Δ M S => by
  obtain ⟨u, x, M1, h1, h2, F1⟩ := h Δ M S
  obtain ⟨w, Δ', M2, z, h3, k, F2⟩ := h2 _ M1 F1
  exact ⟨w, Δ', M2, z, by unfold sSeq sDrop; rw [h1]; exact h3, k, F2⟩
theorem ws_par {i k : Nat} {K : PD → Prop} (h : Wc B a E fun x => Wc B b E fun y => WcS B t ((E.set i (some (.d x))).set k (some (.d y))) K) : WcS B (sSeq (sPar i k (mArgs [a, b])) t) E K := fun Δ M S => by
  obtain ⟨u, x, M1, h1, h2, F1⟩ := h Δ M S
  obtain ⟨v, y, M2, h3, h4, F2⟩ := h2 Δ M1 F1
  obtain ⟨w, Δ', M3, z, h5, kk, F3⟩ := h4 _ M2 (sat_set (sat_set F2 i ⟨u, rfl⟩) k ⟨v, rfl⟩)
  refine ⟨w, Δ', M3, z, ?_, kk, F3⟩
  unfold sSeq sPar mArgs mArgs mArgs
  rw [h1]
  simp only []
  rw [h3]
  exact h5
theorem ws_par3 {i k l : Nat} {K : PD → Prop} (h : Wc B a E fun x => Wc B b E fun y => Wc B c E fun z => WcS B t (((E.set i (some (.d x))).set k (some (.d y))).set l (some (.d z))) K) : WcS B (sSeq (sPar3 i k l (mArgs [a, b, c])) t) E K := fun Δ M S => by
  obtain ⟨u, x, M1, h1, h2, F1⟩ := h Δ M S
  obtain ⟨v, y, M2, h3, h4, F2⟩ := h2 Δ M1 F1
  obtain ⟨o, z, M3, h7, h8, F3⟩ := h4 Δ M2 F2
  obtain ⟨w, Δ', M4, zz, h5, kk, F4⟩ := h8 _ M3 (sat_set (sat_set (sat_set F3 i ⟨u, rfl⟩) k ⟨v, rfl⟩) l ⟨o, rfl⟩)
  refine ⟨w, Δ', M4, zz, ?_, kk, F4⟩
  unfold sSeq sPar3 mArgs mArgs mArgs mArgs
  rw [h1]
  simp only []
  rw [h3]
  simp only []
  rw [h7]
  exact h5
theorem ws_if (h : WcT B p E fun k => (k = true → WcS B (sSeq s r) E K) ∧ (k = false → WcS B (sSeq t r) E K)) : WcS B (sSeq (sIf p s t) r) E K := fun Δ M S => by
  obtain ⟨k, M1, h1, ⟨h2, h3⟩, F1⟩ := h Δ M S
  cases k with
  | true =>
    obtain ⟨w, Δ', M2, z, h4, kk, F2⟩ := h2 rfl Δ M1 F1
    refine ⟨w, Δ', M2, z, ?_, kk, F2⟩
    rw [← h4]
    unfold sSeq sIf
    rw [h1]
    rfl
  | false =>
    obtain ⟨w, Δ', M2, z, h4, kk, F2⟩ := h3 rfl Δ M1 F1
    refine ⟨w, Δ', M2, z, ?_, kk, F2⟩
    rw [← h4]
    unfold sSeq sIf
    rw [h1]
    rfl
theorem ws_seq {E1 : AE} (h : EvS B s E (.nx E1)) (h' : WcS B t E1 K) : WcS B (sSeq s t) E K := fun Δ M S => by
  obtain ⟨f, Δ1, M1, h1, m1⟩ := h Δ M S
  cases f with
  | nx =>
    obtain ⟨w, Δ', M2, z, h4, kk, F2⟩ := h' Δ1 M1 m1
    exact ⟨w, Δ', M2, z, by unfold sSeq; rw [h1]; exact h4, kk, F2⟩
  | rt w => cases m1
  | bk => cases m1
  | ct => cases m1
theorem ws_wk (w : WkE E E') (h : WcS B s E' K) : WcS B s E K := fun Δ M S => h Δ M (sat_wk w S)
theorem ws_skip (h : WcS B r E K) : WcS B (sSeq sNext r) E K := h
theorem ws_assoc (h : WcS B (sSeq s (sSeq t r)) E K) : WcS B (sSeq (sSeq s t) r) E K := fun Δ M S => by
  obtain ⟨w, Δ', M2, z, h4, kk, F2⟩ := h Δ M S
  refine ⟨w, Δ', M2, z, ?_, kk, F2⟩
  rw [← h4]
  unfold sSeq
  cases s Δ M with
  | none => rfl
  | some u => obtain ⟨f, Δ2, M2⟩ := u; cases f <;> rfl
/-- all but the flask that stood before stays -/
def bsF (M0 : MS) (j : Nat) : Bs := ⟨M0.length, fun M => M0.length ≤ M.length ∧ (∀ k, k < M0.length → k ≠ j → M[k]? = M0[k]?) ∧ Fk j M ∧ j < M0.length, fun M h => h.1, fun M M' h l e => ⟨Nat.le_trans h.1 l, fun k hk hkj => (e k hk).trans (h.2.1 k hk hkj), by
  obtain ⟨a, i, c, hf⟩ := h.2.2.1
  exact ⟨a, i, c, (e j h.2.2.2).trans hf⟩, h.2.2.2⟩⟩
theorem bsF_ok {M0 : MS} (h : j < M0.length) : FkB (bsF M0 j) j := ⟨h, fun M hM => hM.2.2.1, fun M M' hM l e f => ⟨Nat.le_trans hM.1 l, fun k hk hkj => (e k hk hkj).trans (hM.2.1 k hk hkj), f, h⟩⟩
theorem fn_w {vs : List AV} {fz : List Bool} (hf : fz = vs.map flg) (h : ∀ B, FkB B j → WcS B s (vs.map some ++ List.replicate (n - vs.length) none) K) : FnW j (semFz fz n s) vs K := fun ws M1 u F => by
  have e1 := u.fz (M := M1)
  have hj : j < M1.length := by
    obtain ⟨a, i, c, h⟩ := F
    exact (List.getElem?_eq_some_iff.mp h).1
  obtain ⟨t, Δ', M2, z, h1, k, hP⟩ := h (bsF M1 j) (bsF_ok hj) _ M1 (uv_sat u ⟨Nat.le_refl _, fun _ _ _ => rfl, F, hj⟩)
  refine ⟨t, z, M2, ?_, k, hP.1, fun k o hkj e => ?_, hP.2.2.1⟩
  · subst hf
    unfold semFz
    rw [e1]
    unfold semF
    simp only []
    rw [h1]
  · have hk : k < M1.length := (List.getElem?_eq_some_iff.mp e).1
    exact (hP.2.1 k hk hkj).trans e
/-! operations, told apart from where their arguments come from -/
theorem o_add {x y : Int} : ∀ t s M, ∃ r, gAdd (.d t (eI x)) (.d s (eI y)) M = some (.d r (eI (x + y)), M) := fun t s M => ⟨_, rfl⟩
theorem o_sub {x y : Int} : ∀ t s M, ∃ r, gSub (.d t (eI x)) (.d s (eI y)) M = some (.d r (eI (x - y)), M) := fun t s M => ⟨_, rfl⟩
theorem o_mul {x y : Int} (h : CMulE x y) : ∀ t s M, ∃ r, gMul (.d t (eI x)) (.d s (eI y)) M = some (.d r (eI (x * y)), M) := fun t s M => ⟨_, gMul_i h⟩
theorem o_fdiv {x y : Int} (h : CDivW x y) : ∀ t s M, ∃ r, gFdiv (.d t (eI x)) (.d s (eI y)) M = some (.d r (eI (x / y)), M) := fun t s M => ⟨_, gFdiv_i h⟩
theorem o_mod {x y : Int} (h : 0 < y) : ∀ t s M, ∃ r, gMod (.d t (eI x)) (.d s (eI y)) M = some (.d r (eI (x % y)), M) := fun t s M => ⟨_, gMod_i h⟩
theorem o_eq [DecidableEq α] {ea : α → PD} {u v : α} {n : Nat} (H : EqOk n ea) (hn : n ≤ 64) : ∀ t s M, ∃ r, gEq (.d t (ea u)) (.d s (ea v)) M = some (.d r (eB (decide (u = v))), M) := fun t s M => ⟨_, by rw [gEq_d (H.sh hn u) (H.sh hn v), H.eq]; rfl⟩
theorem o_lt {x y : Int} : ∀ t s M, ∃ r, gLt (.d t (eI x)) (.d s (eI y)) M = some (.d r (eB (decide (x < y))), M) := fun t s M => ⟨_, gLt_i⟩
theorem o_p0 {ea : α → PD} {eb : β → PD} {p : α × β} : ∀ t s M, ∃ r, gIx (.d t (eP ea eb p)) (.d s (.int 0)) M = some (.d r (ea p.1), M) := fun t s M => ⟨_, gIx_0⟩
theorem o_p1 {ea : α → PD} {eb : β → PD} {p : α × β} : ∀ t s M, ∃ r, gIx (.d t (eP ea eb p)) (.d s (.int 1)) M = some (.d r (eb p.2), M) := fun t s M => ⟨_, gIx_1⟩
theorem o_ixL [Inhabited α] {ea : α → PD} {l : List α} {i : Int} (h : IxOk l.length i) : ∀ t s M, ∃ r, gIx (.d t (eL ea l)) (.d s (eI i)) M = some (.d r (ea (ix l i)), M) := fun t s M => ⟨nf t (ea (ix l i)), by
  show (match atI (l.map ea) i with | some y => some (W.d (nf t y) y, M) | none => none) = _
  rw [atI_map, ix_some h]
  rfl⟩
theorem o_ixT [Inhabited α] {ea : α → PD} {l : List α} {i : Int} (h : IxOk l.length i) : ∀ t s M, ∃ r, gIx (.d t (eT ea l)) (.d s (eI i)) M = some (.d r (ea (ix l i)), M) := fun t s M => ⟨nf t (ea (ix l i)), by
  show (match atI (l.map ea) i with | some y => some (W.d (nf t y) y, M) | none => none) = _
  rw [atI_map, ix_some h]
  rfl⟩
theorem o_catL {ea : α → PD} {l m : List α} (h : l.length + m.length ≤ 10000) : ∀ t s M, ∃ r, gAdd (.d t (eL ea l)) (.d s (eL ea m)) M = some (.d r (eL ea (l ++ m)), M) := fun t s M => ⟨t && s, by
  show (if (l.map ea).length + (m.map ea).length ≤ 10000 then some (W.d (t && s) (PyData.list (l.map ea ++ m.map ea)), M) else none) = _
  rw [if_pos (by simpa using h), ← List.map_append]
  rfl⟩
theorem o_tupL {ea : α → PD} {l : List α} : ∀ t M, ∃ s, bTuple [.d t (eL ea l)] M = some (.d s (eT ea l), M) := fun t M => ⟨t, rfl⟩
theorem o_lenL {ea : α → PD} {l : List α} : ∀ t M, ∃ s, bLen [.d t (eL ea l)] M = some (.d s (eI l.length), M) := fun t M => ⟨true, by unfold eL; rw [bLen_l]; simp [eI]⟩
theorem o_lenT {ea : α → PD} {l : List α} : ∀ t M, ∃ s, bLen [.d t (eT ea l)] M = some (.d s (eI l.length), M) := fun t M => ⟨true, by unfold eT; rw [bLen_t]; simp [eI]⟩
theorem wc_sortset (h : Wc B a E fun x => ∃ l : List Int, x = eL eI l ∧ l.length < 64 ∧ K (eL eI (upI l))) : Wc B (mOld (mSortSet a)) E K := fun Δ M S => by
  obtain ⟨t, x, M1, h1, ⟨l, rfl, hl, k⟩, F1⟩ := h Δ M S
  refine ⟨true, _, M1, ?_, k, F1⟩
  unfold mOld mSortSet
  rw [h1]
  have e : rdL (.d t (eL eI l)) M1 = some (t, l.map eI) := rfl
  simp only [e, intsL, if_pos hl]
  rfl
theorem e_sortset {l : List Int} (h : Ev B a E (eL eI l)) (hl : l.length < 64) : Ev B (mOld (mSortSet a)) E (eL eI (upI l)) := fun Δ M S => by
  obtain ⟨t, M1, h1, s1⟩ := h Δ M S
  refine ⟨true, M1, ?_, s1⟩
  unfold mOld mSortSet
  rw [h1]
  have e : rdL (.d t (eL eI l)) M1 = some (t, l.map eI) := rfl
  simp only [e, intsL, if_pos hl]
  rfl
end
end Ek

/-! EkM: plain facts -/
namespace Ek
open PySem PySem.Spec PyProof.Rows L2
theorem mem_rng {a b i : Int} : i ∈ rng a b ↔ a ≤ i ∧ i < b := by
  unfold rng
  rw [List.mem_map]
  constructor
  · rintro ⟨n, hn, rfl⟩
    rw [List.mem_range] at hn
    omega
  · intro ⟨h1, h2⟩
    exact ⟨(i - a).toNat, by rw [List.mem_range]; omega, by omega⟩
theorem rng_len (a b : Int) : (rng a b).length = (b - a).toNat := by unfold rng; simp
theorem rng0 (n : Nat) : rng 0 (n : Int) = (List.range n).map fun (i : Nat) => (i : Int) := by
  unfold rng
  have : ((n : Int) - 0).toNat = n := by omega
  rw [this]
  simp
theorem map_rng_ix {α β : Type} [Inhabited α] (l : List α) (f : α → β) : (rng 0 (l.length : Int)).map (fun i => f (ix l i)) = l.map f := by
  rw [rng0, List.map_map]
  apply List.ext_getElem
  · simp
  · intro i h1 h2
    have hi : i < l.length := by simpa using h2
    simp [ix_nat hi]
theorem foldl_sum (l : List Rat) : List.foldl (fun (s : Rat) (z : Rat) => s + z) 0 l = l.sum := by
  suffices h : ∀ (l : List Rat) (a : Rat), List.foldl (fun (s : Rat) (z : Rat) => s + z) a l = a + l.sum by rw [h, Rat.zero_add]
  intro l
  induction l with
  | nil => intro a; simp [Rat.add_zero]
  | cons z l ih => intro a; rw [List.foldl_cons, ih, List.sum_cons, Rat.add_assoc]
theorem foldl_flat {α β : Type} (f : α → List β) (l : List α) : List.foldl (fun (s : List β) (z : α) => s ++ f z) [] l = l.flatMap f := by
  suffices h : ∀ (l : List α) (a : List β), List.foldl (fun (s : List β) (z : α) => s ++ f z) a l = a ++ l.flatMap f by rw [h]; rfl
  intro l
  induction l with
  | nil => intro a; simp
  | cons z l ih => intro a; rw [List.foldl_cons, ih, List.flatMap_cons, List.append_assoc]
/-! ascending ints -/
theorem insU_len {x : Int} : ∀ {l : List Int}, (insU x l).length ≤ l.length + 1 ∧ 0 < (insU x l).length
  | [] => by simp [insU]
  | z :: l => by
    have := insU_len (x := x) (l := l)
    unfold insU
    split
    · simp
    · split
      · simp
      · simp; omega
theorem upI_len : ∀ {l : List Int}, (upI l).length ≤ l.length
  | [] => by simp [upI]
  | x :: l => by
    have h1 := upI_len (l := l)
    have h2 := insU_len (x := x) (l := upI l)
    unfold upI
    simp
    omega
theorem upI_ne {l : List Int} (h : l ≠ []) : 0 < (upI l).length := by
  cases l with
  | nil => exact absurd rfl h
  | cons x l => unfold upI; exact insU_len.2
/-! sizes -/
theorem Bd.zero {D : Nat} : Bd D 0 0 := ⟨0, by simp, by simp⟩
theorem Bd.one {D : Nat} : Bd D D 1 := ⟨D, by simp, by rw [Rat.one_mul, Rat.intCast_natCast]⟩
theorem Bd.neg {D N : Nat} {p : Rat} (h : Bd D N p) : Bd D N (-p) := by
  obtain ⟨n, h1, h2⟩ := h
  exact ⟨-n, by omega, by rw [Rat.neg_mul, h2, Rat.intCast_neg]⟩
theorem Bd.sub {D N L : Nat} {p q : Rat} (h : Bd D N p) (k : Bd D L q) : Bd D (N + L) (p - q) := by
  rw [Rat.sub_eq_add_neg]
  exact h.add k.neg
theorem Bd.sum {D N : Nat} : ∀ {l : List Rat}, (∀ q, q ∈ l → Bd D N q) → Bd D (l.length * N) l.sum
  | [], _ => by simpa using Bd.zero
  | a :: l, h => by
    have h1 := Bd.sum fun q hq => h q (List.mem_cons_of_mem _ hq)
    have h2 := h a List.mem_cons_self
    rw [List.sum_cons, List.length_cons, Nat.succ_mul, Nat.add_comm]
    exact h2.add h1
theorem Bd.sm {D N : Nat} {p : Rat} (h : Bd D N p) (h0 : D ≠ 0) (hD : D < 2 ^ 480) (hN : N < 2 ^ 480) : Sm' p := h.sz h0 hD hN
/-- sums have small parts -/
theorem sums_sm {D N : Nat} {l : List Rat} (h : ∀ q, q ∈ l → Bd D N q) (h0 : D ≠ 0) (hD : D < 2 ^ 480) (hN : l.length * N < 2 ^ 480) : ∀ (dn : List Rat) (z : Rat) (rs : List Rat), l = dn ++ z :: rs → ∀ s, s = List.foldl (fun (s : Rat) (z : Rat) => s + z) 0 dn → Sm2 s z := by
  intro dn z rs e s hs
  rw [foldl_sum] at hs
  subst hs
  have hl : dn.length + 1 ≤ l.length := by rw [e]; simp
  have h1 : dn.length * N ≤ l.length * N := Nat.mul_le_mul_right _ (by omega)
  have h2 : 1 * N ≤ l.length * N := Nat.mul_le_mul_right _ (by omega)
  exact ⟨(Bd.sum fun q hq => h q (by rw [e]; exact List.mem_append_left _ hq)).sm h0 hD (by omega), (h z (by rw [e]; simp)).sm h0 hD (by omega)⟩
theorem Sz.sm {b : Nat} {p : Rat} (h : Sz b p) (l : b ≤ 480) : Sm' p := h.mono l
theorem mk_mul (a : Int) {d : Nat} (h : d ≠ 0) : mkRat a d * (d : Rat) = (a : Rat) := by
  have hd : (d : Rat) ≠ 0 := by
    intro e
    exact h (by exact_mod_cast e)
  rw [Rat.mkRat_eq_div]
  grind
theorem mk_bd {a : Int} {d N : Nat} (h : d ≠ 0) (l : a.natAbs ≤ N) : Bd d N (mkRat a d) := ⟨a, l, mk_mul a h⟩
theorem mk_lt {a b : Int} {d : Nat} (h : d ≠ 0) (l : a < b) : mkRat a d < mkRat b d := by
  have hd : (0 : Rat) < (d : Rat) := by
    have : 0 < d := Nat.pos_of_ne_zero h
    exact_mod_cast this
  have h1 := mk_mul a h
  have h2 := mk_mul b h
  have h3 : (a : Rat) < (b : Rat) := by exact_mod_cast l
  rw [← h1, ← h2] at h3
  exact (Rat.mul_lt_mul_right hd).mp h3
theorem cut1 {α : Type} (z : α) (l : List α) : cut (z :: l) none (some 1) = [z] := by rw [cut_to1]; rfl
theorem foldR_ok {α σ β : Type} {step : σ → α → σ ⊕ β} {l : List α} {u : σ} (h : ∀ z, z ∈ l → step u z = .inl u) : foldR step l u = .inl u := by
  induction l with
  | nil => rfl
  | cons z l ih =>
    show (match step u z with | .inl v => foldR step l v | .inr b => .inr b) = _
    rw [h z List.mem_cons_self]
    exact ih fun z hz => h z (List.mem_cons_of_mem _ hz)
end Ek

/-! EkP: texts of nested data -/
namespace Ek
open PySem PySem.Spec PyProof.Rows L2
/-- a short sound text -/
structure Gt (L : Nat) (s : Str) : Prop where
  len : s.length ≤ L
  ok : ∀ c, c ∈ s.cps.toList → c < 0x110000
theorem Gt.app {L K : Nat} {a b : Str} (h : Gt L a) (k : Gt K b) : Gt (L + K) (a ++ b) := ⟨by
  rw [Str.length_append]
  have := h.len
  have := k.len
  omega, fun c hc => by
    rcases mem_cps_append.mp hc with h1 | h1
    · exact h.ok c h1
    · exact k.ok c h1⟩
theorem Gt.mono {L K : Nat} {a : Str} (h : Gt L a) (l : L ≤ K) : Gt K a := ⟨Nat.le_trans h.len l, h.ok⟩
theorem gt_of (s : String) {L : Nat} (h : s.length ≤ L) : Gt L (Str.ofString s) := ⟨by rw [PySem.ofString_length]; exact h, fun c hc => by
  rw [signs_ofString] at hc
  obtain ⟨d, _, rfl⟩ := List.mem_map.mp hc
  have := d.valid
  unfold UInt32.isValidChar Nat.isValidChar at this
  show d.val.toNat < _
  omega⟩
theorem gt_join {L : Nat} : ∀ {ts : List Str}, (∀ t, t ∈ ts → Gt L t) → Gt (ts.length * (L + 2)) (Str.join ", " ts)
  | [], _ => ⟨by rw [join_nil]; simp [Str.empty, Str.length], by rw [join_nil, signs_empty]; simp⟩
  | [x], h => by
    rw [join_one]
    exact (h x (by simp)).mono (by simp)
  | x :: y :: r, h => by
    rw [join_cons_cons]
    have h1 := h x (by simp)
    have h2 := gt_join (ts := y :: r) fun t ht => h t (List.mem_cons_of_mem _ ht)
    refine ((h1.app (gt_of ", " (L := 2) (by decide))).app h2).mono ?_
    simp only [List.length_cons]
    rw [Nat.succ_mul (r.length + 1)]
    omega
theorem gt_from {L : Nat} : ∀ {ts : List Str} {k K : Nat} {acc : Str}, Gt K acc → (∀ t, t ∈ ts → Gt L t) → Gt (K + ts.length * (L + 2)) (textFrom k acc ts)
  | [], k, K, acc, h, _ => by simpa [textFrom] using h
  | t :: ts, k, K, acc, h, ht => by
    have h1 : Gt 2 (Str.ofString (if k > 0 then ", " else "")) := gt_of _ (by split <;> decide)
    have h2 := (h.app h1).app (ht t (by simp))
    refine (gt_from (ts := ts) (k := k + 1) h2 fun t h => ht t (List.mem_cons_of_mem _ h)).mono ?_
    rw [List.length_cons, Nat.succ_mul]
    omega
/-- data with a short sound text -/
structure Rq (n L : Nat) (x : PD) : Prop where
  sh : PyData.showable x = true
  gt : Gt L x.shown
  lay : PyData.canLay0 x = true
  dep : PyData.depth x ≤ n
theorem Rq.mono {n m L K : Nat} {x : PD} (h : Rq n L x) (l : n ≤ m) (k : L ≤ K) : Rq m K x := ⟨h.sh, h.gt.mono k, h.lay, Nat.le_trans h.dep l⟩
theorem Rq.rp {n L : Nat} {x : PD} (h : Rq n L x) (l : n ≤ 64) (k : L ≤ 1000000) : RpOk x := ⟨h.sh, Nat.le_trans h.gt.len k, by
  unfold SeqAt.shaped
  have := h.dep
  simp [h.lay]
  omega, by
  unfold PyData.strOk
  rw [← Array.all_toList, List.all_eq_true]
  intro c hc
  simpa using h.gt.ok c hc⟩
theorem rq_int {i : Int} {k : Nat} (hk : 0 < k) (h : i.natAbs < 2 ^ k) (l : k ≤ 1920) : Rq 0 (k + 1) (.int i) := by
  have h1 : i.natAbs.log2 < k := by
    by_cases e : i.natAbs = 0
    · rw [e]; exact hk
    · exact (Nat.log2_lt e).mpr h
  refine ⟨?_, ?_, rfl, Nat.le_refl 0⟩
  · unfold PyData.showable
    simp
    omega
  · unfold PyData.shown
    exact gt_of _ (int_text_length_le hk h1)
theorem rq_bool {b : Bool} : Rq 0 5 (.bool b) := ⟨by simp [PyData.showable], by
  unfold PyData.shown
  cases b <;> exact gt_of _ (by decide), rfl, Nat.le_refl 0⟩
theorem rq_all {n L : Nat} : ∀ {xs : List PD}, (∀ x, x ∈ xs → Rq n L x) → PyData.showableAll xs = true ∧ (∀ t, t ∈ PyData.shownAll xs → Gt L t) ∧ (PyData.shownAll xs).length = xs.length ∧ PyData.canLayAll0 xs = true ∧ PyData.depthAll xs ≤ n
  | [], _ => ⟨by simp [PyData.showableAll], by simp [PyData.shownAll], by simp [PyData.shownAll], by simp [PyData.canLayAll0], by simp [PyData.depthAll]⟩
  | x :: xs, h => by
    obtain ⟨h1, h2, h3, h4, h5⟩ := rq_all (xs := xs) fun x hx => h x (List.mem_cons_of_mem _ hx)
    have k := h x (by simp)
    refine ⟨by simp [PyData.showableAll, k.sh, h1], ?_, by simp [PyData.shownAll, h3], by simp [PyData.canLayAll0, k.lay, h4], ?_⟩
    · intro t ht
      unfold PyData.shownAll at ht
      cases ht with
      | head => exact k.gt
      | tail _ ht => exact h2 t ht
    · unfold PyData.depthAll
      have := k.dep
      omega
theorem rq_list {n L : Nat} {xs : List PD} (h : ∀ x, x ∈ xs → Rq n L x) : Rq (n + 1) (xs.length * (L + 2) + 2) (.list xs) := by
  obtain ⟨h1, h2, h3, h4, h5⟩ := rq_all h
  refine ⟨by unfold PyData.showable; exact h1, ?_, by unfold PyData.canLay0; exact h4, by unfold PyData.depth; omega⟩
  unfold PyData.shown listText
  have := (gt_from (k := 0) (gt_of "[" (L := 1) (by decide)) h2).app (gt_of "]" (L := 1) (by decide))
  rw [h3] at this
  exact this.mono (by omega)
theorem rq_tuple {n L : Nat} {xs : List PD} (h : ∀ x, x ∈ xs → Rq n L x) : Rq (n + 1) (xs.length * (L + 2) + 3) (.tuple xs) := by
  obtain ⟨h1, h2, h3, h4, h5⟩ := rq_all h
  refine ⟨by unfold PyData.showable; exact h1, ?_, by unfold PyData.canLay0; exact h4, by unfold PyData.depth; omega⟩
  unfold PyData.shown tupleText
  have := ((gt_of "(" (L := 1) (by decide)).app (gt_join h2)).app (gt_of (if (PyData.shownAll xs).length == 1 then ",)" else ")") (L := 2) (by split <;> decide))
  rw [h3] at this ⊢
  exact this.mono (by omega)
theorem rq_fr {q : Rat} {k : Nat} (hk : 0 < k) (h : Sz k q) (l : k ≤ 1920) : Rq 1 (2 * k + 9) (fr q) := by
  refine (rq_tuple (n := 0) (L := k + 1) ?_).mono (Nat.le_refl _) ?_
  · intro x hx
    simp only [List.mem_cons, List.not_mem_nil, or_false] at hx
    rcases hx with rfl | rfl
    · exact rq_int hk h.1 l
    · exact rq_int hk (by simpa using h.2) l
  · simp only [List.length_cons, List.length_nil]
    omega
theorem rq_eT {α : Type} {e : α → PD} {n L : Nat} {l : List α} (h : ∀ a, a ∈ l → Rq n L (e a)) : Rq (n + 1) (l.length * (L + 2) + 3) (eT e l) := by
  have := rq_tuple (n := n) (L := L) (xs := l.map e) (by
    intro x hx
    obtain ⟨a, ha, rfl⟩ := List.mem_map.mp hx
    exact h a ha)
  rwa [List.length_map] at this
theorem rq_eL {α : Type} {e : α → PD} {n L : Nat} {l : List α} (h : ∀ a, a ∈ l → Rq n L (e a)) : Rq (n + 1) (l.length * (L + 2) + 2) (eL e l) := by
  have := rq_list (n := n) (L := L) (xs := l.map e) (by
    intro x hx
    obtain ⟨a, ha, rfl⟩ := List.mem_map.mp hx
    exact h a ha)
  rwa [List.length_map] at this
theorem rq_eP {α β : Type} {e : α → PD} {f : β → PD} {n L : Nat} {p : α × β} (h : Rq n L (e p.1)) (k : Rq n L (f p.2)) : Rq (n + 1) (2 * L + 7) (eP e f p) := by
  refine (rq_tuple (n := n) (L := L) (xs := [e p.1, f p.2]) ?_).mono (Nat.le_refl _) ?_
  · intro x hx
    simp only [List.mem_cons, List.not_mem_nil, or_false] at hx
    rcases hx with rfl | rfl
    · exact h
    · exact k
  · simp only [List.length_cons, List.length_nil]
    omega
end Ek

/-! EkN: worths, marks: plain mathematics -/
namespace Ek
open PySem PySem.Spec PyProof.Rows L2
abbrev Dw := List (Rat × Rat)
def gr (a b : Rat) : Rat := if decide (a < b) = true then b else a
def val (d : Dw) (w : Rat) : Rat := (d.map fun z => z.2 * gr z.1 w).sum
def wo (l : List Dw) (q : Rat) : Rat := l.foldr val q
def wos : List Dw → Rat → List Rat
  | [], q => [q]
  | d :: l, q => val d (wo l q) :: wos l q
theorem wos_head : ∀ (l : List Dw) (q : Rat), ∃ r, wos l q = wo l q :: r
  | [], q => ⟨[], rfl⟩
  | d :: l, q => ⟨wos l q, rfl⟩
theorem wos_len : ∀ (l : List Dw) (q : Rat), (wos l q).length = l.length + 1
  | [], q => rfl
  | d :: l, q => by
    show (wos l q).length + 1 = _
    rw [wos_len l q]
    rfl
theorem wos_drop : ∀ (l : List Dw) (q : Rat) (i : Nat), i ≤ l.length → wos (l.drop i) q = (wos l q).drop i
  | l, q, 0, _ => by simp
  | [], q, i + 1, h => by simp at h
  | d :: l, q, i + 1, h => by
    show wos (l.drop i) q = (wos l q).drop i
    exact wos_drop l q i (by simpa using h)
/-- worth by what it exceeds -/
theorem val_exc (d : Dw) (w : Rat) : val d w = w * (d.map (·.2)).sum + (d.map fun z => gr (z.1 - w) 0 * z.2).sum := by
  unfold val
  induction d with
  | nil => simp; grind
  | cons z d ih =>
    simp only [List.map_cons, List.sum_cons]
    rw [ih]
    have : z.2 * gr z.1 w = w * z.2 + gr (z.1 - w) 0 * z.2 := by
      unfold gr
      by_cases h : z.1 < w
      · have h2 : z.1 - w < 0 := by grind
        simp only [h, h2, decide_true, if_true]
        grind
      · have h2 : ¬ z.1 - w < 0 := by grind
        simp only [h, h2, decide_false]
        simp
        grind
    rw [this]
    grind
/-! marks -/
abbrev Mk := List Bool
def had1 (d : Dw) (m : Mk) (s : Rat) : Rat := ((d.zip m).map fun p => p.1.2 * (if p.2 = true then p.1.1 else s)).sum
def had (l : List Dw) (ms : List Mk) (q : Rat) : Rat := (l.zip ms).foldr (fun p s => had1 p.1 p.2 s) q
def Fit (l : List Dw) (ms : List Mk) : Prop := Rel2 (fun d m => m.length = d.length) l ms
theorem had1_le {w s : Rat} (hs : s ≤ w) : ∀ (d : Dw) (m : Mk), (∀ z, z ∈ d → 0 < z.2) → m.length = d.length → had1 d m s ≤ val d w
  | [], _, _, _ => by simp [had1, val]
  | z :: d, [], _, h => by simp at h
  | z :: d, b :: m, h, hl => by
    have ih := had1_le hs d m (fun z hz => h z (List.mem_cons_of_mem _ hz)) (by simpa using hl)
    have hz := h z List.mem_cons_self
    unfold had1 val at ih ⊢
    simp only [List.zip_cons_cons, List.map_cons, List.sum_cons]
    have : z.2 * (if b = true then z.1 else s) ≤ z.2 * gr z.1 w := by
      apply Rat.mul_le_mul_of_nonneg_left _ (by grind)
      unfold gr
      by_cases h1 : z.1 < w <;> cases b <;> simp [h1] <;> grind
    grind
theorem had_le {q : Rat} {l : List Dw} {ms : List Mk} (h : ∀ d, d ∈ l → ∀ z, z ∈ d → 0 < z.2) (f : Fit l ms) : had l ms q ≤ wo l q := by
  unfold Fit at f
  induction f with
  | nil => simp [had, wo]
  | cons r t ih => exact had1_le (ih fun d hd => h d (List.mem_cons_of_mem _ hd)) _ _ (h _ List.mem_cons_self) r
def best (l : List Dw) (q : Rat) : List Mk := match l with
  | [] => []
  | d :: l => d.map (fun z => decide (wo l q < z.1)) :: best l q
theorem best_fit (q : Rat) : ∀ l : List Dw, Fit l (best l q)
  | [] => .nil
  | d :: l => .cons (by simp) (best_fit q l)
theorem had1_best (w : Rat) : ∀ d : Dw, had1 d (d.map fun z => decide (w < z.1)) w = val d w
  | [] => rfl
  | z :: d => by
    have ih := had1_best w d
    unfold had1 val at ih ⊢
    simp only [List.map_cons, List.zip_cons_cons, List.sum_cons]
    rw [ih]
    congr 2
    unfold gr
    by_cases h : z.1 < w
    · have h2 : ¬ w < z.1 := by grind
      simp [h, h2]
    · by_cases h2 : w < z.1
      · simp [h, h2]
      · have : w = z.1 := by grind
        simp [h, h2, this]
theorem had_best (q : Rat) : ∀ l : List Dw, had l (best l q) q = wo l q
  | [] => rfl
  | d :: l => by
    have ih := had_best q l
    show had1 d _ (had l (best l q) q) = val d (wo l q)
    rw [ih]
    exact had1_best _ d
/-- the greatest -/
theorem gr_ge (a b : Rat) : a ≤ gr a b ∧ b ≤ gr a b := by
  unfold gr
  by_cases h : a < b <;> simp [h] <;> grind
theorem foldgr_ge {α : Type} (f : α → Rat) : ∀ (l : List α) (a : Rat), a ≤ l.foldl (fun s z => gr s (f z)) a ∧ ∀ z, z ∈ l → f z ≤ l.foldl (fun s z => gr s (f z)) a
  | [], a => ⟨by simp, fun z hz => by cases hz⟩
  | x :: l, a => by
    obtain ⟨h1, h2⟩ := foldgr_ge f l (gr a (f x))
    have h3 := gr_ge a (f x)
    rw [List.foldl_cons]
    refine ⟨by grind, fun z hz => ?_⟩
    cases hz with
    | head => grind
    | tail _ hz => exact h2 z hz
theorem foldgr_P {α : Type} {P : Rat → Prop} (f : α → Rat) : ∀ (l : List α) (a : Rat), P a → (∀ z, z ∈ l → P (f z)) → P (l.foldl (fun s z => gr s (f z)) a)
  | [], a, h, _ => h
  | z :: l, a, h, hl => by
    rw [List.foldl_cons]
    refine foldgr_P f l _ ?_ fun z hz => hl z (List.mem_cons_of_mem _ hz)
    unfold gr
    split
    · exact hl z List.mem_cons_self
    · exact h
/-! all marks -/
def masks (d : Dw) : List Mk := List.foldl (fun (s : List Mk) (_ : Rat × Rat) => (List.map (fun (u : Mk) => (u ++ ([false] : List Bool))) s) ++ (List.map (fun (u : Mk) => (u ++ ([true] : List Bool))) s)) ([([] : List Bool)] : List Mk) d
def maskS (S : List Mk) (d : Dw) : List Mk := List.foldl (fun (s : List Mk) (_ : Rat × Rat) => (List.map (fun (u : Mk) => (u ++ ([false] : List Bool))) s) ++ (List.map (fun (u : Mk) => (u ++ ([true] : List Bool))) s)) S d
theorem maskS_mem : ∀ (d : Dw) (S : List Mk) (m : Mk), m ∈ maskS S d ↔ ∃ u, u ∈ S ∧ ∃ v : Mk, v.length = d.length ∧ m = u ++ v
  | [], S, m => by
    constructor
    · intro h
      exact ⟨m, h, [], rfl, by simp⟩
    · rintro ⟨u, hu, v, hv, rfl⟩
      have : v = [] := List.length_eq_zero_iff.mp hv
      subst this
      rw [List.append_nil]
      exact hu
  | z :: d, S, m => by
    show m ∈ maskS _ d ↔ _
    rw [maskS_mem d]
    constructor
    · rintro ⟨u, hu, v, hv, rfl⟩
      rcases List.mem_append.mp hu with hu | hu
      · obtain ⟨u', hu', rfl⟩ := List.mem_map.mp hu
        exact ⟨u', hu', false :: v, by simp [hv], by simp⟩
      · obtain ⟨u', hu', rfl⟩ := List.mem_map.mp hu
        exact ⟨u', hu', true :: v, by simp [hv], by simp⟩
    · rintro ⟨u, hu, v, hv, rfl⟩
      rcases v with _ | ⟨b, v⟩
      · simp at hv
      · refine ⟨u ++ [b], ?_, v, by simpa using hv, by simp⟩
        cases b
        · exact List.mem_append_left _ (List.mem_map.mpr ⟨u, hu, rfl⟩)
        · exact List.mem_append_right _ (List.mem_map.mpr ⟨u, hu, rfl⟩)
theorem maskS_len : ∀ (d : Dw) (S : List Mk), (maskS S d).length = S.length * 2 ^ d.length
  | [], S => by simp [maskS]
  | z :: d, S => by
    show (maskS _ d).length = _
    rw [maskS_len d, List.length_append, List.length_map, List.length_map, List.length_cons, Nat.pow_succ, ← Nat.two_mul, Nat.mul_comm 2, Nat.mul_assoc, Nat.mul_comm 2]
theorem masks_mem (d : Dw) (m : Mk) : m ∈ masks d ↔ m.length = d.length := by
  show m ∈ maskS [[]] d ↔ _
  rw [maskS_mem]
  constructor
  · rintro ⟨u, hu, v, hv, rfl⟩
    simp only [List.mem_cons, List.not_mem_nil, or_false] at hu
    subst hu
    simpa using hv
  · intro h
    exact ⟨[], by simp, m, h, by simp⟩
theorem masks_len (d : Dw) : (masks d).length = 2 ^ d.length := by
  show (maskS [[]] d).length = _
  rw [maskS_len]
  simp
def wayS (S : List (List Mk)) (l : List Dw) : List (List Mk) := l.foldl (fun S d => S.flatMap fun w => (masks d).map fun m => w ++ [m]) S
theorem wayS_mem : ∀ (l : List Dw) (S : List (List Mk)) (w : List Mk), w ∈ wayS S l ↔ ∃ u, u ∈ S ∧ ∃ v, Fit l v ∧ w = u ++ v
  | [], S, w => by
    constructor
    · intro h
      exact ⟨w, h, [], .nil, by simp⟩
    · rintro ⟨u, hu, v, hv, rfl⟩
      cases hv
      rw [List.append_nil]
      exact hu
  | d :: l, S, w => by
    show w ∈ wayS _ l ↔ _
    rw [wayS_mem l]
    constructor
    · rintro ⟨u, hu, v, hv, rfl⟩
      obtain ⟨u', hu', h2⟩ := List.mem_flatMap.mp hu
      obtain ⟨m, hm, rfl⟩ := List.mem_map.mp h2
      exact ⟨u', hu', m :: v, .cons ((masks_mem d m).mp hm) hv, by simp⟩
    · rintro ⟨u, hu, v, hv, rfl⟩
      cases hv with
      | cons r t => exact ⟨_, List.mem_flatMap.mpr ⟨u, hu, List.mem_map.mpr ⟨_, (masks_mem d _).mpr r, rfl⟩⟩, _, t, by simp⟩
theorem flat_len {α β : Type} {f : α → List β} {k : Nat} : ∀ {l : List α}, (∀ a, a ∈ l → (f a).length = k) → (l.flatMap f).length = l.length * k
  | [], _ => by simp
  | a :: l, h => by
    have h1 := h a List.mem_cons_self
    have h2 := flat_len fun b hb => h b (List.mem_cons_of_mem _ hb)
    rw [List.flatMap_cons, List.length_append, List.length_cons, Nat.succ_mul]
    omega
theorem wayS_len : ∀ (l : List Dw) (S : List (List Mk)), (wayS S l).length = S.length * 2 ^ (l.map List.length).sum
  | [], S => by simp [wayS]
  | d :: l, S => by
    show (wayS _ l).length = _
    rw [wayS_len l, flat_len (k := 2 ^ d.length) fun a _ => by rw [List.length_map, masks_len]]
    simp only [List.map_cons, List.sum_cons]
    rw [Nat.pow_add, Nat.mul_assoc]
end Ek

/-! EkO: more rules -/
namespace Ek
open PySem PySem.Spec PyProof.Rows L2
section
variable {B : Bs} {E : AE} {i j : Nat} {t : Ss} {o : Oc} {b : Sm W} {y : PD} {α : Type} {ea : α → PD}
theorem lvw_new {v : AV} {k : Nat} (hi : E[i]? = some none) (h : Lvw E k) : Lvw (E.set i (some v)) k := by
  obtain ⟨m, xs, h⟩ := h
  refine ⟨m, xs, ?_⟩
  rw [List.getElem?_set]
  split
  · rename_i e
    subst e
    rw [hi] at h
    cases h
  · exact h
/-- a new own list and a value at once -/
theorem s_parL {it : Sm (Bool × List PD)} {l : List α} (h : EvL B it E (l.map ea)) (hi : E[i]? = some none) (h' : Ev B b E y) (h2 : ∀ k, EvS B t ((E.set i (some (.ml k (l.map ea)))).set j (some (.d y))) o) : EvS B (sSeq (sPar i j (mArgs [mNew it, b])) t) E o := fun Δ M S => by
  obtain ⟨u, M1, h1, s1⟩ := h Δ M S
  have S1 := S.step s1
  have S2 := S1.step (Step.app (E := E) [.lst u (l.map ea)])
  obtain ⟨v, M3, h3, s3⟩ := h' Δ _ S2
  have S3 := (sat_new (u := u) (xs := l.map ea) S1 i).step (s3.mono fun k hk => lvw_new hi hk)
  obtain ⟨f, Δ2, M4, h4, m4⟩ := h2 M1.length _ _ (sat_set S3 j ⟨v, rfl⟩)
  refine ⟨f, Δ2, M4, ?_, m4⟩
  unfold sSeq sPar mArgs mArgs mArgs mNew
  rw [h1]
  simp only []
  rw [h3]
  exact h4
end
end Ek

/-! EkE: own dicts, comprehensions with two fors, starred tuples, by what is known -/
namespace Ek
open PySem PySem.Spec PyProof.Rows L2
/-- keys by their data -/
structure KeyE {κ : Type} (ek : κ → PD) : Prop where
  tup : ∀ x, ∃ ks l, ek x = .tuple ks ∧ nks ks = some l ∧ (NestedKey.tup l).depth ≤ 8
  inj : ∀ x y, nk (ek x) = nk (ek y) → x = y
theorem key_fr : KeyE fr := by
  refine ⟨fun q => ⟨_, [.num q.num, .num q.den], rfl, rfl, by simp [NestedKey.depth, NestedKey.depthAll]⟩, fun x y h => ?_⟩
  simp only [fr, nk, nks, Option.some.injEq, NestedKey.tup.injEq, List.cons.injEq, NestedKey.num.injEq, and_true] at h
  exact Rat.ext h.1 (by exact_mod_cast h.2)
theorem key_Ifr : KeyE (eP eI fr) := by
  refine ⟨fun q => ⟨_, [.num q.1, .tup [.num q.2.num, .num q.2.den]], rfl, rfl, by simp [NestedKey.depth, NestedKey.depthAll]⟩, fun x y h => ?_⟩
  simp only [eP, eI, fr, nk, nks, Option.some.injEq, NestedKey.tup.injEq, List.cons.injEq, NestedKey.num.injEq, and_true] at h
  exact Prod.ext h.1 (Rat.ext h.2.1 (by exact_mod_cast h.2.2))
section
variable {κ β : Type} [DecidableEq κ]
def dval (kvs : List (κ × β)) (k : κ) : Option β := (kvs.find? fun p => decide (p.1 = k)).map (·.2)
def dput (kvs : List (κ × β)) (k : κ) (v : β) : List (κ × β) := if (kvs.any fun p => decide (p.1 = k)) = true then kvs.map (fun p => if p.1 = k then (p.1, v) else p) else kvs ++ [(k, v)]
def eD (ek : κ → PD) (ev : β → PD) (p : κ × β) : PD × PD := (ek p.1, ev p.2)
theorem key_eq {ek : κ → PD} (h : KeyE ek) {x y : κ} {K : NestedKey} (hy : nk (ek y) = some K) : (nk (ek x) = some K) ↔ x = y := by
  constructor
  · intro e
    exact h.inj x y (by rw [e, hy])
  · rintro rfl
    exact hy
theorem val_enc {ek : κ → PD} {ev : β → PD} (h : KeyE ek) {k : κ} {K : NestedKey} (hk : nk (ek k) = some K) : ∀ kvs : List (κ × β), valD (kvs.map (eD ek ev)) K = (dval kvs k).map ev
  | [] => rfl
  | p :: kvs => by
    have ih := val_enc h hk (ev := ev) kvs
    unfold valD dval at ih ⊢
    by_cases e : p.1 = k
    · have e2 : nk (ek p.1) = some K := (key_eq h hk).mpr e
      simp [eD, List.find?_cons, e, e2, hk]
    · have e2 : ¬ nk (ek p.1) = some K := fun z => e ((key_eq h hk).mp z)
      simpa [eD, List.find?_cons, e, e2] using ih
theorem put_enc {ek : κ → PD} {ev : β → PD} (h : KeyE ek) {k : κ} {K : NestedKey} (hk : nk (ek k) = some K) (kvs : List (κ × β)) (v : β) : putD (kvs.map (eD ek ev)) (ek k) K (ev v) = (dput kvs k v).map (eD ek ev) := by
  unfold putD dput
  have e : ((kvs.map (eD ek ev)).any fun kv => decide (nk kv.1 = some K)) = (kvs.any fun p => decide (p.1 = k)) := by
    rw [List.any_map]
    congr 1
    funext p
    exact decide_eq_decide.mpr (key_eq h hk)
  rw [e]
  split
  · rw [List.map_map, List.map_map]
    refine List.map_congr_left fun p _ => ?_
    show (if nk (ek p.1) = some K then (ek p.1, ev v) else (ek p.1, ev p.2)) = eD ek ev (if p.1 = k then (p.1, v) else p)
    by_cases e : p.1 = k
    · rw [if_pos e, if_pos ((key_eq h hk).mpr e)]; rfl
    · rw [if_neg e, if_neg fun z => e ((key_eq h hk).mp z)]; rfl
  · rw [List.map_append]; rfl
theorem dKey_enc {ek : κ → PD} (h : KeyE ek) (k : κ) (t : Bool) : ∃ K, dKey (.d t (ek k)) = some (ek k, K) ∧ nk (ek k) = some K := by
  obtain ⟨ks, l, e, hl, h8⟩ := h.tup k
  refine ⟨.tup l, ?_, ?_⟩
  · rw [e]; simp only [dKey, hl, if_pos h8]
  · rw [e]; unfold nk; rw [hl]
end
section
variable {B : Bs} {E E' : AE} {a b c : Sm W} {x y z : PD} {i j k n : Nat} {p q : Sm Bool} {it it1 : Sm (Bool × List PD)} {g g1 : Tg} {s t r : Ss} {o : Oc}
theorem sat_newD {M : MS} {Δ : Sl} (S : Sat B E Δ M) (i : Nat) : Sat B (E.set i (some (.md M.length []))) (Δ.set i (some (.loc M.length))) (M ++ [.dT []]) := by
  have S1 := S.step (Step.app (E := E) [.dT []])
  have hk : ∀ (j : Nat) (v : AV), E[j]? = some (some v) → plc v ≠ some M.length := by
    intro j v hv hp
    obtain ⟨w, _, h2⟩ := S.sl j v hv
    cases v with
    | ml k ys =>
      obtain ⟨_, _, t, h3⟩ := isV_ml h2
      have := (List.getElem?_eq_some_iff.mp h3).1
      cases hp
      omega
    | lv k ys =>
      obtain ⟨_, _, t, h3 | h3⟩ := isV_lv h2
      · have := (List.getElem?_eq_some_iff.mp h3).1
        cases hp
        omega
      · have := (List.getElem?_eq_some_iff.mp h3).1
        cases hp
        omega
    | md k ys =>
      obtain ⟨_, _, h3⟩ := isV_md h2
      have := (List.getElem?_eq_some_iff.mp h3).1
      cases hp
      omega
    | d x => cases hp
    | loc n => cases hp
    | s xs => cases hp
    | fn y => cases hp
  refine ⟨by simp [S.len], S1.base, fun j v hv => ?_, fun a b k u' v hab ha hu hb => ?_⟩
  · rw [List.getElem?_set] at hv ⊢
    split at hv
    · rename_i e
      subst e
      split at hv
      · rename_i l
        cases hv
        rw [if_pos rfl, if_pos (by rw [S.len]; exact l)]
        exact ⟨_, rfl, rfl, B.le M S.base, by simp⟩
      · cases hv
    · rename_i e
      rw [if_neg e]
      exact S1.sl j v hv
  · rw [List.getElem?_set] at ha hb
    split at ha
    · split at ha
      · cases ha
        rename_i e _
        rw [if_neg (by omega)] at hb
        cases hu
        exact hk b v hb
      · cases ha
    · split at hb
      · split at hb
        · cases hb
          intro h
          cases h
          exact hk a _ ha (by cases u' <;> first | exact hu | cases hu)
        · cases hb
      · exact S.nd a b k u' v hab ha hu hb
theorem s_newD (h' : ∀ k, EvS B t (E.set i (some (.md k []))) o) : EvS B (sSeq (sSet i mNewD) t) E o := fun Δ M S => by
  obtain ⟨f, Δ2, M2, h2, m2⟩ := h' M.length _ _ (sat_newD S i)
  exact ⟨f, Δ2, M2, h2, m2⟩
theorem sat_updD {M : MS} {Δ : Sl} {xs ys : List (PD × PD)} (S : Sat B E Δ M) (h : E[i]? = some (some (.md k xs))) : Sat B (E.set i (some (.md k ys))) Δ (M.set k (.dT ys)) := by
  obtain ⟨w, h1, h4⟩ := S.sl i _ h
  obtain ⟨rfl, h5, h6⟩ := isV_md h4
  have hlt : k < M.length := (List.getElem?_eq_some_iff.mp h6).1
  have hi : i < E.length := (List.getElem?_eq_some_iff.mp h).1
  refine ⟨by simp [S.len], B.up M _ S.base (by simp) (fun k' hk' => by rw [List.getElem?_set, if_neg (by omega)]), fun j v hv => ?_, fun a b k' u2 v hab ha hu2 hb => ?_⟩
  · rw [List.getElem?_set] at hv
    split at hv
    · rename_i e
      subst e
      first
        | cases hv
        | (rw [if_pos hi] at hv; cases hv)
      exact ⟨_, h1, rfl, h5, by simp [hlt]⟩
    · rename_i e
      obtain ⟨w, h7, h8⟩ := S.sl j v hv
      refine ⟨w, h7, ?_⟩
      have hp := S.nd i j k _ v e h rfl hv
      cases v with
      | d x => obtain ⟨t, rfl⟩ := isV_d h8; rfl
      | loc m => have := isV_loc h8; subst this; rfl
      | s zs => have := isV_s h8; subst this; rfl
      | fn y => have := isV_fn h8; subst this; rfl
      | ml k' zs =>
        obtain ⟨rfl, h9, t, h10⟩ := isV_ml h8
        have : k ≠ k' := fun e => hp (by rw [e]; rfl)
        exact ⟨rfl, h9, t, by rw [List.getElem?_set, if_neg this]; exact h10⟩
      | lv k' zs =>
        obtain ⟨rfl, h9, t, h10⟩ := isV_lv h8
        have : k ≠ k' := fun e => hp (by rw [e]; rfl)
        exact ⟨rfl, h9, t, by rw [List.getElem?_set, if_neg this]; exact h10⟩
      | md k' zs =>
        obtain ⟨rfl, h9, h10⟩ := isV_md h8
        have : k ≠ k' := fun e => hp (by rw [e]; rfl)
        exact ⟨rfl, h9, by rw [List.getElem?_set, if_neg this]; exact h10⟩
  · rw [List.getElem?_set] at ha hb
    split at ha
    · rename_i e
      subst e
      first
        | cases ha
        | (rw [if_pos hi] at ha; cases ha)
      rw [if_neg hab] at hb
      cases hu2
      exact S.nd i b k _ v hab h rfl hb
    · split at hb
      · rename_i e1 e2
        subst e2
        first
          | cases hb
          | (rw [if_pos hi] at hb; cases hb)
        have := S.nd a i k' _ _ hab ha hu2 h
        exact this
      · exact S.nd a b k' _ v hab ha hu2 hb
variable {κ β : Type} [DecidableEq κ] {ek : κ → PD} {ev : β → PD} {kvs : List (κ × β)} {key : κ} {v d : β}
theorem md_at {Δ : Sl} {M : MS} {xs : List (PD × PD)} (S : Sat B E Δ M) (h : E[i]? = some (some (.md k xs))) : mVar i Δ M = some (.loc k, M) ∧ M[k]? = some (.dT xs) := by
  obtain ⟨w, h1, h4⟩ := S.sl i _ h
  obtain ⟨rfl, h5, h6⟩ := isV_md h4
  exact ⟨by unfold mVar; rw [h1], h6⟩
theorem s_putD (hk : KeyE ek) (h : E[i]? = some (some (.md k (kvs.map (eD ek ev))))) (ha : Ev B a E (ev v)) (hb : Ev B b E (ek key)) (hl : kvs.length ≤ 10000) (h' : EvS B t (E.set i (some (.md k ((dput kvs key v).map (eD ek ev))))) o) : EvS B (sSeq (sSub (mVar i) b a) t) E o := fun Δ M S => by
  obtain ⟨ta, M1, h1, s1⟩ := ha Δ M S
  have S1 := S.step s1
  obtain ⟨e1, _⟩ := md_at S1 h
  obtain ⟨tb, M2, h2, s2⟩ := hb Δ M1 S1
  have S2 := S1.step s2
  obtain ⟨_, e2⟩ := md_at S2 h
  obtain ⟨K, hK, hK2⟩ := dKey_enc hk key tb
  obtain ⟨f, Δ2, M3, h8, m2⟩ := h' _ _ (sat_updD S2 h)
  refine ⟨f, Δ2, M3, ?_, m2⟩
  have : sSub (mVar i) b a Δ M = some (.nx, Δ, M2.set k (.dT ((dput kvs key v).map (eD ek ev)))) := by
    unfold sSub sPutD
    rw [h1]
    simp only [fz1, e1]
    rw [h2]
    simp only [Ek.putAt, e2, hK, List.length_map]
    rw [if_pos (by omega), put_enc hk hK2]
  unfold sSeq
  rw [this]
  exact h8
theorem dget_at {M : MS} {t : Bool} (hk : KeyE ek) (h : M[k]? = some (.dT (kvs.map (eD ek ev)))) : dGet (.loc k) (.d t (ek key)) M = some ((dval kvs key).map ev) := by
  obtain ⟨K, hK, hK2⟩ := dKey_enc hk key t
  simp only [dGet, h, hK]
  rw [val_enc hk hK2]
theorem e_getD2 (hk : KeyE ek) (h : E[i]? = some (some (.md k (kvs.map (eD ek ev))))) (hb : Ev B b E (ek key)) (hc : Ev B c E (ev d)) : Ev B (mGet2 (mVar i) b c) E (ev ((dval kvs key).getD d)) := fun Δ M S => by
  obtain ⟨e1, e1'⟩ := md_at S h
  obtain ⟨tb, M2, h2, s2⟩ := hb Δ M S
  have S2 := S.step s2
  obtain ⟨tc, M3, h3, s3⟩ := hc Δ M2 S2
  obtain ⟨_, e3⟩ := md_at (S2.step s3) h
  have hg := dget_at (key := key) (t := tb) hk e3
  unfold mGet2
  rw [e1]
  simp only [e1']
  rw [h2]
  simp only []
  rw [h3]
  simp only [hg]
  cases dval kvs key with
  | none => exact ⟨tc, M3, rfl, s2.trans s3⟩
  | some v => exact ⟨_, M3, rfl, s2.trans s3⟩
theorem e_ixD [Inhabited β] (hk : KeyE ek) (h : E[i]? = some (some (.md k (kvs.map (eD ek ev))))) (hb : Ev B b E (ek key)) (hs : (dval kvs key).isSome = true) : Ev B (mBin gIx (mVar i) b) E (ev ((dval kvs key).getD default)) := fun Δ M S => by
  obtain ⟨e1, e1'⟩ := md_at S h
  obtain ⟨tb, M2, h2, s2⟩ := hb Δ M S
  obtain ⟨_, e3⟩ := md_at (S.step s2) h
  have hg := dget_at (key := key) (t := tb) hk e3
  obtain ⟨v, hv⟩ := Option.isSome_iff_exists.mp hs
  rw [hv] at hg
  unfold mBin
  rw [e1]
  simp only []
  rw [h2]
  simp only [gIx, hg, hv]
  exact ⟨_, M2, rfl, s2⟩
theorem e_inD {neg : Bool} (hk : KeyE ek) (hb : Ev B b E (ek key)) (h : E[i]? = some (some (.md k (kvs.map (eD ek ev))))) : Ev B (mBin (gIn neg) b (mVar i)) E (eB (neg != (dval kvs key).isSome)) := fun Δ M S => by
  obtain ⟨tb, M2, h2, s2⟩ := hb Δ M S
  obtain ⟨e3, e3'⟩ := md_at (S.step s2) h
  have hg := dget_at (key := key) (t := tb) hk e3'
  unfold mBin
  rw [h2]
  simp only []
  rw [e3]
  simp only [gIn, hg]
  exact ⟨true, M2, by rw [Option.isSome_map]; rfl, s2⟩
theorem e_listD (h : E[i]? = some (some (.md k (kvs.map (eD ek ev))))) : Ev B (mFn bList (mArgs [mVar i])) E (eL ek (kvs.map (·.1))) := fun Δ M S => by
  obtain ⟨e1, e1'⟩ := md_at S h
  refine ⟨false, M, ?_, .refl⟩
  unfold mFn mArgs
  rw [e1]
  simp only [mArgs, bList, bKeys, e1', eL, List.map_map]
  rfl
theorem catT {α : Type} {ea : α → PD} {l m : List α} (ha : Ev B a E (eT ea l)) (hb : Ev B b E (eT ea m)) (h : l.length + m.length ≤ 10000) : Ev B (mBin gAdd a b) E (eT ea (l ++ m)) := e_bin ha hb fun t s M => by
  cases l with
  | nil =>
    refine ⟨s, ?_⟩
    simp only [eT, List.map_nil, gAdd, List.length_map, List.nil_append]
    rw [if_pos (by simpa using h)]
  | cons x xs =>
    refine ⟨t && s, ?_⟩
    simp only [eT, List.map_cons, gAdd, List.length_cons, List.length_map]
    rw [if_pos (by simpa using h)]
    simp
/-! ### two fors -/
theorem lc2_go {α γ β : Type} (enc : α → PD) (encc : γ → PD) (encb : β → PD) (l : List α) (l1 : α → List γ) (f : α → γ → β) {te : Sm W} {vs1 : List Nat}
    (h : ∀ z, z ∈ l → ∃ E', TgA g (enc z) E E' ∧ EvL B it1 E' ((l1 z).map encc) ∧ (l1 z).length ≤ 1000 ∧ ∀ u, u ∈ l1 z → ∃ E'', TgA g1 (encc u) (wipeA E' vs1) E'' ∧ Ev B te E'' (encb (f z u))) (t : Bool) (Δ : Sl) :
    ∀ M, Sat B E Δ M → ∃ s M', lc2Go t g tTrue it1 g1 tTrue te vs1 Δ (l.map enc) M = some ((s, ((l.map fun z => (l1 z).map (f z)).flatten).map encb), M') ∧ Step E M M' := by
  induction l with
  | nil => exact fun M S => ⟨true, M, by simp [lc2Go], .refl⟩
  | cons z l ih =>
    intro M S
    obtain ⟨E', h1, h2, hl, h3⟩ := h z List.mem_cons_self
    obtain ⟨Δ1, k1, S1⟩ := h1.2 B t Δ M S
    obtain ⟨t1, M1, k2, s1⟩ := h2 Δ1 M S1
    have S1' := sat_wipe (S1.step s1) vs1
    obtain ⟨s2, M2, k3, s2'⟩ := lc_go (tt := tTrue) encc encb (l1 z) (fun _ => true) (f z) (fun u hu => by
      obtain ⟨E'', a1, a2⟩ := h3 u hu
      exact ⟨E'', a1, t_true, fun _ => a2⟩) t1 (wipeD Δ1 vs1) M1 S1'
    rw [List.filter_eq_self.mpr (fun _ _ => rfl)] at k3
    have st : Step E M M2 := (s1.mono h1.1).trans ((s2'.mono fun k => lv_wipe).mono h1.1)
    obtain ⟨s', M3, k4, s3⟩ := ih (fun z hz => h z (List.mem_cons_of_mem _ hz)) M2 (S.step st)
    refine ⟨s2 && s', M3, ?_, st.trans s3⟩
    simp only [List.map_cons, lc2Go, k1, tTrue]
    rw [k2]
    simp only []
    rw [if_pos (by simpa using hl), show lcGo t1 g1 tTrue te (wipeD Δ1 vs1) ((l1 z).map encc) M1 = _ from k3]
    simp only []
    rw [k4]
    simp
theorem l_lc2 {α γ β : Type} (enc : α → PD) (encc : γ → PD) (encb : β → PD) {l : List α} (l1 : α → List γ) (f : α → γ → β) {te : Sm W} {vs vs1 : List Nat} (hi : EvL B it E (l.map enc)) (hl : l.length ≤ 1000)
    (h : ∀ z, z ∈ l → ∃ E', TgA g (enc z) (wipeA E vs) E' ∧ EvL B it1 E' ((l1 z).map encc) ∧ (l1 z).length ≤ 1000 ∧ ∀ u, u ∈ l1 z → ∃ E'', TgA g1 (encc u) (wipeA E' vs1) E'' ∧ Ev B te E'' (encb (f z u))) :
    EvL B (mLc2 it g tTrue it1 g1 tTrue te vs vs1) E (((l.map fun z => (l1 z).map (f z)).flatten).map encb) := fun Δ M S => by
  obtain ⟨t, M1, h1, s1⟩ := hi Δ M S
  obtain ⟨s, M2, h2, s2⟩ := lc2_go enc encc encb l l1 f h t (wipeD Δ vs) M1 (sat_wipe (S.step s1) vs)
  refine ⟨s, M2, ?_, s1.trans (s2.mono fun k => lv_wipe)⟩
  unfold mLc2
  rw [h1]
  simp only []
  rw [if_pos (by simpa using hl), h2]
/-! ### starred tuples: (*l, x) -/
theorem fzAll_d {M : MS} : ∀ (xs : List (Bool × PD)), ∃ t, fzAll (xs.map fun p => W.d p.1 p.2) M = some (t, xs.map (·.2), M)
  | [] => ⟨true, rfl⟩
  | p :: xs => by
    obtain ⟨t, h⟩ := fzAll_d (M := M) xs
    exact ⟨p.1 && t, by simp only [List.map_cons, fzAll, fz1]; rw [h]⟩
theorem tup_star1 {α : Type} {ea : α → PD} {l : List α} {u : α} (ha : Ev B a E (eT ea l)) (hb : Ev B b E (ea u)) (hl : l.length ≤ 900) : Ev B (mTup (mArgsS [(true, a), (false, b)])) E (eT ea (l ++ [u])) := fun Δ M S => by
  obtain ⟨ta, M1, h1, s1⟩ := ha Δ M S
  obtain ⟨tb, M2, h2, s2⟩ := hb Δ M1 (S.step s1)
  obtain ⟨t, ht⟩ := fzAll_d (M := M2) ((l.map fun x => (ta, ea x)) ++ [(tb, ea u)])
  refine ⟨t, M2, ?_, s1.trans s2⟩
  have : mArgsS [(true, a), (false, b)] Δ M = some (((l.map fun x => (ta, ea x)) ++ [(tb, ea u)]).map fun p => W.d p.1 p.2, M2) := by
    simp only [mArgsS]
    rw [h1]
    simp only [eT, starD]
    rw [h2]
    simp only [List.map_append, List.map_map, List.map_cons, List.map_nil]
    rfl
  unfold mTup
  rw [this]
  simp only []
  rw [ht]
  simp only [List.length_map, List.length_append, List.length_cons, List.length_nil]
  rw [if_pos (by omega)]
  simp [eT, Function.comp_def]
end
end Ek

/-! EkJ: draws put together: plain mathematics -/
namespace Ek
open PySem PySem.Spec PyProof.Rows L2
def Ex (d : Dw) (f : Rat → Rat) : Rat := (d.map fun z => f z.1 * z.2).sum
theorem sum_perm {l m : List Rat} (h : l.Perm m) : l.sum = m.sum := by
  induction h with
  | nil => rfl
  | cons x _ ih => rw [List.sum_cons, List.sum_cons, ih]
  | swap x y l => rw [List.sum_cons, List.sum_cons, List.sum_cons, List.sum_cons]; grind
  | trans _ _ h1 h2 => rw [h1, h2]
theorem ex_nil (f : Rat → Rat) : Ex [] f = 0 := rfl
theorem ex_cons (z : Rat × Rat) (d : Dw) (f : Rat → Rat) : Ex (z :: d) f = f z.1 * z.2 + Ex d f := by unfold Ex; rw [List.map_cons, List.sum_cons]
theorem ex_app (d e : Dw) (f : Rat → Rat) : Ex (d ++ e) f = Ex d f + Ex e f := by
  induction d with
  | nil => rw [List.nil_append, ex_nil]; grind
  | cons z d ih => rw [List.cons_append, ex_cons, ex_cons, ih]; grind
theorem ex_congr {d : Dw} {f g : Rat → Rat} (h : ∀ z, z ∈ d → f z.1 = g z.1) : Ex d f = Ex d g := by
  induction d with
  | nil => rfl
  | cons z d ih => rw [ex_cons, ex_cons, h z List.mem_cons_self, ih fun y hy => h y (List.mem_cons_of_mem _ hy)]
theorem ex_le {d : Dw} {f g : Rat → Rat} (hp : ∀ z, z ∈ d → 0 < z.2) (h : ∀ z, z ∈ d → f z.1 ≤ g z.1) : Ex d f ≤ Ex d g := by
  induction d with
  | nil => exact Rat.le_refl
  | cons z d ih =>
    rw [ex_cons, ex_cons]
    have h1 := ih (fun y hy => hp y (List.mem_cons_of_mem _ hy)) fun y hy => h y (List.mem_cons_of_mem _ hy)
    have h2 := Rat.mul_le_mul_of_nonneg_left (h z List.mem_cons_self) (Rat.le_of_lt (hp z List.mem_cons_self))
    grind
theorem ex_const (d : Dw) (c : Rat) : Ex d (fun _ => c) = c * (d.map (·.2)).sum := by
  induction d with
  | nil => rw [ex_nil]; simp
  | cons z d ih => rw [ex_cons, ih, List.map_cons, List.sum_cons]; grind
theorem ex_add (d : Dw) (f g : Rat → Rat) : Ex d (fun x => f x + g x) = Ex d f + Ex d g := by
  induction d with
  | nil => simp only [ex_nil]; grind
  | cons z d ih => rw [ex_cons, ex_cons, ex_cons, ih]; grind
theorem ex_mul (d : Dw) (c : Rat) (f : Rat → Rat) : Ex d (fun x => c * f x) = c * Ex d f := by
  induction d with
  | nil => simp [ex_nil]
  | cons z d ih => rw [ex_cons, ex_cons, ih]; grind
theorem ex_swap (d e : Dw) (f : Rat → Rat → Rat) : Ex d (fun x => Ex e (fun y => f x y)) = Ex e (fun y => Ex d (fun x => f x y)) := by
  induction d with
  | nil =>
    rw [ex_nil]
    have := ex_const e 0
    rw [Rat.zero_mul] at this
    exact this.symm
  | cons z d ih =>
    rw [ex_cons, ih]
    have h1 : Ex e (fun y => f z.1 y) * z.2 = Ex e (fun y => z.2 * f z.1 y) := by rw [ex_mul]; grind
    rw [h1, ← ex_add]
    exact ex_congr fun y _ => by rw [ex_cons]; grind
/-! ### of_pairs -/
def bump : Dw → Rat → Rat → Dw
  | [], k, c => [(k, c)]
  | p :: s, k, c => if p.1 = k then (p.1, p.2 + c) :: s else p :: bump s k c
theorem bump_out {k c : Rat} : ∀ {s : Dw}, k ∉ s.map (·.1) → bump s k c = s ++ [(k, c)]
  | [], _ => rfl
  | p :: s, h => by
    simp only [List.map_cons, List.mem_cons, not_or] at h
    unfold bump
    rw [if_neg (fun e => h.1 e.symm), bump_out h.2]
    rfl
theorem dval_out {k : Rat} : ∀ {s : Dw}, k ∉ s.map (·.1) → dval s k = none
  | [], _ => rfl
  | p :: s, h => by
    simp only [List.map_cons, List.mem_cons, not_or] at h
    have := dval_out h.2
    unfold dval at this ⊢
    rw [List.find?_cons, decide_eq_false (fun e => h.1 e.symm)]
    exact this
theorem dval_cons (p : Rat × Rat) (s : Dw) (k : Rat) : dval (p :: s) k = if p.1 = k then some p.2 else dval s k := by
  unfold dval
  rw [List.find?_cons]
  by_cases h : p.1 = k <;> simp [h]
theorem any_in {s : Dw} {k : Rat} : (s.any fun p => decide (p.1 = k)) = true ↔ k ∈ s.map (·.1) := by
  rw [List.any_eq_true]
  constructor
  · rintro ⟨p, hp, h⟩
    exact List.mem_map.mpr ⟨p, hp, by simpa using h⟩
  · intro h
    obtain ⟨p, hp, h⟩ := List.mem_map.mp h
    exact ⟨p, hp, by simpa using h⟩
theorem map_out {k v : Rat} : ∀ {s : Dw}, k ∉ s.map (·.1) → s.map (fun p => if p.1 = k then (p.1, v) else p) = s
  | [], _ => rfl
  | p :: s, h => by
    simp only [List.map_cons, List.mem_cons, not_or] at h
    rw [List.map_cons, map_out h.2, if_neg (fun e => h.1 e.symm)]
theorem put_bump {k c : Rat} : ∀ {s : Dw}, (s.map (·.1)).Nodup → dput s k ((dval s k).getD 0 + c) = bump s k c := by
  intro s nd
  by_cases h : k ∈ s.map (·.1)
  · unfold dput
    rw [if_pos (any_in.mpr h)]
    induction s with
    | nil => simp at h
    | cons p s ih =>
      rw [List.map_cons, List.nodup_cons] at nd
      rw [dval_cons]
      unfold bump
      by_cases e : p.1 = k
      · rw [List.map_cons, if_pos e, if_pos e, if_pos e, map_out (by rw [← e]; exact nd.1)]
        rfl
      · have h' : k ∈ s.map (·.1) := by
          rw [List.map_cons, List.mem_cons] at h
          exact h.resolve_left fun z => e z.symm
        rw [List.map_cons, if_neg e, if_neg e, if_neg e, ih nd.2 h']
  · unfold dput
    rw [if_neg (fun z => h (any_in.mp z)), dval_out h, bump_out h]
    show s ++ [(k, 0 + c)] = _
    rw [Rat.zero_add]
theorem bump_keys {k c : Rat} : ∀ s : Dw, (bump s k c).map (·.1) = if k ∈ s.map (·.1) then s.map (·.1) else s.map (·.1) ++ [k]
  | [] => by simp [bump]
  | p :: s => by
    unfold bump
    by_cases e : p.1 = k
    · simp [e]
    · have e' : ¬ k = p.1 := fun z => e z.symm
      rw [if_neg e, List.map_cons, bump_keys s, List.map_cons]
      by_cases h : k ∈ s.map (·.1)
      · rw [if_pos h, if_pos (List.mem_cons_of_mem _ h)]
      · rw [if_neg h, if_neg (by simp only [List.mem_cons, not_or]; exact ⟨e', h⟩)]
        rfl
theorem bump_nd {k c : Rat} {s : Dw} (h : (s.map (·.1)).Nodup) : ((bump s k c).map (·.1)).Nodup := by
  rw [bump_keys]
  split
  · exact h
  · rename_i hn
    rw [List.nodup_append]
    exact ⟨h, by simp, fun a ha b hb => by rw [List.mem_singleton.mp hb]; exact fun e => hn (e ▸ ha)⟩
theorem bump_ex {k c : Rat} (f : Rat → Rat) : ∀ s : Dw, Ex (bump s k c) f = Ex s f + f k * c
  | [] => by unfold bump; rw [ex_cons, ex_nil]; grind
  | p :: s => by
    unfold bump
    by_cases e : p.1 = k
    · rw [if_pos e, ex_cons, ex_cons, e]; grind
    · rw [if_neg e, ex_cons, ex_cons, bump_ex f s]; grind
theorem bump_all {P : Rat → Prop} {R : Rat → Prop} {k c : Rat} (hk : P k) (hc : R c) (hadd : ∀ a, R a → R (a + c)) : ∀ s : Dw, (∀ z, z ∈ s → P z.1 ∧ R z.2) → ∀ z, z ∈ bump s k c → P z.1 ∧ R z.2
  | [], _, z, hz => by
    have : z = (k, c) := by simpa [bump] using hz
    subst this
    exact ⟨hk, hc⟩
  | p :: s, h, z, hz => by
    unfold bump at hz
    split at hz
    · cases hz with
      | head => exact ⟨(h p List.mem_cons_self).1, hadd _ (h p List.mem_cons_self).2⟩
      | tail _ hz => exact h z (List.mem_cons_of_mem _ hz)
    · cases hz with
      | head => exact h p List.mem_cons_self
      | tail _ hz => exact bump_all hk hc hadd s (fun y hy => h y (List.mem_cons_of_mem _ hy)) z hz
def knS (s : Dw) (z : Rat × Rat) : Dw := dput s z.1 ((dval s z.1).getD 0 + z.2)
def kn (ps : Dw) : Dw := ps.foldl knS []
def bumps (ps : Dw) : Dw := ps.foldl (fun s z => bump s z.1 z.2) []
theorem bumps_go {R : Dw → Prop} (step : ∀ (s : Dw) (z : Rat × Rat), R s → R (bump s z.1 z.2)) : ∀ (ps s : Dw), R s → R (ps.foldl (fun s z => bump s z.1 z.2) s)
  | [], _, h => h
  | z :: ps, s, h => bumps_go step ps _ (step s z h)
theorem bumps_nd (ps : Dw) : ((bumps ps).map (·.1)).Nodup := bumps_go (R := fun (s : Dw) => (s.map (·.1)).Nodup) (fun s z h => bump_nd h) ps [] (by simp)
theorem kn_go : ∀ (ps s : Dw), (s.map (·.1)).Nodup → ps.foldl knS s = ps.foldl (fun s z => bump s z.1 z.2) s
  | [], s, _ => rfl
  | z :: ps, s, h => by
    rw [List.foldl_cons, List.foldl_cons]
    have : knS s z = bump s z.1 z.2 := put_bump h
    rw [this]
    exact kn_go ps _ (bump_nd h)
theorem kn_eq (ps : Dw) : kn ps = bumps ps := kn_go ps [] (by simp)
theorem bumps_snoc (ps : Dw) (z : Rat × Rat) : bumps (ps ++ [z]) = bump (bumps ps) z.1 z.2 := by
  unfold bumps
  rw [List.foldl_append]
  rfl
theorem bumps_ex (f : Rat → Rat) : ∀ (ps s : Dw), Ex (ps.foldl (fun s z => bump s z.1 z.2) s) f = Ex s f + Ex ps f
  | [], s => by rw [ex_nil, List.foldl_nil]; grind
  | z :: ps, s => by rw [List.foldl_cons, bumps_ex f ps, bump_ex, ex_cons]; grind
theorem bumps_Ex (f : Rat → Rat) (ps : Dw) : Ex (bumps ps) f = Ex ps f := by
  have := bumps_ex f ps []
  rw [ex_nil, Rat.zero_add] at this
  exact this
theorem bump_mem {k c x : Rat} {s : Dw} : x ∈ (bump s k c).map (·.1) ↔ x ∈ s.map (·.1) ∨ x = k := by
  rw [bump_keys]
  split
  · rename_i h
    exact ⟨.inl, fun h' => h'.elim id fun e => e ▸ h⟩
  · rw [List.mem_append, List.mem_singleton]
theorem bumps_mem {x : Rat} : ∀ (ps s : Dw), x ∈ (ps.foldl (fun s z => bump s z.1 z.2) s).map (·.1) ↔ x ∈ s.map (·.1) ∨ x ∈ ps.map (·.1)
  | [], s => by simp
  | z :: ps, s => by
    rw [List.foldl_cons, bumps_mem ps, bump_mem, List.map_cons, List.mem_cons]
    constructor
    · rintro ((h | h) | h)
      · exact .inl h
      · exact .inr (.inl h)
      · exact .inr (.inr h)
    · rintro (h | h | h)
      · exact .inl (.inl h)
      · exact .inl (.inr h)
      · exact .inr h
theorem bumps_key {x : Rat} (ps : Dw) : x ∈ (bumps ps).map (·.1) ↔ x ∈ ps.map (·.1) := by
  have := bumps_mem (x := x) ps []
  unfold bumps
  rw [this]
  exact ⟨fun h => h.elim (fun h => by simp at h) id, .inr⟩
theorem entries : ∀ {s : Dw}, (s.map (·.1)).Nodup → s = (s.map (·.1)).map fun x => (x, (dval s x).getD 0)
  | [], _ => rfl
  | p :: s, h => by
    rw [List.map_cons, List.nodup_cons] at h
    rw [List.map_cons, List.map_cons, dval_cons, if_pos rfl]
    have ih := entries h.2
    have : (s.map (·.1)).map (fun x => (x, (dval (p :: s) x).getD 0)) = (s.map (·.1)).map (fun x => (x, (dval s x).getD 0)) := by
      apply List.map_congr_left
      intro x hx
      rw [dval_cons, if_neg (fun e => h.1 (by rw [e]; exact hx))]
    rw [this, ← ih]
    rfl
theorem dval_mem {s : Dw} {x : Rat} (nd : (s.map (·.1)).Nodup) (h : x ∈ s.map (·.1)) : (x, (dval s x).getD 0) ∈ s ∧ (dval s x).isSome = true := by
  refine ⟨?_, ?_⟩
  · have h1 : (x, (dval s x).getD 0) ∈ (s.map (·.1)).map fun x => (x, (dval s x).getD 0) := List.mem_map.mpr ⟨x, h, rfl⟩
    rw [← entries nd] at h1
    exact h1
  · induction s with
    | nil => simp at h
    | cons p s ih =>
      rw [dval_cons]
      split
      · rfl
      · rename_i e
        rw [List.map_cons, List.mem_cons] at h
        rw [List.map_cons, List.nodup_cons] at nd
        exact ih nd.2 (h.resolve_left fun z => e z.symm)
/-! ### in_order -/
def insQ (z : Rat) : List Rat → List Rat
  | [] => [z]
  | x :: s => if x < z then x :: insQ z s else if x = z then x :: s else z :: x :: s
theorem insQ_mem {z y : Rat} : ∀ {s : List Rat}, y ∈ insQ z s ↔ y = z ∨ y ∈ s
  | [] => by simp [insQ]
  | x :: s => by
    unfold insQ
    split
    · rw [List.mem_cons, insQ_mem, List.mem_cons]
      constructor
      · rintro (h | h | h)
        · exact .inr (.inl h)
        · exact .inl h
        · exact .inr (.inr h)
      · rintro (h | h | h)
        · exact .inr (.inl h)
        · exact .inl h
        · exact .inr (.inr h)
    · split
      · rename_i e
        rw [List.mem_cons, e]
        constructor
        · exact .inr
        · rintro (h | h)
          · exact .inl h
          · exact h
      · rw [List.mem_cons]
theorem insQ_up {z : Rat} : ∀ {s : List Rat}, s.Pairwise (· < ·) → (insQ z s).Pairwise (· < ·)
  | [], _ => by simp [insQ]
  | x :: s, h => by
    rw [List.pairwise_cons] at h
    unfold insQ
    split
    · rename_i hx
      rw [List.pairwise_cons]
      refine ⟨fun y hy => ?_, insQ_up h.2⟩
      rcases insQ_mem.mp hy with rfl | hy
      · exact hx
      · exact h.1 y hy
    · rename_i hx
      split
      · rw [List.pairwise_cons]; exact h
      · rename_i he
        have hz : z < x := by grind
        rw [List.pairwise_cons, List.pairwise_cons]
        refine ⟨fun y hy => ?_, h⟩
        cases hy with
        | head => exact hz
        | tail _ hy => have := h.1 y hy; grind
theorem sIx_nat {n k : Nat} (h : k ≤ n) (d : Nat) : HT.sIx n d (some (k : Int)) = k := by
  simp only [HT.sIx]
  rw [if_neg (by omega)]
  omega
theorem cut_to {α : Type} (l : List α) {k : Nat} (h : k ≤ l.length) : cut l none (some (k : Int)) = l.take k := by
  unfold cut
  rw [sIx_nat h]
  simp [HT.sIx]
theorem cut_fr {α : Type} (l : List α) {k : Nat} (h : k ≤ l.length) : cut l (some (k : Int)) none = l.drop k := by
  unfold cut
  rw [sIx_nat h]
  simp only [HT.sIx]
  rw [List.take_of_length_le (by simp)]
/-- how many are ahead -/
def ahd (s : List Rat) (z : Rat) : Nat := (s.filter fun x => decide (x < z)).length
theorem ahd_le (s : List Rat) (z : Rat) : ahd s z ≤ s.length := List.length_filter_le _ _
def inS (s : List Rat) (z : Rat) : List Rat := if (decide ((ahd s z : Int) = (List.length s : Int)) || (!decide (ix s (ahd s z : Int) = z))) = true then (cut s none (some (ahd s z : Int)) ++ [z]) ++ cut s (some (ahd s z : Int)) none else s
theorem ahd_cons (x z : Rat) (s : List Rat) : ahd (x :: s) z = if x < z then ahd s z + 1 else ahd s z := by
  unfold ahd
  rw [List.filter_cons]
  by_cases h : x < z <;> simp [h]
theorem ahd_zero {x z : Rat} {s : List Rat} (h : (x :: s).Pairwise (· < ·)) (hx : ¬ x < z) : ahd s z = 0 := by
  unfold ahd
  rw [List.length_eq_zero_iff, List.filter_eq_nil_iff]
  intro y hy
  have := (List.pairwise_cons.mp h).1 y hy
  simp only [decide_eq_true_eq]
  grind
theorem ix_suc {α : Type} [Inhabited α] (x : α) (s : List α) (k : Nat) : ix (x :: s) ((k + 1 : Nat) : Int) = ix s (k : Int) := by
  by_cases h : k < s.length
  · rw [ix_nat (l := x :: s) (n := k + 1) (by simpa using h), ix_nat h]; rfl
  · have h1 : atI (x :: s) ((k + 1 : Nat) : Int) = none := by
      unfold atI ixN
      rw [if_pos (by omega), if_neg (by rw [List.length_cons]; omega)]
      rfl
    have h2 : atI s (k : Int) = none := by
      unfold atI ixN
      rw [if_pos (by omega), if_neg (by omega)]
      rfl
    unfold ix
    rw [h1, h2]
theorem inS_eq {z : Rat} : ∀ {s : List Rat}, s.Pairwise (· < ·) → inS s z = insQ z s
  | [], _ => by simp [inS, ahd, insQ, cut]
  | x :: s, h => by
    have ih := inS_eq (z := z) (List.pairwise_cons.mp h).2
    have hl := ahd_le s z
    unfold insQ
    by_cases hx : x < z
    · rw [if_pos hx, ← ih]
      unfold inS
      have e1 : ahd (x :: s) z = ahd s z + 1 := by rw [ahd_cons, if_pos hx]
      rw [e1, ix_suc, cut_to (x :: s) (k := ahd s z + 1) (by simpa using hl), cut_fr (x :: s) (k := ahd s z + 1) (by simpa using hl), cut_to s hl, cut_fr s hl]
      have e2 : decide (((ahd s z + 1 : Nat) : Int) = (List.length (x :: s) : Int)) = decide ((ahd s z : Int) = (List.length s : Int)) := by
        rw [decide_eq_decide, List.length_cons]
        omega
      rw [e2]
      split
      · simp
      · rfl
    · rw [if_neg hx]
      have e1 : ahd (x :: s) z = 0 := by rw [ahd_cons, if_neg hx]; exact ahd_zero h hx
      unfold inS
      rw [e1]
      have e2 : decide (((0 : Nat) : Int) = (List.length (x :: s) : Int)) = false := decide_eq_false (by rw [List.length_cons]; omega)
      rw [e2]
      have e3 : ix (x :: s) ((0 : Nat) : Int) = x := ix_zero x s
      rw [e3, cut_to (x :: s) (k := 0) (Nat.zero_le _), cut_fr (x :: s) (k := 0) (Nat.zero_le _)]
      by_cases he : x = z
      · simp [he]
      · simp [he]
def inO (l : List Rat) : List Rat := l.foldl inS []
theorem inO_go : ∀ (l s : List Rat), s.Pairwise (· < ·) → (l.foldl inS s).Pairwise (· < ·) ∧ ∀ y, y ∈ l.foldl inS s ↔ y ∈ s ∨ y ∈ l
  | [], s, h => ⟨h, fun y => by simp⟩
  | z :: l, s, h => by
    rw [List.foldl_cons, inS_eq h]
    obtain ⟨h1, h2⟩ := inO_go l _ (insQ_up (z := z) h)
    refine ⟨h1, fun y => ?_⟩
    rw [h2, insQ_mem, List.mem_cons]
    constructor
    · rintro ((h | h) | h)
      · exact .inr (.inl h)
      · exact .inl h
      · exact .inr (.inr h)
    · rintro (h | h | h)
      · exact .inl (.inr h)
      · exact .inl (.inl h)
      · exact .inr h
theorem inO_up (l : List Rat) : (inO l).Pairwise (· < ·) := (inO_go l [] .nil).1
theorem inO_mem {l : List Rat} {y : Rat} : y ∈ inO l ↔ y ∈ l := by
  have := (inO_go l [] .nil).2 y
  show y ∈ l.foldl inS [] ↔ _
  rw [this]
  exact ⟨fun h => h.elim (fun h => by simp at h) id, .inr⟩
theorem up_nodup {l : List Rat} (h : l.Pairwise (· < ·)) : l.Nodup := h.imp fun h e => by subst e; exact absurd h (Rat.lt_irrefl)
theorem inO_perm {l : List Rat} (h : l.Nodup) : (inO l).Perm l := (List.perm_ext_iff_of_nodup (up_nodup (inO_up l)) h).mpr fun _ => inO_mem
theorem nodup_len {α : Type} [DecidableEq α] : ∀ {l m : List α}, l.Nodup → (∀ x, x ∈ l → x ∈ m) → l.length ≤ m.length
  | [], _, _, _ => Nat.zero_le _
  | x :: l, m, nd, h => by
    rw [List.nodup_cons] at nd
    have hx := h x List.mem_cons_self
    have ih := nodup_len (l := l) (m := m.erase x) nd.2 fun y hy => (List.mem_erase_of_ne (fun (e : y = x) => nd.1 (by rw [← e]; exact hy))).mpr (h y (List.mem_cons_of_mem _ hy))
    rw [List.length_erase_of_mem hx] at ih
    have : 0 < m.length := List.length_pos_of_mem hx
    rw [List.length_cons]
    omega
/-! ### the draw of some pairs -/
def ofp (ps : Dw) : Dw := ((inO ((kn ps).map fun x => x.1)).filter fun x => !decide ((dval (kn ps) x).getD default = (0 : Rat))).map fun x => (x, (dval (kn ps) x).getD default)
theorem rat_default : (default : Rat) = 0 := rfl
theorem sum_filter0 {α : Type} (f : α → Rat) (c : α → Bool) : ∀ l : List α, (∀ x, x ∈ l → c x = false → f x = 0) → ((l.filter c).map f).sum = (l.map f).sum
  | [], _ => rfl
  | x :: l, h => by
    have ih := sum_filter0 f c l fun y hy => h y (List.mem_cons_of_mem _ hy)
    rw [List.filter_cons, List.map_cons, List.sum_cons, ← ih]
    cases hc : c x with
    | true => simp
    | false => rw [h x List.mem_cons_self hc, Rat.zero_add]; simp
theorem ex_ofp (f : Rat → Rat) (ps : Dw) : Ex (ofp ps) f = Ex ps f := by
  unfold ofp
  rw [kn_eq, rat_default, ← bumps_Ex f ps]
  have nd := bumps_nd ps
  generalize bumps ps = s at nd
  unfold Ex
  rw [List.map_map, sum_filter0]
  · rw [sum_perm ((inO_perm nd).map _)]
    have e := congrArg (fun d : Dw => (d.map fun z => f z.1 * z.2).sum) (entries nd)
    refine Eq.trans ?_ e.symm
    show _ = (List.map (fun z : Rat × Rat => f z.1 * z.2) ((s.map (·.1)).map fun x => (x, (dval s x).getD 0))).sum
    simp only [List.map_map]
    rfl
  · intro x _ hx
    have : (dval s x).getD 0 = 0 := by simpa using hx
    show f x * (dval s x).getD 0 = 0
    rw [this]
    grind
theorem ofp_up (ps : Dw) : (ofp ps).Pairwise fun a b => a.1 < b.1 := by
  unfold ofp
  rw [List.pairwise_map]
  exact (inO_up _).filter _
theorem ofp_num {ps : Dw} {z : Rat × Rat} (h : z ∈ ofp ps) : z.1 ∈ ps.map (·.1) := by
  unfold ofp at h
  obtain ⟨x, hx, rfl⟩ := List.mem_map.mp h
  have := inO_mem.mp (List.mem_filter.mp hx).1
  rw [kn_eq] at this
  exact (bumps_key ps).mp this
theorem ofp_in {ps : Dw} {z : Rat × Rat} (h : z ∈ ofp ps) : z ∈ bumps ps := by
  unfold ofp at h
  obtain ⟨x, hx, rfl⟩ := List.mem_map.mp h
  have := inO_mem.mp (List.mem_filter.mp hx).1
  rw [kn_eq] at this ⊢
  exact (dval_mem (bumps_nd ps) this).1
theorem bumps_pos {ps : Dw} (h : ∀ z, z ∈ ps → 0 < z.2) : ∀ z, z ∈ bumps ps → 0 < z.2 := by
  suffices H : ∀ (ps s : Dw), (∀ z, z ∈ ps → 0 < z.2) → (∀ z, z ∈ s → 0 < z.2) → ∀ z, z ∈ ps.foldl (fun s z => bump s z.1 z.2) s → 0 < z.2 from H ps [] h (fun z hz => by cases hz)
  intro ps
  induction ps with
  | nil => exact fun s _ h => h
  | cons y ps ih =>
    intro s hp hs
    rw [List.foldl_cons]
    refine ih _ (fun z hz => hp z (List.mem_cons_of_mem _ hz)) fun z hz => ?_
    have hy := hp y List.mem_cons_self
    exact (bump_all (P := fun _ => True) (R := fun v => 0 < v) trivial hy (fun a ha => by grind) s (fun z hz => ⟨trivial, hs z hz⟩) z hz).2
theorem ofp_pos {ps : Dw} (h : ∀ z, z ∈ ps → 0 < z.2) : ∀ z, z ∈ ofp ps → 0 < z.2 := fun z hz => bumps_pos h z (ofp_in hz)
theorem bumps_bd {D N : Nat} : ∀ (ps s : Dw) (K : Nat), (∀ z, z ∈ ps → Bd D N z.2) → (∀ z, z ∈ s → Bd D K z.2) → ∀ z, z ∈ ps.foldl (fun s z => bump s z.1 z.2) s → Bd D (K + ps.length * N) z.2
  | [], s, K, _, hs, z, hz => (hs z hz).mono (by simp)
  | y :: ps, s, K, hp, hs, z, hz => by
    rw [List.foldl_cons] at hz
    have hy := hp y List.mem_cons_self
    have h1 : ∀ z, z ∈ bump s y.1 y.2 → Bd D (K + N) z.2 := fun z hz => by
      have key : ∀ s : Dw, (∀ z, z ∈ s → Bd D K z.2) → ∀ z, z ∈ bump s y.1 y.2 → Bd D (K + N) z.2 := by
        intro s
        induction s with
        | nil =>
          intro _ z hz
          have : z = (y.1, y.2) := by simpa [bump] using hz
          subst this
          exact hy.mono (by omega)
        | cons p s ih =>
          intro hs z hz
          unfold bump at hz
          split at hz
          · cases hz with
            | head => exact (hs p List.mem_cons_self).add hy
            | tail _ hz => exact (hs z (List.mem_cons_of_mem _ hz)).mono (by omega)
          · cases hz with
            | head => exact (hs p List.mem_cons_self).mono (by omega)
            | tail _ hz => exact ih (fun z hz => hs z (List.mem_cons_of_mem _ hz)) z hz
      exact key s hs z hz
    have := bumps_bd ps _ (K + N) (fun z hz => hp z (List.mem_cons_of_mem _ hz)) h1 z hz
    refine this.mono ?_
    rw [List.length_cons, Nat.succ_mul]
    omega
theorem bump_len {k c : Rat} : ∀ s : Dw, (bump s k c).length ≤ s.length + 1
  | [] => by simp [bump]
  | p :: s => by
    unfold bump
    split
    · simp
    · simp only [List.length_cons]
      have := bump_len (k := k) (c := c) s
      omega
theorem bumps_len : ∀ (ps s : Dw), (ps.foldl (fun s z => bump s z.1 z.2) s).length ≤ s.length + ps.length
  | [], s => by simp
  | z :: ps, s => by
    rw [List.foldl_cons]
    have h1 := bumps_len ps (bump s z.1 z.2)
    have h2 := bump_len (k := z.1) (c := z.2) s
    rw [List.length_cons]
    omega
/-! ### draws -/
/-- a draw: numbers with P, chances n / D -/
structure Gw (P : Rat → Prop) (D : Nat) (d : Dw) : Prop where
  up : d.Pairwise fun a b => a.1 < b.1
  pos : ∀ z, z ∈ d → 0 < z.2
  sum : (d.map (·.2)).sum = 1
  num : ∀ z, z ∈ d → P z.1
  ch : ∀ z, z ∈ d → Bd D D z.2
theorem sum_nonneg : ∀ {l : List Rat}, (∀ x, x ∈ l → 0 < x) → 0 ≤ l.sum
  | [], _ => by simp
  | x :: l, h => by
    have h1 := sum_nonneg fun y hy => h y (List.mem_cons_of_mem _ hy)
    have h2 := h x List.mem_cons_self
    rw [List.sum_cons]
    grind
theorem le_sum : ∀ {l : List Rat}, (∀ x, x ∈ l → 0 < x) → ∀ x, x ∈ l → x ≤ l.sum
  | y :: l, h, x, hx => by
    have h1 := sum_nonneg fun y hy => h y (List.mem_cons_of_mem _ hy)
    have h2 := h y List.mem_cons_self
    rw [List.sum_cons]
    cases hx with
    | head => grind
    | tail _ hx =>
      have := le_sum (fun y hy => h y (List.mem_cons_of_mem _ hy)) x hx
      grind
theorem Gw.le1 {P : Rat → Prop} {D : Nat} {d : Dw} (g : Gw P D d) {z : Rat × Rat} (hz : z ∈ d) : z.2 ≤ 1 := by
  rw [← g.sum]
  refine le_sum (fun x hx => ?_) z.2 (List.mem_map.mpr ⟨z, hz, rfl⟩)
  obtain ⟨y, hy, rfl⟩ := List.mem_map.mp hx
  exact g.pos y hy
theorem Gw.ne {P : Rat → Prop} {D : Nat} {d : Dw} (g : Gw P D d) : d ≠ [] := by
  intro e
  have := g.sum
  rw [e] at this
  exact absurd this (by decide +kernel)
theorem bd_unit {D N : Nat} {c : Rat} (h : Bd D N c) (h0 : 0 ≤ c) (h1 : c ≤ 1) : Bd D D c := by
  obtain ⟨n, _, hn⟩ := h
  refine ⟨n, ?_, hn⟩
  have hD : (0 : Rat) ≤ (D : Rat) := by exact_mod_cast Nat.zero_le D
  have e1 : (0 : Rat) ≤ (n : Rat) := by rw [← hn]; exact Rat.mul_nonneg h0 hD
  have e2 : (n : Rat) ≤ ((D : Int) : Rat) := by
    rw [← hn]
    have := Rat.mul_le_mul_of_nonneg_left h1 hD
    rw [Rat.intCast_natCast]
    grind
  have i1 : (0 : Int) ≤ n := by exact_mod_cast e1
  have i2 : n ≤ (D : Int) := by exact_mod_cast e2
  omega
theorem Gw.mono {P R : Rat → Prop} {D : Nat} {d : Dw} (g : Gw P D d) (h : ∀ x, P x → R x) : Gw R D d := ⟨g.up, g.pos, g.sum, fun z hz => h _ (g.num z hz), g.ch⟩
theorem Gw.ex1 {P : Rat → Prop} {D : Nat} {d : Dw} (g : Gw P D d) (c : Rat) : Ex d (fun _ => c) = c := by rw [ex_const, g.sum, Rat.mul_one]
theorem ex_one (d : Dw) : Ex d (fun _ => 1) = (d.map (·.2)).sum := by rw [ex_const, Rat.one_mul]
/-- pairs with the sum 1 make a draw -/
theorem ofp_gw {P : Rat → Prop} {D N : Nat} {ps : Dw} (h0 : ∀ z, z ∈ ps → 0 < z.2) (h1 : (ps.map (·.2)).sum = 1) (h2 : ∀ z, z ∈ ps → P z.1) (h3 : ∀ z, z ∈ ps → Bd D N z.2) : Gw P D (ofp ps) := by
  have hs : ((ofp ps).map (·.2)).sum = 1 := by rw [← ex_one, ex_ofp, ex_one, h1]
  have hp := ofp_pos h0
  refine ⟨ofp_up ps, hp, hs, fun z hz => ?_, fun z hz => ?_⟩
  · obtain ⟨y, hy, e⟩ := List.mem_map.mp (ofp_num hz)
    rw [← e]
    exact h2 y hy
  · refine bd_unit (bumps_bd ps [] 0 h3 (fun z hz => by cases hz) z (ofp_in hz)) (Rat.le_of_lt (hp z hz)) ?_
    rw [← hs]
    exact le_sum (fun x hx => by obtain ⟨y, hy, rfl⟩ := List.mem_map.mp hx; exact hp y hy) z.2 (List.mem_map.mpr ⟨z, hz, rfl⟩)
/-! ### the greatest one -/
def prs (d e : Dw) (f : Rat → Rat → Rat) : Dw := (d.map fun z => e.map fun u => (f z.1 u.1, z.2 * u.2)).flatten
def gt2 (d e : Dw) : Dw := ofp (prs d e gr)
theorem prs_cons (z : Rat × Rat) (d e : Dw) (f : Rat → Rat → Rat) : prs (z :: d) e f = (e.map fun u => (f z.1 u.1, z.2 * u.2)) ++ prs d e f := rfl
theorem ex_prs (d e : Dw) (f : Rat → Rat → Rat) (h : Rat → Rat) : Ex (prs d e f) h = Ex d (fun x => Ex e (fun y => h (f x y))) := by
  induction d with
  | nil => rfl
  | cons z d ih =>
    rw [prs_cons, ex_app, ih, ex_cons]
    congr 1
    unfold Ex
    rw [List.map_map]
    have : (e.map fun y => h (f z.1 y.1) * y.2).sum * z.2 = (e.map fun y => (h (f z.1 y.1) * y.2) * z.2).sum := by
      clear ih
      induction e with
      | nil => simp
      | cons u e ihe => simp only [List.map_cons, List.sum_cons]; rw [← ihe]; grind
    rw [this]
    congr 1
    apply List.map_congr_left
    intro u _
    show h (f z.1 u.1) * (z.2 * u.2) = _
    grind
theorem prs_mem {d e : Dw} {f : Rat → Rat → Rat} {z : Rat × Rat} (h : z ∈ prs d e f) : ∃ a b, a ∈ d ∧ b ∈ e ∧ z = (f a.1 b.1, a.2 * b.2) := by
  unfold prs at h
  obtain ⟨l, hl, hz⟩ := List.mem_flatten.mp h
  obtain ⟨a, ha, rfl⟩ := List.mem_map.mp hl
  obtain ⟨b, hb, rfl⟩ := List.mem_map.mp hz
  exact ⟨a, b, ha, hb, rfl⟩
theorem prs_len (d e : Dw) (f : Rat → Rat → Rat) : (prs d e f).length = d.length * e.length := by
  induction d with
  | nil => simp [prs]
  | cons z d ih => rw [prs_cons, List.length_append, ih, List.length_map, List.length_cons, Nat.succ_mul, Nat.add_comm]
theorem ex_gt2 (d e : Dw) (h : Rat → Rat) : Ex (gt2 d e) h = Ex d (fun x => Ex e (fun y => h (gr x y))) := by
  unfold gt2
  rw [ex_ofp, ex_prs]
theorem prs_sum {P R : Rat → Prop} {D E : Nat} {d e : Dw} (g : Gw P D d) (g' : Gw R E e) (f : Rat → Rat → Rat) : ((prs d e f).map (·.2)).sum = 1 := by
  rw [← ex_one, ex_prs]
  have : Ex d (fun _ => Ex e (fun _ => 1)) = 1 := by rw [g'.ex1, g.ex1]
  exact this
theorem prs_pos {P R : Rat → Prop} {D E : Nat} {d e : Dw} (g : Gw P D d) (g' : Gw R E e) (f : Rat → Rat → Rat) : ∀ z, z ∈ prs d e f → 0 < z.2 := fun z hz => by
  obtain ⟨a, b, ha, hb, rfl⟩ := prs_mem hz
  exact Rat.mul_pos (g.pos a ha) (g'.pos b hb)
theorem prs_bd {P R : Rat → Prop} {D E : Nat} {d e : Dw} (g : Gw P D d) (g' : Gw R E e) (f : Rat → Rat → Rat) : ∀ z, z ∈ prs d e f → Bd (D * E) (D * E) z.2 := fun z hz => by
  obtain ⟨a, b, ha, hb, rfl⟩ := prs_mem hz
  exact (g.ch a ha).mul (g'.ch b hb)
theorem gr_or (a b : Rat) : gr a b = a ∨ gr a b = b := by
  unfold gr
  split
  · exact .inr rfl
  · exact .inl rfl
theorem gt2_gw {P : Rat → Prop} {D E : Nat} {d e : Dw} (g : Gw P D d) (g' : Gw P E e) : Gw P (D * E) (gt2 d e) := by
  refine ofp_gw (prs_pos g g' gr) (prs_sum g g' gr) (fun z hz => ?_) (prs_bd g g' gr)
  obtain ⟨a, b, ha, hb, rfl⟩ := prs_mem hz
  rcases gr_or a.1 b.1 with h | h
  · show P (gr a.1 b.1)
    rw [h]; exact g.num a ha
  · show P (gr a.1 b.1)
    rw [h]; exact g'.num b hb
theorem up_map_nodup {d : Dw} (h : d.Pairwise fun a b => a.1 < b.1) : (d.map (·.1)).Nodup := up_nodup (List.pairwise_map.mpr h)
theorem gt2_len (d e : Dw) : (gt2 d e).length ≤ d.length + e.length := by
  have h := nodup_len (l := (gt2 d e).map (·.1)) (m := d.map (·.1) ++ e.map (·.1)) (up_map_nodup (ofp_up _)) fun x hx => by
    obtain ⟨z, hz, rfl⟩ := List.mem_map.mp hx
    obtain ⟨y, hy, e1⟩ := List.mem_map.mp (ofp_num hz)
    obtain ⟨a, b, ha, hb, rfl⟩ := prs_mem hy
    rw [← e1, List.mem_append]
    rcases gr_or a.1 b.1 with h | h
    · exact .inl (List.mem_map.mpr ⟨a, ha, h.symm⟩)
    · exact .inr (List.mem_map.mpr ⟨b, hb, h.symm⟩)
  simpa using h
theorem gr_comm (a b : Rat) : gr a b = gr b a := by
  unfold gr
  by_cases h1 : a < b <;> by_cases h2 : b < a <;> simp [h1, h2] <;> grind
theorem gr_assoc (a b c : Rat) : gr (gr a b) c = gr a (gr b c) := by
  unfold gr
  by_cases h1 : a < b <;> by_cases h2 : b < c <;> by_cases h3 : a < c <;> simp [h1, h2, h3] <;> grind
theorem gr_mono {a b c d : Rat} (h : a ≤ b) (h' : c ≤ d) : gr a c ≤ gr b d := by
  have := gr_ge b d
  rcases gr_or a c with e | e <;> rw [e] <;> grind
theorem gr_le {a b c : Rat} (h : a ≤ c) (h' : b ≤ c) : gr a b ≤ c := by
  rcases gr_or a b with e | e <;> rw [e] <;> assumption
/-- the mean of the greatest of x and some draws apart, of f of it -/
def ME : List Dw → (Rat → Rat) → Rat → Rat
  | [], f, x => f x
  | d :: ds, f, x => Ex d fun y => ME ds f (gr x y)
theorem ex_fold (f : Rat → Rat) : ∀ (ds : List Dw) (d : Dw), Ex (ds.foldl gt2 d) f = Ex d (ME ds f)
  | [], d => rfl
  | e :: ds, d => by
    rw [List.foldl_cons, ex_fold f ds, ex_gt2]
    rfl
theorem me_congr {f g : Rat → Rat} (h : ∀ x, f x = g x) (ds : List Dw) (x : Rat) : ME ds f x = ME ds g x := by
  have : f = g := funext h
  rw [this]
theorem me_app (f : Rat → Rat) : ∀ (ds es : List Dw) (x : Rat), ME (ds ++ es) f x = ME ds (ME es f) x
  | [], es, x => rfl
  | d :: ds, es, x => by
    show Ex d _ = Ex d _
    exact ex_congr fun z _ => me_app f ds es _
theorem me_sure (q : Rat) (f : Rat → Rat) (x : Rat) : ME [[(q, 1)]] f x = f (gr x q) := by
  show Ex [(q, 1)] _ = _
  rw [ex_cons, ex_nil]
  show f (gr x q) * 1 + 0 = _
  grind
/-- a number more at the end is a number more at the start -/
theorem me_shift (q : Rat) (f : Rat → Rat) : ∀ (ds : List Dw) (x : Rat), ME ds (fun m => f (gr m q)) x = ME ds f (gr q x)
  | [], x => by show f (gr x q) = f (gr q x); rw [gr_comm]
  | d :: ds, x => by
    show Ex d _ = Ex d _
    exact ex_congr fun z _ => by rw [me_shift q f ds, gr_assoc]
theorem me_perm {ds es : List Dw} (h : ds.Perm es) (f : Rat → Rat) : ∀ x, ME ds f x = ME es f x := by
  induction h with
  | nil => exact fun _ => rfl
  | cons d _ ih => exact fun x => ex_congr fun z _ => ih _
  | swap d e l =>
    intro x
    show Ex e (fun y => Ex d (fun w => ME l f (gr (gr x y) w))) = Ex d (fun w => Ex e (fun y => ME l f (gr (gr x w) y)))
    rw [ex_swap]
    exact ex_congr fun w _ => ex_congr fun y _ => by rw [gr_assoc, gr_comm y.1, ← gr_assoc]
  | trans _ _ h1 h2 => exact fun x => (h1 x).trans (h2 x)
def AllG (ds : List Dw) : Prop := ∀ d, d ∈ ds → (∀ z, z ∈ d → 0 < z.2) ∧ (d.map (·.2)).sum = 1
theorem AllG.tail {d : Dw} {ds : List Dw} (h : AllG (d :: ds)) : AllG ds := fun e he => h e (List.mem_cons_of_mem _ he)
theorem AllG.ex1 {d : Dw} {ds : List Dw} (h : AllG (d :: ds)) (c : Rat) : Ex d (fun _ => c) = c := by rw [ex_const, (h d List.mem_cons_self).2, Rat.mul_one]
theorem me_mono : ∀ {ds : List Dw}, AllG ds → ∀ {x y : Rat}, x ≤ y → ME ds id x ≤ ME ds id y
  | [], _, x, y, h => h
  | d :: ds, H, x, y, h => ex_le (H d List.mem_cons_self).1 fun z _ => me_mono H.tail (gr_mono h Rat.le_refl)
theorem me_ge : ∀ {ds : List Dw}, AllG ds → ∀ x : Rat, x ≤ ME ds id x
  | [], _, x => Rat.le_refl
  | d :: ds, H, x => by
    have h1 : Ex d (fun _ => x) ≤ Ex d fun y => ME ds id (gr x y) := ex_le (H d List.mem_cons_self).1 fun z _ => by
      have h2 := me_ge H.tail (gr x z.1)
      have h3 := (gr_ge x z.1).1
      grind
    rw [H.ex1] at h1
    exact h1
/-- who takes the first number that is good has no more than the greatest -/
theorem val_ex (d : Dw) (w : Rat) : val d w = Ex d (fun y => gr y w) := by
  unfold val Ex
  congr 1
  exact List.map_congr_left fun z _ => by grind
theorem wo_le_me : ∀ {ds : List Dw}, AllG ds → ∀ q : Rat, wo ds q ≤ ME ds id q
  | [], _, q => Rat.le_refl
  | d :: ds, H, q => by
    show val d (wo ds q) ≤ Ex d _
    rw [val_ex]
    refine ex_le (H d List.mem_cons_self).1 fun z _ => gr_le ?_ ?_
    · have := me_ge H.tail (gr q z.1)
      have := (gr_ge q z.1).2
      grind
    · have h1 := wo_le_me H.tail q
      have h2 := me_mono H.tail (gr_ge q z.1).1
      grind
end Ek

/-! EkU: loops whose bodies draw -/
namespace Ek
open PySem PySem.Spec PyProof.Rows L2
section
variable {B : Bs} {j : Nat} {E E' E0 : AE} {a b c : Sm W} {x y z : PD} {i k n : Nat} {p q : Sm Bool} {it : Sm (Bool × List PD)} {g : Tg} {K K' : PD → Prop} {α β σ : Type} {s t r : Ss} {ea : α → PD}
/-- goes on with E0, or gives back something with K -/
def WcN (B : Bs) (s : Ss) (E E0 : AE) (K : PD → Prop) : Prop := ∀ Δ M, Sat B E Δ M → (∃ Δ' M', s Δ M = some (.nx, Δ', M') ∧ Sat B E0 Δ' M') ∨ ∃ t x Δ' M', s Δ M = some (.rt (.d t x), Δ', M') ∧ K x ∧ B.P M'
theorem wn_next (w : WkE E E0) : WcN B sNext E E0 K := fun Δ M S => .inl ⟨Δ, M, rfl, sat_wk w S⟩
theorem wn_wk (w : WkE E E') (h : WcN B s E' E0 K) : WcN B s E E0 K := fun Δ M S => h Δ M (sat_wk w S)
theorem wn_skip (h : WcN B r E E0 K) : WcN B (sSeq sNext r) E E0 K := h
theorem wn_assoc (h : WcN B (sSeq s (sSeq t r)) E E0 K) : WcN B (sSeq (sSeq s t) r) E E0 K := fun Δ M S => by
  have e : sSeq (sSeq s t) r Δ M = sSeq s (sSeq t r) Δ M := by
    unfold sSeq
    cases s Δ M with
    | none => rfl
    | some u => obtain ⟨f, Δ2, M2⟩ := u; cases f <;> rfl
  rw [e]
  exact h Δ M S
theorem wn_pure {v : Unit ⊕ β} {enc : β → PD} (h : EvS B s E (ocR (fun _ => E0) enc v)) (k : ∀ u, v = .inr u → K (enc u)) : WcN B s E E0 K := fun Δ M S => by
  obtain ⟨f, Δ', M1, h1, m1⟩ := h Δ M S
  cases v with
  | inl u =>
    cases f with
    | nx => exact .inl ⟨Δ', M1, h1, m1⟩
    | rt w => cases m1
    | bk => cases m1
    | ct => cases m1
  | inr u =>
    cases f with
    | rt w =>
      obtain ⟨⟨t, rfl⟩, hP⟩ := m1
      exact .inr ⟨t, _, Δ', M1, h1, k u rfl, hP⟩
    | nx => cases m1
    | bk => cases m1
    | ct => cases m1
theorem wn_ret (h : Wc B a E K) : WcN B (sSeq (sRet a) t) E E0 K := fun Δ M S => by
  obtain ⟨u, x, M1, h1, k, F1⟩ := h Δ M S
  exact .inr ⟨u, x, Δ, M1, by unfold sSeq sRet; rw [h1]; rfl, k, F1.base⟩
theorem wn_set (h : Wc B a E fun x => WcN B t (E.set i (some (.d x))) E0 K) : WcN B (sSeq (sSet i a) t) E E0 K := fun Δ M S => by
  obtain ⟨u, x, M1, h1, h2, F1⟩ := h Δ M S
  have e : sSeq (sSet i a) t Δ M = t (Δ.set i (some (.d u x))) M1 := by unfold sSeq sSet; rw [h1]
  rw [e]
  exact h2 _ M1 (sat_set F1 i ⟨u, rfl⟩)
theorem wn_par {i k : Nat} (h : Wc B a E fun x => Wc B b E fun y => WcN B t ((E.set i (some (.d x))).set k (some (.d y))) E0 K) : WcN B (sSeq (sPar i k (mArgs [a, b])) t) E E0 K := fun Δ M S => by
  obtain ⟨u, x, M1, h1, h2, F1⟩ := h Δ M S
  obtain ⟨v, y, M2, h3, h4, F2⟩ := h2 Δ M1 F1
  have e : sSeq (sPar i k (mArgs [a, b])) t Δ M = t ((Δ.set i (some (.d u x))).set k (some (.d v y))) M2 := by
    unfold sSeq sPar mArgs mArgs mArgs
    rw [h1]
    simp only []
    rw [h3]
  rw [e]
  exact h4 _ M2 (sat_set (sat_set F2 i ⟨u, rfl⟩) k ⟨v, rfl⟩)
theorem wn_par3 {i k l : Nat} (h : Wc B a E fun x => Wc B b E fun y => Wc B c E fun z => WcN B t (((E.set i (some (.d x))).set k (some (.d y))).set l (some (.d z))) E0 K) : WcN B (sSeq (sPar3 i k l (mArgs [a, b, c])) t) E E0 K := fun Δ M S => by
  obtain ⟨u, x, M1, h1, h2, F1⟩ := h Δ M S
  obtain ⟨v, y, M2, h3, h4, F2⟩ := h2 Δ M1 F1
  obtain ⟨o, z, M3, h7, h8, F3⟩ := h4 Δ M2 F2
  have e : sSeq (sPar3 i k l (mArgs [a, b, c])) t Δ M = t (((Δ.set i (some (.d u x))).set k (some (.d v y))).set l (some (.d o z))) M3 := by
    unfold sSeq sPar3 mArgs mArgs mArgs mArgs
    rw [h1]
    simp only []
    rw [h3]
    simp only []
    rw [h7]
  rw [e]
  exact h8 _ M3 (sat_set (sat_set (sat_set F3 i ⟨u, rfl⟩) k ⟨v, rfl⟩) l ⟨o, rfl⟩)
theorem wn_drop (h : Wc B a E fun _ => WcN B t E E0 K) : WcN B (sSeq (sDrop a) t) E E0 K := fun Δ M S => by
  obtain ⟨u, x, M1, h1, h2, F1⟩ := h Δ M S
  have e : sSeq (sDrop a) t Δ M = t Δ M1 := by unfold sSeq sDrop; rw [h1]
  rw [e]
  exact h2 _ M1 F1
theorem wn_if (h : WcT B p E fun k => (k = true → WcN B (sSeq s r) E E0 K) ∧ (k = false → WcN B (sSeq t r) E E0 K)) : WcN B (sSeq (sIf p s t) r) E E0 K := fun Δ M S => by
  obtain ⟨k, M1, h1, ⟨h2, h3⟩, F1⟩ := h Δ M S
  cases k with
  | true =>
    have e : sSeq (sIf p s t) r Δ M = sSeq s r Δ M1 := by unfold sSeq sIf; rw [h1]; rfl
    rw [e]
    exact h2 rfl Δ M1 F1
  | false =>
    have e : sSeq (sIf p s t) r Δ M = sSeq t r Δ M1 := by unfold sSeq sIf; rw [h1]; rfl
    rw [e]
    exact h3 rfl Δ M1 F1
theorem wn_seq {E1 : AE} (h : EvS B s E (.nx E1)) (h' : WcN B t E1 E0 K) : WcN B (sSeq s t) E E0 K := fun Δ M S => by
  obtain ⟨f, Δ1, M1, h1, m1⟩ := h Δ M S
  cases f with
  | nx =>
    have e : sSeq s t Δ M = t Δ1 M1 := by unfold sSeq; rw [h1]
    rw [e]
    exact h' Δ1 M1 m1
  | rt w => cases m1
  | bk => cases m1
  | ct => cases m1
theorem forD_go (enc : α → PD) (t : Bool) : ∀ (l : List α), (∀ z, z ∈ l → ∃ E1, TgA g (enc z) E E1 ∧ WcN B s E1 E K) → ∀ Δ M, Sat B E Δ M → (∃ Δ' M', forGo t g s (l.map enc) Δ M = some (.nx, Δ', M') ∧ Sat B E Δ' M') ∨ ∃ u x Δ' M', forGo t g s (l.map enc) Δ M = some (.rt (.d u x), Δ', M') ∧ K x ∧ B.P M'
  | [], _, Δ, M, S => .inl ⟨Δ, M, rfl, S⟩
  | z :: l, h, Δ, M, S => by
    obtain ⟨E1, h1, h2⟩ := h z List.mem_cons_self
    obtain ⟨Δ1, g1, S1⟩ := h1.2 B t Δ M S
    rcases h2 Δ1 M S1 with ⟨Δ2, M2, h3, S2⟩ | ⟨u, x, Δ2, M2, h3, k, hP⟩
    · rcases forD_go enc t l (fun z hz => h z (List.mem_cons_of_mem _ hz)) Δ2 M2 S2 with ⟨Δ3, M3, h4, S3⟩ | ⟨u, x, Δ3, M3, h4, k, hP⟩
      · exact .inl ⟨Δ3, M3, by simp only [List.map_cons, forGo, g1]; rw [h3]; exact h4, S3⟩
      · exact .inr ⟨u, x, Δ3, M3, by simp only [List.map_cons, forGo, g1]; rw [h3]; exact h4, k, hP⟩
    · exact .inr ⟨u, x, Δ2, M2, by simp only [List.map_cons, forGo, g1]; rw [h3], k, hP⟩
theorem ws_forD (enc : α → PD) (l : List α) (hi : EvL B it E (l.map enc)) (h : ∀ z, z ∈ l → ∃ E1, TgA g (enc z) E E1 ∧ WcN B s E1 E K) (h' : WcS B r E K) : WcS B (sSeq (sFor it g s) r) E K := fun Δ M S => by
  obtain ⟨t, M1, h1, s1⟩ := hi Δ M S
  rcases forD_go enc t l h Δ M1 (S.step s1) with ⟨Δ2, M2, h2, S2⟩ | ⟨u, x, Δ2, M2, h2, k, hP⟩
  · obtain ⟨w, Δ3, M3, z, h3, kk, F3⟩ := h' Δ2 M2 S2
    exact ⟨w, Δ3, M3, z, by unfold sSeq sFor; rw [h1]; simp only []; rw [h2]; exact h3, kk, F3⟩
  · exact ⟨u, Δ2, M2, x, by unfold sSeq sFor; rw [h1]; simp only []; rw [h2], k, hP⟩
/-! ### more -/
theorem g_fr {g1 g2 : Tg} {E1 : AE} {q : Rat} (h1 : TgA g1 (eI q.num) E E1) (h2 : TgA g2 (eI (q.den : Int)) E1 E') : TgA (gTp (gsCons g1 (gsCons g2 gsNil))) (fr q) E E' := g_tp (gs_cons h1 (gs_cons h2 gs_nil))
theorem s_parL3 {it : Sm (Bool × List PD)} {l : List α} {i j m : Nat} {o : Oc} (h : EvL B it E (l.map ea)) (hi : E[i]? = some none) (h' : Ev B b E y) (h'' : Ev B c E z) (h2 : ∀ k, EvS B t (((E.set i (some (.ml k (l.map ea)))).set j (some (.d y))).set m (some (.d z))) o) : EvS B (sSeq (sPar3 i j m (mArgs [mNew it, b, c])) t) E o := fun Δ M S => by
  obtain ⟨u, M1, h1, s1⟩ := h Δ M S
  have S1 := S.step s1
  have S2 := S1.step (Step.app (E := E) [.lst u (l.map ea)])
  obtain ⟨v, M3, h3, s3⟩ := h' Δ _ S2
  obtain ⟨w, M4, h5, s4⟩ := h'' Δ _ (S2.step s3)
  have S4 := (sat_new (u := u) (xs := l.map ea) S1 i).step ((s3.trans s4).mono fun k hk => lvw_new hi hk)
  obtain ⟨f, Δ2, M5, h4, m4⟩ := h2 M1.length _ _ (sat_set (sat_set S4 j ⟨v, rfl⟩) m ⟨w, rfl⟩)
  refine ⟨f, Δ2, M5, ?_, m4⟩
  unfold sSeq sPar3 mArgs mArgs mArgs mArgs mNew
  rw [h1]
  simp only []
  rw [h3]
  simp only []
  rw [h5]
  exact h4
end
/-! ### loops that draw and carry something on -/
section
variable {B : Bs} {j : Nat} {E E' E0 : AE} {a b c : Sm W} {x y z : PD} {i k n : Nat} {p q : Sm Bool} {it it' : Sm (Bool × List PD)} {g : Tg} {K K' : PD → Prop} {α β σ : Type} {s t r : Ss} {ea : α → PD} {eb : β → PD} {Es : σ → AE} {C : σ → Prop}
inductive RelF (R : σ → α → σ → Prop) (u0 : σ) : List α → σ → Prop
  | nil : RelF R u0 [] u0
  | snoc {l : List α} {u v : σ} {z : α} : RelF R u0 l u → R u z v → RelF R u0 (l ++ [z]) v
/-- goes on with some Es u, or gives back something with K -/
def WcM (B : Bs) (s : Ss) (E : AE) (Es : σ → AE) (C : σ → Prop) (K : PD → Prop) : Prop := ∀ Δ M, Sat B E Δ M → (∃ Δ' M' u, s Δ M = some (.nx, Δ', M') ∧ Sat B (Es u) Δ' M' ∧ C u) ∨ ∃ t x Δ' M', s Δ M = some (.rt (.d t x), Δ', M') ∧ K x ∧ B.P M'
theorem wm_next {u : σ} (w : WkE E (Es u)) (c : C u) : WcM B sNext E Es C K := fun Δ M S => .inl ⟨Δ, M, u, rfl, sat_wk w S, c⟩
theorem wm_wk (w : WkE E E') (h : WcM B s E' Es C K) : WcM B s E Es C K := fun Δ M S => h Δ M (sat_wk w S)
theorem wm_skip (h : WcM B r E Es C K) : WcM B (sSeq sNext r) E Es C K := h
theorem wm_assoc (h : WcM B (sSeq s (sSeq t r)) E Es C K) : WcM B (sSeq (sSeq s t) r) E Es C K := fun Δ M S => by
  have e : sSeq (sSeq s t) r Δ M = sSeq s (sSeq t r) Δ M := by
    unfold sSeq
    cases s Δ M with
    | none => rfl
    | some u => obtain ⟨f, Δ2, M2⟩ := u; cases f <;> rfl
  rw [e]
  exact h Δ M S
theorem wm_ret (h : Wc B a E K) : WcM B (sSeq (sRet a) t) E Es C K := fun Δ M S => by
  obtain ⟨u, x, M1, h1, k, F1⟩ := h Δ M S
  exact .inr ⟨u, x, Δ, M1, by unfold sSeq sRet; rw [h1]; rfl, k, F1.base⟩
theorem wm_set (h : Wc B a E fun x => WcM B t (E.set i (some (.d x))) Es C K) : WcM B (sSeq (sSet i a) t) E Es C K := fun Δ M S => by
  obtain ⟨u, x, M1, h1, h2, F1⟩ := h Δ M S
  have e : sSeq (sSet i a) t Δ M = t (Δ.set i (some (.d u x))) M1 := by unfold sSeq sSet; rw [h1]
  rw [e]
  exact h2 _ M1 (sat_set F1 i ⟨u, rfl⟩)
theorem wm_par {i k : Nat} (h : Wc B a E fun x => Wc B b E fun y => WcM B t ((E.set i (some (.d x))).set k (some (.d y))) Es C K) : WcM B (sSeq (sPar i k (mArgs [a, b])) t) E Es C K := fun Δ M S => by
  obtain ⟨u, x, M1, h1, h2, F1⟩ := h Δ M S
  obtain ⟨v, y, M2, h3, h4, F2⟩ := h2 Δ M1 F1
  have e : sSeq (sPar i k (mArgs [a, b])) t Δ M = t ((Δ.set i (some (.d u x))).set k (some (.d v y))) M2 := by
    unfold sSeq sPar mArgs mArgs mArgs
    rw [h1]
    simp only []
    rw [h3]
  rw [e]
  exact h4 _ M2 (sat_set (sat_set F2 i ⟨u, rfl⟩) k ⟨v, rfl⟩)
theorem wm_drop (h : Wc B a E fun _ => WcM B t E Es C K) : WcM B (sSeq (sDrop a) t) E Es C K := fun Δ M S => by
  obtain ⟨u, x, M1, h1, h2, F1⟩ := h Δ M S
  have e : sSeq (sDrop a) t Δ M = t Δ M1 := by unfold sSeq sDrop; rw [h1]
  rw [e]
  exact h2 _ M1 F1
theorem wm_if (h : WcT B p E fun k => (k = true → WcM B (sSeq s r) E Es C K) ∧ (k = false → WcM B (sSeq t r) E Es C K)) : WcM B (sSeq (sIf p s t) r) E Es C K := fun Δ M S => by
  obtain ⟨k, M1, h1, ⟨h2, h3⟩, F1⟩ := h Δ M S
  cases k with
  | true =>
    have e : sSeq (sIf p s t) r Δ M = sSeq s r Δ M1 := by unfold sSeq sIf; rw [h1]; rfl
    rw [e]
    exact h2 rfl Δ M1 F1
  | false =>
    have e : sSeq (sIf p s t) r Δ M = sSeq t r Δ M1 := by unfold sSeq sIf; rw [h1]; rfl
    rw [e]
    exact h3 rfl Δ M1 F1
theorem wm_seq {E1 : AE} (h : EvS B s E (.nx E1)) (h' : WcM B t E1 Es C K) : WcM B (sSeq s t) E Es C K := fun Δ M S => by
  obtain ⟨f, Δ1, M1, h1, m1⟩ := h Δ M S
  cases f with
  | nx =>
    have e : sSeq s t Δ M = t Δ1 M1 := by unfold sSeq; rw [h1]
    rw [e]
    exact h' Δ1 M1 m1
  | rt w => cases m1
  | bk => cases m1
  | ct => cases m1
/-- an own list grows by something drawn -/
theorem app_w {xs : List PD} {Δ : Sl} {M : MS} {Q : PD → Prop} (h : E[i]? = some (some (.ml k xs))) (hl : xs.length ≤ 100000) (he : Wc B a E Q) (S : Sat B E Δ M) : ∃ x M', mApp (mVar i) a Δ M = some (.d true .none, M') ∧ Q x ∧ Sat B (E.set i (some (.ml k (xs ++ [x])))) Δ M' := by
  obtain ⟨w, h1, h4⟩ := S.sl i _ h
  obtain ⟨rfl, h5, u, h6⟩ := isV_ml h4
  obtain ⟨v, x, M1, h2, q, S1⟩ := he Δ M S
  obtain ⟨w', h1', h4'⟩ := S1.sl i _ h
  obtain ⟨e, _, u', h7⟩ := isV_ml h4'
  refine ⟨x, _, ?_, q, sat_upd (u := u' && v) (ys := xs ++ [x]) S1 h⟩
  unfold mApp mVar
  rw [h1]
  simp only [h6]
  rw [h2]
  simp only [fz1, h7, if_pos hl]
theorem wm_app {l : List α} (h : E[i]? = some (some (.ml k (l.map ea)))) (hl : l.length ≤ 100000) (he : Wc B a E fun x => ∃ u, x = ea u ∧ WcM B t (E.set i (some (.ml k ((l ++ [u]).map ea)))) Es C K) : WcM B (sSeq (sDrop (mApp (mVar i) a)) t) E Es C K := fun Δ M S => by
  obtain ⟨x, M', h1, ⟨u, rfl, h2⟩, S'⟩ := app_w h (by simpa using hl) he S
  have e : sSeq (sDrop (mApp (mVar i) a)) t Δ M = t Δ M' := by unfold sSeq sDrop; rw [h1]
  rw [e]
  rw [List.map_append] at h2
  exact h2 Δ M' S'
theorem ws_app {l : List α} (h : E[i]? = some (some (.ml k (l.map ea)))) (hl : l.length ≤ 100000) (he : Wc B a E fun x => ∃ u, x = ea u ∧ WcS B t (E.set i (some (.ml k ((l ++ [u]).map ea)))) K) : WcS B (sSeq (sDrop (mApp (mVar i) a)) t) E K := fun Δ M S => by
  obtain ⟨x, M', h1, ⟨u, rfl, h2⟩, S'⟩ := app_w h (by simpa using hl) he S
  have e : sSeq (sDrop (mApp (mVar i) a)) t Δ M = t Δ M' := by unfold sSeq sDrop; rw [h1]
  rw [List.map_append] at h2
  unfold WcS at h2
  rw [e]
  exact h2 Δ M' S'
theorem ws_newL {l : List α} (h : EvL B it E (l.map ea)) (h' : ∀ k, WcS B t (E.set i (some (.ml k (l.map ea)))) K) : WcS B (sSeq (sSet i (mNew it)) t) E K := fun Δ M S => by
  obtain ⟨u, M1, h1, s1⟩ := h Δ M S
  obtain ⟨f, Δ2, M2, x, h2, m2⟩ := h' M1.length _ _ (sat_new (u := u) (xs := l.map ea) (S.step s1) i)
  refine ⟨f, Δ2, M2, x, ?_, m2⟩
  unfold sSeq sSet mNew
  rw [h1]
  exact h2
theorem ws_parLL {l : List α} {m : List β} {i k : Nat} (h : EvL B it E (l.map ea)) (hi : E[i]? = some none) (h' : EvL B it' E (m.map eb)) (h2 : ∀ p q, WcS B t ((E.set i (some (.ml p (l.map ea)))).set k (some (.ml q (m.map eb)))) K) : WcS B (sSeq (sPar i k (mArgs [mNew it, mNew it'])) t) E K := fun Δ M S => by
  obtain ⟨u, M1, h1, s1⟩ := h Δ M S
  have S1 := S.step s1
  have S2 := S1.step (Step.app (E := E) [.lst u (l.map ea)])
  obtain ⟨v, M3, h3, s3⟩ := h' Δ _ S2
  have S3 := (sat_new (u := u) (xs := l.map ea) S1 i).step (s3.mono fun k hk => lvw_new hi hk)
  obtain ⟨f, Δ2, M4, x, h4, m4⟩ := h2 M1.length M3.length _ _ (sat_new (u := v) (xs := m.map eb) S3 k)
  refine ⟨f, Δ2, M4, x, ?_, m4⟩
  unfold sSeq sPar mArgs mArgs mArgs mNew
  rw [h1]
  simp only []
  rw [h3]
  exact h4
theorem forM_go (enc : α → PD) (R : σ → α → σ → Prop) (u0 : σ) (t : Bool) (l : List α) (h : ∀ dn z rs, l = dn ++ z :: rs → ∀ u, RelF R u0 dn u → ∃ E1, TgA g (enc z) (Es u) E1 ∧ WcM B s E1 Es (R u z) K) : ∀ rs dn, l = dn ++ rs → ∀ u, RelF R u0 dn u → ∀ Δ M, Sat B (Es u) Δ M → (∃ Δ' M' u, forGo t g s (rs.map enc) Δ M = some (.nx, Δ', M') ∧ Sat B (Es u) Δ' M' ∧ RelF R u0 l u) ∨ ∃ u x Δ' M', forGo t g s (rs.map enc) Δ M = some (.rt (.d u x), Δ', M') ∧ K x ∧ B.P M'
  | [], dn, e, u, hu, Δ, M, S => .inl ⟨Δ, M, u, rfl, S, by rw [e, List.append_nil]; exact hu⟩
  | z :: rs, dn, e, u, hu, Δ, M, S => by
    obtain ⟨E1, h1, h2⟩ := h dn z rs e u hu
    obtain ⟨Δ1, g1, S1⟩ := h1.2 B t Δ M S
    rcases h2 Δ1 M S1 with ⟨Δ2, M2, v, h3, S2, hv⟩ | ⟨w, x, Δ2, M2, h3, k, hP⟩
    · rcases forM_go enc R u0 t l h rs (dn ++ [z]) (by rw [e]; simp) v (.snoc hu hv) Δ2 M2 S2 with ⟨Δ3, M3, v2, h4, S3, hr⟩ | ⟨w, x, Δ3, M3, h4, k, hP⟩
      · exact .inl ⟨Δ3, M3, v2, by simp only [List.map_cons, forGo, g1]; rw [h3]; exact h4, S3, hr⟩
      · exact .inr ⟨w, x, Δ3, M3, by simp only [List.map_cons, forGo, g1]; rw [h3]; exact h4, k, hP⟩
    · exact .inr ⟨w, x, Δ2, M2, by simp only [List.map_cons, forGo, g1]; rw [h3], k, hP⟩
theorem ws_forM (enc : α → PD) (Es : σ → AE) (R : σ → α → σ → Prop) (u0 : σ) (w : WkE E (Es u0)) (hi : WcL B it E fun xs => ∃ l : List α, xs = l.map enc ∧ (∀ dn z rs, l = dn ++ z :: rs → ∀ u, RelF R u0 dn u → ∃ E1, TgA g (enc z) (Es u) E1 ∧ WcM B s E1 Es (R u z) K) ∧ ∀ u, RelF R u0 l u → WcS B r (Es u) K) : WcS B (sSeq (sFor it g s) r) E K := fun Δ M S => by
  obtain ⟨t, xs, M1, h1, ⟨l, rfl, h, h'⟩, S1⟩ := hi Δ M S
  rcases forM_go enc R u0 t l h l [] rfl u0 .nil Δ M1 (sat_wk w S1) with ⟨Δ2, M2, u, h2, S2, hr⟩ | ⟨v, x, Δ2, M2, h2, k, hP⟩
  · obtain ⟨w2, Δ3, M3, z, h3, kk, F3⟩ := h' u hr Δ2 M2 S2
    exact ⟨w2, Δ3, M3, z, by unfold sSeq sFor; rw [h1]; simp only []; rw [h2]; exact h3, kk, F3⟩
  · exact ⟨v, Δ2, M2, x, by unfold sSeq sFor; rw [h1]; simp only []; rw [h2], k, hP⟩
/-! tests that draw -/
theorem wcT_and {K : Bool → Prop} (h : WcT B p E fun k => (k = false → K false) ∧ (k = true → WcT B q E K)) : WcT B (tAnd' p q) E K := fun Δ M S => by
  obtain ⟨k, M1, h1, ⟨h2, h3⟩, F1⟩ := h Δ M S
  cases k with
  | false => exact ⟨false, M1, by unfold tAnd'; rw [h1]; rfl, h2 rfl, F1⟩
  | true =>
    obtain ⟨k, M2, h4, hk, F2⟩ := h3 rfl Δ M1 F1
    exact ⟨k, M2, by unfold tAnd'; rw [h1]; exact h4, hk, F2⟩
theorem wcT_or {K : Bool → Prop} (h : WcT B p E fun k => (k = true → K true) ∧ (k = false → WcT B q E K)) : WcT B (tOr' p q) E K := fun Δ M S => by
  obtain ⟨k, M1, h1, ⟨h2, h3⟩, F1⟩ := h Δ M S
  cases k with
  | true => exact ⟨true, M1, by unfold tOr'; rw [h1]; rfl, h2 rfl, F1⟩
  | false =>
    obtain ⟨k, M2, h4, hk, F2⟩ := h3 rfl Δ M1 F1
    exact ⟨k, M2, by unfold tOr'; rw [h1]; exact h4, hk, F2⟩
end
theorem e_rep {B : Bs} {E : AE} {a : Sm W} {x : PD} (ha : Ev B a E x) (hx : RpOk x) : Ev B (mFn bRepr (mArgs [a])) E (.str x.shown) := e_fn1 ha fun t M => ⟨true, repr_at hx⟩
theorem m_rep {B : Bs} {E : AE} {i : Nat} {xs : List PD} (ha : RdM E i xs) (hx : RpOk (.list xs)) : Ev B (mFn bRepr (mArgs [mVar i])) E (.str (PyData.list xs).shown) := m_fn1 ha fun k t M hk => ⟨true, by
  have h := repr_at (t := true) (M := M) hx
  have e : rdD (.loc k) M = rdD (.d true (.list xs)) M := by rw [rdD_at hk]; rfl
  unfold bRepr at h ⊢
  simp only [e]
  exact h⟩
theorem y_sne {B : Bs} {E : AE} {a b : Sm W} {x y : PD} (ha : Ev B a E (.str x.shown)) (hb : Ev B b E (.str y.shown)) (hx : RpOk x) (hy : RpOk y) : Ev B (mBin gNe a b) E (eB (!decide (x.shown = y.shown))) :=
  e_bin ha hb fun t s M => ⟨true, by
    rw [gNe_d (str_shaped hx.ok) (str_shaped hy.ok)]
    have : PyData.eqv (.str x.shown) (.str y.shown) = decide (x.shown = y.shown) := by
      show (x.shown == y.shown) = _
      by_cases h : x.shown = y.shown
      · simp [h]
      · simp [h]
    rw [this]
    rfl⟩
theorem y_seq {B : Bs} {E : AE} {a b : Sm W} {x y : PD} (ha : Ev B a E (.str x.shown)) (hb : Ev B b E (.str y.shown)) (hx : RpOk x) (hy : RpOk y) : Ev B (mBin gEq a b) E (eB (decide (x.shown = y.shown))) :=
  e_bin ha hb fun t s M => ⟨true, by
    rw [gEq_d (str_shaped hx.ok) (str_shaped hy.ok)]
    have : PyData.eqv (.str x.shown) (.str y.shown) = decide (x.shown = y.shown) := by
      show (x.shown == y.shown) = _
      by_cases h : x.shown = y.shown
      · simp [h]
      · simp [h]
    rw [this]
    rfl⟩
/-- one of an own list is drawn -/
theorem wc_pickM {B : Bs} {j : Nat} {E : AE} {K : PD → Prop} {α : Type} {ea : α → PD} {i0 i : Nat} {l : List α} {f : Fd} (hB : FkB B j) (h0 : E[i0]? = some (some (.loc j))) (ha : RdM E i (l.map ea))
    (hf : ∀ k M, Fk j M → j ≠ k → (∃ t, M[k]? = some (.lst t (l.map ea)) ∨ M[k]? = some (.fzn t (l.map ea))) → ∃ z, z ∈ l ∧ ∃ s M', f [.loc j, .loc k] M = some (.d s (ea z), M') ∧ StepW j M M') (hk : ∀ z, z ∈ l → K (ea z)) : Wc B (mCall 2 f (mArgs [mVar i0, mVar i])) E K := fun Δ M S => by
  obtain ⟨w, h1, h4⟩ := S.sl i0 _ h0
  have e := isV_loc h4
  subst e
  obtain ⟨k, t, h2, h3⟩ := rd_var S ha
  have hn : j ≠ k := by
    have hj := hB.lt
    obtain ⟨k', hk'⟩ := ha
    rcases hk' with hk' | hk'
    · obtain ⟨w, g1, g2⟩ := S.sl i _ hk'
      obtain ⟨rfl, g3, _⟩ := isV_ml g2
      unfold mVar at h2
      rw [g1] at h2
      cases h2
      omega
    · obtain ⟨w, g1, g2⟩ := S.sl i _ hk'
      obtain ⟨rfl, g3, _⟩ := isV_lv g2
      unfold mVar at h2
      rw [g1] at h2
      cases h2
      omega
  obtain ⟨z, hz, s, M', h5, h6⟩ := hf k M (hB.fk M S.base) hn ⟨t, h3⟩
  refine ⟨s, ea z, M', ?_, hk z hz, sat_w hB S h6⟩
  unfold mCall mArgs mArgs mArgs
  have e0 : mVar i0 Δ M = some (.loc j, M) := by unfold mVar; rw [h1]
  rw [e0]
  simp only []
  rw [h2]
  simp only [List.length_cons, List.length_nil, if_true]
  exact h5
/-- a def with one argument that may be a list -/
theorem fncL {n : Nat} {s : Ss} {x y : PD} (h : ∀ r M, ∃ t N, semFz [true] n s [.d r x] M = some (.d t y, M ++ N)) : FnC (semFz [true] n s) [.d x] y := fun ws M hd => by
  obtain ⟨us, M1, e1, u, s1, _⟩ := fzP_dv hd
  cases u with
  | @d r _ _ _ u =>
    cases u
    obtain ⟨t, N, e⟩ := h r M1
    refine ⟨t, M1 ++ N, ?_, s1.trans (.app N)⟩
    have e2 : semFz [true] n s ws M = semF n s [.d r x] M1 := by
      unfold semFz
      have : fzP [true] ws M = some ([.d r x], M1) := e1
      rw [this]
    rw [e2]
    exact e
theorem m_sum {B : Bs} {E : AE} {i : Nat} {l : List Int} (ha : RdM E i (l.map eI)) : Ev B (mFn bSum (mArgs [mVar i])) E (eI l.sum) := m_fn1 ha fun k t M hk => ⟨true, by
  show (match rdL (.loc k) M with | some (_, xs) => (match asInts xs with | some l => some (W.d true (PyData.int l.sum), M) | none => none) | none => none) = _
  rw [rdL_at hk]
  simp only [intsL]
  rfl⟩
/-- the opposite of a fraction, part by part -/
theorem q_negp {B : Bs} {E : AE} {a b : Sm W} {q : Rat} (ha : Ev B a E (eI (-q.num))) (hb : Ev B b E (eI (q.den : Int))) : Ev B (mTup (mArgs [a, b])) E (fr (-q)) := by
  have := p_mk ha hb
  have e : fr (-q) = eP eI eI (-q.num, (q.den : Int)) := by
    unfold fr
    rw [Rat.neg_num, Rat.neg_den]
    rfl
  rw [e]
  exact this
theorem q_zeron {B : Bs} {E : AE} {a b : Sm W} {q : Rat} (ha : Ev B a E (eI (0 - q.num))) (hb : Ev B b E (eI (q.den : Int))) : Ev B (mTup (mArgs [a, b])) E (fr (-q)) := by
  rw [Int.zero_sub] at ha
  exact q_negp ha hb
/-! a loop with returns within the body of another one -/
def bndR {σ τ β : Type} (k : σ → τ ⊕ β) : σ ⊕ β → τ ⊕ β
  | .inl u => k u
  | .inr b => .inr b
theorem s_forRR {B : Bs} {E : AE} {it : Sm (Bool × List PD)} {g : Tg} {s r : Ss} {α σ τ β : Type} (enc : α → PD) (encr : β → PD) (l : List α) (Es : σ → AE) (step : σ → α → σ ⊕ β) (s0 : σ) (Et : τ → AE) (k : σ → τ ⊕ β) (hi : EvL B it E (l.map enc)) (hw : WkE E (Es s0))
    (h : ∀ done z rest, l = done ++ z :: rest → ∀ u, foldR step done s0 = .inl u → ∃ E', TgA g (enc z) (Es u) E' ∧ EvS B s E' (ocR Es encr (step u z)))
    (h' : ∀ u, foldR step l s0 = .inl u → EvS B r (Es u) (ocR Et encr (k u))) : EvS B (sSeq (sFor it g s) r) E (ocR Et encr (bndR k (foldR step l s0))) := fun Δ M S => by
  obtain ⟨t, M1, h1, s1⟩ := hi Δ M S
  suffices hs : ∀ rest done, l = done ++ rest → ∀ Δ M u, foldR step done s0 = .inl u → Sat B (Es u) Δ M → ∃ f Δ' M', forGo t g s (rest.map enc) Δ M = some (f, Δ', M') ∧ Mt B f Δ' M' (ocR Es encr (foldR step l s0)) by
    obtain ⟨f, Δ', M2, h2, m2⟩ := hs l [] rfl Δ M1 s0 rfl (sat_wk hw (S.step s1))
    have hf : sFor it g s Δ M = some (f, Δ', M2) := by unfold sFor; rw [h1]; exact h2
    cases hr : foldR step l s0 with
    | inl u =>
      rw [hr] at m2
      cases f with
      | nx =>
        obtain ⟨f3, Δ3, M3, h3, m3⟩ := h' u hr Δ' M2 m2
        exact ⟨f3, Δ3, M3, by unfold sSeq; rw [hf]; exact h3, m3⟩
      | rt w => cases m2
      | bk => cases m2
      | ct => cases m2
    | inr b =>
      rw [hr] at m2
      cases f with
      | rt w => exact ⟨.rt w, Δ', M2, by unfold sSeq; rw [hf], m2⟩
      | nx => cases m2
      | bk => cases m2
      | ct => cases m2
  intro rest
  induction rest with
  | nil =>
    intro done e Δ M u hu S
    refine ⟨.nx, Δ, M, by simp [forGo], ?_⟩
    rw [e, List.append_nil, hu]
    exact S
  | cons z rest ih =>
    intro done e Δ M u hu S
    obtain ⟨E', h2, h3⟩ := h done z rest e u hu
    obtain ⟨Δ1, g1, S1⟩ := h2.2 B t Δ M S
    obtain ⟨f, Δ2, M2, k1, m1⟩ := h3 Δ1 M S1
    have e2 : foldR step (done ++ [z]) s0 = step u z := by
      rw [foldR_app, hu]
      show (match step u z with | .inl v => (Sum.inl v : σ ⊕ β) | .inr b => .inr b) = _
      cases step u z <;> rfl
    cases hz : step u z with
    | inl v =>
      rw [hz] at m1 e2
      cases f with
      | nx =>
        obtain ⟨f3, Δ3, M3, k3, m3⟩ := ih (done ++ [z]) (by simp [e]) Δ2 M2 v e2 m1
        refine ⟨f3, Δ3, M3, ?_, m3⟩
        simp [forGo, g1, k1]
        exact k3
      | rt w => cases m1
      | bk => cases m1
      | ct => cases m1
    | inr b =>
      rw [hz] at m1 e2
      have e3 : foldR step l s0 = .inr b := by
        rw [e, show done ++ z :: rest = (done ++ [z]) ++ rest by simp, foldR_app, e2]
      rw [e3]
      cases f with
      | rt w => exact ⟨.rt w, Δ2, M2, by simp [forGo, g1, k1], m1⟩
      | nx => cases m1
      | bk => cases m1
      | ct => cases m1
/-! defs -/
end Ek

/-! EkI: strikes of boxes, capped draws: plain mathematics -/
namespace Ek
open PySem PySem.Spec PyProof.Rows L2
/-! ### a draw is told by its means -/
def at1f (x : Rat) : Rat → Rat := fun y => if y = x then 1 else 0
theorem ex_out {x : Rat} : ∀ {d : Dw}, (∀ z, z ∈ d → z.1 ≠ x) → Ex d (at1f x) = 0
  | [], _ => rfl
  | z :: d, h => by
    rw [ex_cons, ex_out fun y hy => h y (List.mem_cons_of_mem _ hy)]
    unfold at1f
    rw [if_neg (h z List.mem_cons_self)]
    grind
theorem ex_at {d : Dw} (h : d.Pairwise fun a b => a.1 < b.1) {z : Rat × Rat} (hz : z ∈ d) : Ex d (at1f z.1) = z.2 := by
  induction d with
  | nil => cases hz
  | cons y d ih =>
    rw [List.pairwise_cons] at h
    rw [ex_cons]
    cases hz with
    | head =>
      rw [ex_out fun w hw => by have := h.1 w hw; grind]
      unfold at1f
      rw [if_pos rfl]
      grind
    | tail _ hz =>
      rw [ih h.2 hz]
      have := h.1 z hz
      unfold at1f
      rw [if_neg (by grind)]
      grind
theorem mem_of_ex {d e : Dw} (hd : d.Pairwise fun a b => a.1 < b.1) (he : e.Pairwise fun a b => a.1 < b.1) (pd : ∀ z, z ∈ d → 0 < z.2) (h : ∀ f, Ex d f = Ex e f) {z : Rat × Rat} (hz : z ∈ d) : z ∈ e := by
  have h1 := ex_at hd hz
  rw [h] at h1
  have hp := pd z hz
  by_cases hx : ∃ y, y ∈ e ∧ y.1 = z.1
  · obtain ⟨y, hy, e1⟩ := hx
    have h2 := ex_at he hy
    rw [e1, h1] at h2
    have : y = z := Prod.ext e1 h2.symm
    rw [← this]
    exact hy
  · have := ex_out (x := z.1) (d := e) fun y hy e1 => hx ⟨y, hy, e1⟩
    rw [this] at h1
    grind
theorem up_eq : ∀ {d e : Dw}, d.Pairwise (fun a b => a.1 < b.1) → e.Pairwise (fun a b => a.1 < b.1) → (∀ z, z ∈ d ↔ z ∈ e) → d = e
  | [], [], _, _, _ => rfl
  | [], y :: e, _, _, h => by have := (h y).mpr List.mem_cons_self; cases this
  | z :: d, [], _, _, h => by have := (h z).mp List.mem_cons_self; cases this
  | z :: d, y :: e, hd, he, h => by
    rw [List.pairwise_cons] at hd he
    have e1 : z = y := by
      have h1 := (h z).mp List.mem_cons_self
      have h2 := (h y).mpr List.mem_cons_self
      rcases List.mem_cons.mp h1 with h1 | h1
      · exact h1
      · rcases List.mem_cons.mp h2 with h2 | h2
        · exact h2.symm
        · have a := he.1 z h1
          have b := hd.1 y h2
          grind
    subst e1
    have : d = e := up_eq hd.2 he.2 fun w => by
      constructor
      · intro hw
        rcases List.mem_cons.mp ((h w).mp (List.mem_cons_of_mem _ hw)) with rfl | h1
        · have := hd.1 w hw; exact absurd this Rat.lt_irrefl
        · exact h1
      · intro hw
        rcases List.mem_cons.mp ((h w).mpr (List.mem_cons_of_mem _ hw)) with rfl | h1
        · have := he.1 w hw; exact absurd this Rat.lt_irrefl
        · exact h1
    rw [this]
theorem draw_unique {d e : Dw} (hd : d.Pairwise fun a b => a.1 < b.1) (he : e.Pairwise fun a b => a.1 < b.1) (pd : ∀ z, z ∈ d → 0 < z.2) (pe : ∀ z, z ∈ e → 0 < z.2) (h : ∀ f, Ex d f = Ex e f) : d = e :=
  up_eq hd he fun z => ⟨mem_of_ex hd he pd h, mem_of_ex he hd pe fun f => (h f).symm⟩
/-! ### the lesser one of a number and a bound -/
def ls (a b : Rat) : Rat := if decide (b < a) = true then b else a
theorem ls_le (a b : Rat) : ls a b ≤ a ∧ ls a b ≤ b := by
  unfold ls
  by_cases h : b < a <;> simp [h] <;> grind
theorem ls_gr (a b : Rat) : ls a b = a - gr (a - b) 0 := by
  unfold ls gr
  by_cases h : b < a
  · have : ¬ a - b < 0 := by grind
    simp [h, this]; grind
  · by_cases h2 : a - b < 0
    · simp [h, h2]; grind
    · simp [h, h2]; grind
def capp (d : Dw) (s : Rat) : Dw := d.map fun z => (ls z.1 s, z.2)
theorem ex_capp (d : Dw) (s : Rat) (f : Rat → Rat) : Ex (capp d s) f = Ex d fun y => f (ls y s) := by
  unfold Ex capp
  rw [List.map_map]
  rfl
/-- the draw, capped -/
def cpd (d : Dw) (s : Rat) : Dw := (d.filter fun z => decide (z.1 < s)) ++ [(s, ((d.filter fun z => !decide (z.1 < s)).map (·.2)).sum)]
theorem ex_cpd (s : Rat) (f : Rat → Rat) : ∀ d : Dw, Ex (cpd d s) f = Ex d fun y => f (ls y s)
  | [] => by
    unfold cpd
    rw [List.filter_nil, List.filter_nil, List.nil_append, ex_cons, ex_nil, ex_nil]
    simp
    grind
  | z :: d => by
    have ih := ex_cpd s f d
    unfold cpd at ih ⊢
    rw [ex_app, ex_cons, ex_nil] at ih ⊢
    rw [ex_cons, ← ih]
    by_cases h : z.1 < s
    · have e : ls z.1 s = z.1 := by
        have : ¬ s < z.1 := by grind
        unfold ls
        simp [this]
      rw [List.filter_cons, List.filter_cons, e]
      simp only [h, decide_true, if_true, Bool.not_true, Bool.false_eq_true, if_false]
      rw [ex_cons]
      grind
    · have e : ls z.1 s = s := by
        unfold ls
        by_cases h2 : s < z.1
        · simp [h2]
        · have : s = z.1 := by grind
          simp [this]
      rw [List.filter_cons, List.filter_cons, e]
      simp only [h, decide_false, Bool.false_eq_true, if_false, Bool.not_false, if_true, List.map_cons, List.sum_cons]
      grind
theorem capped_eq {d : Dw} {s : Rat} (hu : d.Pairwise fun a b => a.1 < b.1) (hp : ∀ z, z ∈ d → 0 < z.2) (hs : ∃ z, z ∈ d ∧ s ≤ z.1) : ofp (capp d s) = cpd d s := by
  refine draw_unique (ofp_up _) ?_ (ofp_pos ?_) ?_ fun f => by rw [ex_ofp, ex_capp, ex_cpd]
  · unfold cpd
    rw [List.pairwise_append]
    refine ⟨hu.filter _, by simp, fun a ha b hb => ?_⟩
    rw [List.mem_singleton.mp hb]
    simpa using (List.mem_filter.mp ha).2
  · intro z hz
    obtain ⟨y, hy, rfl⟩ := List.mem_map.mp hz
    exact hp y hy
  · intro z hz
    unfold cpd at hz
    rcases List.mem_append.mp hz with hz | hz
    · exact hp z (List.mem_filter.mp hz).1
    · rw [List.mem_singleton.mp hz]
      obtain ⟨y, hy, hs⟩ := hs
      have hn : ¬ y.1 < s := by grind
      have hy' : y ∈ d.filter fun z => !decide (z.1 < s) := List.mem_filter.mpr ⟨hy, by simp [hn]⟩
      have h1 := le_sum (l := (d.filter fun z => !decide (z.1 < s)).map (·.2)) (fun x hx => by
        obtain ⟨w, hw, rfl⟩ := List.mem_map.mp hx
        exact hp w (List.mem_filter.mp hw).1) y.2 (List.mem_map.mpr ⟨y, hy', rfl⟩)
      have h2 := hp y hy
      show (0 : Rat) < _
      grind
/-! ### strikes -/
/-- from the greatest number down -/
def stk (c : Rat) : Rat → Rat → List (Rat × Rat) → Rat
  | _, _, [] => 0
  | a, w, [z] => (a + z.1 * z.2 - c) / (w + z.2)
  | a, w, z :: y :: r => if (a + z.1 * z.2 - c) / (w + z.2) < y.1 then stk c (a + z.1 * z.2) (w + z.2) (y :: r) else (a + z.1 * z.2 - c) / (w + z.2)
/-- what was passed -/
structure Pas (c a w : Rat) (hi : Dw) : Prop where
  a : a = (hi.map fun z => z.1 * z.2).sum
  w : w = (hi.map (·.2)).sum
  pos : ∀ z, z ∈ hi → 0 < z.2
theorem ex_above {s : Rat} : ∀ {hi : Dw}, (∀ z, z ∈ hi → s ≤ z.1) → Ex hi (fun y => gr (y - s) 0) = (hi.map fun z => z.1 * z.2).sum - s * (hi.map (·.2)).sum
  | [], _ => by rw [ex_nil]; simp; grind
  | z :: hi, h => by
    rw [ex_cons, ex_above fun y hy => h y (List.mem_cons_of_mem _ hy), List.map_cons, List.map_cons, List.sum_cons, List.sum_cons]
    have h1 := h z List.mem_cons_self
    have : gr (z.1 - s) 0 = z.1 - s := by
      unfold gr
      have : ¬ z.1 - s < 0 := by grind
      simp [this]
    rw [this]
    grind
theorem ex_below {s : Rat} : ∀ {lo : Dw}, (∀ z, z ∈ lo → z.1 ≤ s) → Ex lo (fun y => gr (y - s) 0) = 0
  | [], _ => rfl
  | z :: lo, h => by
    rw [ex_cons, ex_below fun y hy => h y (List.mem_cons_of_mem _ hy)]
    have h1 := h z List.mem_cons_self
    have : gr (z.1 - s) 0 = 0 := by
      unfold gr
      by_cases h2 : z.1 - s < 0
      · simp [h2]
      · have : z.1 - s = 0 := by grind
        simp [this]
    rw [this]
    grind
theorem stk_spec {c : Rat} (hc : 0 ≤ c) : ∀ (r : List (Rat × Rat)) (a w : Rat) (hi : Dw), r ≠ [] → Pas c a w hi → r.Pairwise (fun x y => y.1 < x.1) → (∀ z, z ∈ r → 0 < z.2) → (∀ z, z ∈ r → ∀ y, y ∈ hi → z.1 ≤ y.1) → (∀ z, r.head? = some z → a - c ≤ z.1 * w) →
    Ex (r ++ hi) (fun y => gr (y - stk c a w r) 0) = c ∧ ∃ z, z ∈ r ∧ stk c a w r ≤ z.1 := by
  intro r
  induction r with
  | nil => intro a w hi h; exact absurd rfl h
  | cons z r ih =>
    intro a w hi _ P up pos ord hd
    have hz := pos z List.mem_cons_self
    have hd0 := hd z rfl
    have w0 : 0 ≤ w := by
      rw [P.w]
      exact sum_nonneg fun x hx => by obtain ⟨y, hy, rfl⟩ := List.mem_map.mp hx; exact P.pos y hy
    have w1 : 0 < w + z.2 := by grind
    have fe : (a + z.1 * z.2 - c) / (w + z.2) * (w + z.2) = a + z.1 * z.2 - c := Rat.div_mul_cancel (by grind)
    have fle : (a + z.1 * z.2 - c) / (w + z.2) ≤ z.1 := by
      generalize (a + z.1 * z.2 - c) / (w + z.2) = f at fe
      by_cases hlt : z.1 < f
      · have := Rat.mul_pos (show 0 < f - z.1 by grind) w1
        grind
      · grind
    have stop : (∀ y, y ∈ r → y.1 ≤ (a + z.1 * z.2 - c) / (w + z.2)) → Ex ((z :: r) ++ hi) (fun y => gr (y - (a + z.1 * z.2 - c) / (w + z.2)) 0) = c := by
      intro hr
      generalize (a + z.1 * z.2 - c) / (w + z.2) = s at fle fe hr
      rw [List.cons_append, ex_cons, ex_app, ex_below hr, ex_above fun y hy => by have := ord z List.mem_cons_self y hy; grind, ← P.a, ← P.w]
      have : gr (z.1 - s) 0 = z.1 - s := by
        unfold gr
        have : ¬ z.1 - s < 0 := by grind
        simp [this]
      rw [this]
      grind
    cases r with
    | nil => exact ⟨stop (fun y hy => by cases hy), z, List.mem_cons_self, fle⟩
    | cons y r =>
      have up' := List.pairwise_cons.mp up
      by_cases hlt : (a + z.1 * z.2 - c) / (w + z.2) < y.1
      · have e : stk c a w (z :: y :: r) = stk c (a + z.1 * z.2) (w + z.2) (y :: r) := by
          show (if (a + z.1 * z.2 - c) / (w + z.2) < y.1 then _ else _) = _
          rw [if_pos hlt]
        have P' : Pas c (a + z.1 * z.2) (w + z.2) (z :: hi) := ⟨by rw [List.map_cons, List.sum_cons, ← P.a]; grind, by rw [List.map_cons, List.sum_cons, ← P.w]; grind, fun x hx => by
          cases hx with
          | head => exact hz
          | tail _ hx => exact P.pos x hx⟩
        obtain ⟨h1, x, h2, h3⟩ := ih (a + z.1 * z.2) (w + z.2) (z :: hi) (by simp) P' up'.2 (fun x hx => pos x (List.mem_cons_of_mem _ hx)) (fun x hx v hv => by
          cases hv with
          | head => have := up'.1 x hx; grind
          | tail _ hv => exact ord x (List.mem_cons_of_mem _ hx) v hv) (fun x hx => by
          cases hx
          have := Rat.mul_le_mul_of_nonneg_left (Rat.le_of_lt hlt) (Rat.le_of_lt w1)
          grind)
        rw [e]
        refine ⟨?_, x, List.mem_cons_of_mem _ h2, h3⟩
        refine Eq.trans ?_ h1
        generalize stk c (a + z.1 * z.2) (w + z.2) (y :: r) = s
        rw [List.cons_append, ex_cons z, ex_app, ex_app, ex_cons z hi]
        grind
      · have e : stk c a w (z :: y :: r) = (a + z.1 * z.2 - c) / (w + z.2) := by
          show (if (a + z.1 * z.2 - c) / (w + z.2) < y.1 then _ else _) = _
          rw [if_neg hlt]
        rw [e]
        refine ⟨stop fun v hv => ?_, z, List.mem_cons_self, fle⟩
        cases hv with
        | head => grind
        | tail _ hv =>
          have := (List.pairwise_cons.mp up'.2).1 v hv
          grind
theorem ex_rev (d : Dw) (f : Rat → Rat) : Ex d.reverse f = Ex d f := by
  unfold Ex
  exact sum_perm ((List.reverse_perm d).map _)
/-- the strike of a box -/
def strk (d : Dw) (c : Rat) : Rat := if c = 0 then (ix d (-1)).1 else stk c 0 0 d.reverse
theorem strk_spec {d : Dw} {c : Rat} (hc : 0 ≤ c) (ne : d ≠ []) (hu : d.Pairwise fun a b => a.1 < b.1) (hp : ∀ z, z ∈ d → 0 < z.2) : Ex d (fun y => gr (y - strk d c) 0) = c ∧ ∃ z, z ∈ d ∧ strk d c ≤ z.1 := by
  unfold strk
  split
  · rename_i h0
    obtain ⟨e, z, rfl⟩ : ∃ e z, d = e ++ [z] := ⟨d.dropLast, d.getLast ne, (List.dropLast_concat_getLast ne).symm⟩
    have hl : ix (e ++ [z]) (-1) = z := ix_last z e
    rw [hl]
    refine ⟨?_, z, by simp, Rat.le_refl⟩
    rw [ex_below fun y hy => ?_, h0]
    rcases List.mem_append.mp hy with hy | hy
    · have := (List.pairwise_append.mp hu).2.2 y hy z (by simp)
      grind
    · rw [List.mem_singleton.mp hy]; exact Rat.le_refl
  · have hr : d.reverse ≠ [] := by simpa using ne
    obtain ⟨h1, z, h2, h3⟩ := stk_spec hc d.reverse 0 0 [] hr ⟨rfl, rfl, fun z hz => by cases hz⟩ (List.pairwise_reverse.mpr hu) (fun z hz => hp z (by simpa using hz)) (fun z _ y hy => by cases hy) (fun z _ => by grind)
    rw [List.append_nil, ex_rev] at h1
    exact ⟨h1, z, by simpa using h2, h3⟩
end Ek

/-! EkL: lots (numbers in sixths with weights), strikes in whole numbers: plain mathematics -/
namespace Ek
open PySem PySem.Spec PyProof.Rows L2
/-! ### loops from the last index down -/
def godn {α σ β : Type} (step : σ → α → Option α → σ ⊕ β) : σ → List α → σ ⊕ β
  | s, [] => .inl s
  | s, z :: r => match step s z r.head? with
    | .inl s' => godn step s' r
    | .inr b => .inr b
theorem godn_inl {α σ β : Type} {step : σ → α → Option α → σ ⊕ β} {s s' : σ} {z : α} {r : List α} (h : step s z r.head? = .inl s') : godn step s (z :: r) = godn step s' r := by
  rw [godn, h]
theorem godn_inr {α σ β : Type} {step : σ → α → Option α → σ ⊕ β} {s : σ} {b : β} {z : α} {r : List α} (h : step s z r.head? = .inr b) : godn step s (z :: r) = .inr b := by
  rw [godn, h]
theorem rngd_nil : rngd (((0 : Nat) : Int) - 1) (-1) = [] := rfl
theorem rngd_suc (k : Nat) : rngd (((k + 1 : Nat) : Int) - 1) (-1) = (k : Int) :: rngd ((k : Int) - 1) (-1) := by
  unfold rngd
  have e1 : ((((k + 1 : Nat) : Int) - 1) - (-1)).toNat = k + 1 := by omega
  have e2 : (((k : Int) - 1) - (-1)).toNat = k := by omega
  rw [e1, e2, List.range_succ_eq_map, List.map_cons, List.map_map]
  congr 1
  · omega
  · refine List.map_congr_left fun i _ => ?_
    simp only [Function.comp_apply]
    omega
theorem take_rev {α : Type} {l : List α} {k : Nat} (h : k < l.length) : (l.take (k + 1)).reverse = l[k] :: (l.take k).reverse := by
  rw [List.take_succ_eq_append_getElem h, List.reverse_append]
  rfl
theorem fold_dn {α σ β : Type} [Inhabited α] (d : List α) (stI : σ → Int → σ ⊕ β) (step : σ → α → Option α → σ ⊕ β)
    (h0 : 0 < d.length → ∀ s, stI s 0 = step s (ix d 0) none)
    (h1 : ∀ (k : Nat), k + 1 < d.length → ∀ s, stI s ((k + 1 : Nat) : Int) = step s (ix d ((k + 1 : Nat) : Int)) (some (ix d (k : Int)))) :
    ∀ (k : Nat), k ≤ d.length → ∀ s, foldR stI (rngd ((k : Int) - 1) (-1)) s = godn step s (d.take k).reverse
  | 0, _, s => by rw [rngd_nil]; rfl
  | k + 1, hk, s => by
    have ih := fold_dn d stI step h0 h1 k (by omega)
    rw [rngd_suc, take_rev (by omega : k < d.length)]
    have e : stI s (k : Int) = step s d[k] (d.take k).reverse.head? := by
      cases k with
      | zero =>
        have := h0 (by omega) s
        rw [show ((0 : Nat) : Int) = 0 from rfl, this, show (0 : Int) = ((0 : Nat) : Int) from rfl, ix_nat (by omega)]
        simp
      | succ k =>
        rw [h1 k (by omega) s, ix_nat (by omega), ix_nat (by omega), take_rev (by omega : k < d.length)]
        rfl
    show (match stI s (k : Int) with | .inl u => foldR stI (rngd ((k : Int) - 1) (-1)) u | .inr b => .inr b) = (match step s d[k] (d.take k).reverse.head? with | .inl s' => godn step s' (d.take k).reverse | .inr b => .inr b)
    rw [e]
    cases step s d[k] (d.take k).reverse.head? with
    | inl s' => exact ih s'
    | inr b => rfl
theorem foldR_upd {α σ β : Type} {step : σ → α → σ ⊕ β} {upd : σ → α → σ} (h : ∀ s z s', step s z = .inl s' → s' = upd s z) : ∀ (l : List α) (s s' : σ), foldR step l s = .inl s' → s' = l.foldl upd s
  | [], s, s', e => by cases e; rfl
  | z :: l, s, s', e => by
    have e : (match step s z with | .inl u => foldR step l u | .inr b => .inr b) = Sum.inl s' := e
    cases hz : step s z with
    | inl u =>
      rw [hz] at e
      have := foldR_upd h l u s' e
      rw [this, h s z u hz]
      rfl
    | inr b => rw [hz] at e; cases e
theorem foldl2Q {α : Type} (f g : α → Rat) : ∀ (l : List α) (a b : Rat), l.foldl (fun s z => (s.1 + f z, s.2 + g z)) (a, b) = (a + (l.map f).sum, b + (l.map g).sum)
  | [], a, b => by simp; grind
  | z :: l, a, b => by
    rw [List.foldl_cons, foldl2Q f g l]
    simp only [List.map_cons, List.sum_cons, Rat.add_assoc]
theorem foldl2I {α : Type} (f g : α → Int) : ∀ (l : List α) (a b : Int), l.foldl (fun s z => (s.1 + f z, s.2 + g z)) (a, b) = (a + (l.map f).sum, b + (l.map g).sum)
  | [], a, b => by simp
  | z :: l, a, b => by
    rw [List.foldl_cons, foldl2I f g l]
    simp only [List.map_cons, List.sum_cons, Int.add_assoc]
theorem rngd_mem {n : Nat} {i : Int} (h : i ∈ rngd ((n : Int) - 1) (-1)) : 0 ≤ i ∧ i < n := by
  obtain ⟨k, hk, rfl⟩ := List.mem_map.mp h
  have := List.mem_range.mp hk
  omega
theorem rngd_len (n : Nat) : (rngd ((n : Int) - 1) (-1)).length = n := by
  unfold rngd
  simp
/-! ### strikes: program's loop -/
def stkS (c : Rat) (s : Rat × Rat) (z : Rat × Rat) (y : Option (Rat × Rat)) : (Rat × Rat) ⊕ Rat :=
  match y with
  | none => .inr (((s.1 + z.1 * z.2) - c) / (s.2 + z.2))
  | some y => if ((s.1 + z.1 * z.2) - c) / (s.2 + z.2) < y.1 then .inl (s.1 + z.1 * z.2, s.2 + z.2) else .inr (((s.1 + z.1 * z.2) - c) / (s.2 + z.2))
theorem godn_stk (c : Rat) : ∀ (r : List (Rat × Rat)) (s : Rat × Rat), endR (fun _ => (0 : Rat)) (godn (stkS c) s r) = stk c s.1 s.2 r
  | [], s => rfl
  | [z], s => rfl
  | z :: y :: r, s => by
    rw [stk]
    by_cases h : ((s.1 + z.1 * z.2) - c) / (s.2 + z.2) < y.1
    · rw [if_pos h, godn_inl (s' := (s.1 + z.1 * z.2, s.2 + z.2)) (by show stkS c s z (some y) = _; exact if_pos h)]
      exact godn_stk c (y :: r) (s.1 + z.1 * z.2, s.2 + z.2)
    · rw [if_neg h, godn_inr (b := ((s.1 + z.1 * z.2) - c) / (s.2 + z.2)) (by show stkS c s z (some y) = _; exact if_neg h)]
      rfl
/-! ### strikes in whole numbers -/
def istk (K : Int) : Int → Int → List (Int × Int) → Int × Int
  | _, _, [] => (0, 1)
  | a, w, [z] => (a + z.1 * z.2 - K, w + z.2)
  | a, w, z :: y :: r => if y.1 * (w + z.2) ≤ a + z.1 * z.2 - K then (a + z.1 * z.2 - K, w + z.2) else istk K (a + z.1 * z.2) (w + z.2) (y :: r)
def istS (K : Int) (s : Int × Int) (z : Int × Int) (y : Option (Int × Int)) : (Int × Int) ⊕ (Int × Int) :=
  match y with
  | none => .inr (s.1 + z.1 * z.2 - K, s.2 + z.2)
  | some y => if y.1 * (s.2 + z.2) ≤ s.1 + z.1 * z.2 - K then .inr (s.1 + z.1 * z.2 - K, s.2 + z.2) else .inl (s.1 + z.1 * z.2, s.2 + z.2)
theorem godn_istk (K : Int) : ∀ (r : List (Int × Int)) (s : Int × Int), endR (fun _ => ((0 : Int), (1 : Int))) (godn (istS K) s r) = istk K s.1 s.2 r
  | [], s => rfl
  | [z], s => rfl
  | z :: y :: r, s => by
    rw [istk]
    by_cases h : y.1 * (s.2 + z.2) ≤ s.1 + z.1 * z.2 - K
    · rw [if_pos h, godn_inr (b := (s.1 + z.1 * z.2 - K, s.2 + z.2)) (by show istS K s z (some y) = _; exact if_pos h)]
      rfl
    · rw [if_neg h, godn_inl (s' := (s.1 + z.1 * z.2, s.2 + z.2)) (by show istS K s z (some y) = _; exact if_neg h)]
      exact godn_istk K (y :: r) (s.1 + z.1 * z.2, s.2 + z.2)
theorem div_eq {a b c d : Rat} (hb : b ≠ 0) (hd : d ≠ 0) (h : a * d = c * b) : a / b = c / d := by
  have e1 : a / b * b = a := Rat.div_mul_cancel hb
  have e2 : c / d * d = c := Rat.div_mul_cancel hd
  have e3 : b * b⁻¹ = 1 := Rat.mul_inv_cancel b hb
  have e4 : d * d⁻¹ = 1 := Rat.mul_inv_cancel d hd
  generalize a / b = x at e1
  generalize c / d = y at e2
  subst e1 e2
  have : (x - y) * (b * d) = 0 := by grind
  have e5 : (b * d) * (b⁻¹ * d⁻¹) = 1 := by grind
  have : x - y = 0 := by
    have h2 : (x - y) * (b * d) * (b⁻¹ * d⁻¹) = x - y := by grind
    rw [← h2, this]; grind
  grind
theorem mk_div (a : Int) {n : Int} (h : 0 < n) : mkRat a n.toNat = (a : Rat) / (n : Rat) := by
  rw [Rat.mkRat_eq_div]
  congr 1
  have : ((n.toNat : Int) : Rat) = (n : Rat) := by rw [Int.toNat_of_nonneg (by omega)]
  rw [← this]
  exact (Rat.intCast_natCast _).symm
theorem cast_pos {n : Int} (h : 0 < n) : (0 : Rat) < (n : Rat) := by
  have := Rat.intCast_lt_intCast.mpr h
  simpa using this
theorem cast_ne {n : Int} (h : 0 < n) : (n : Rat) ≠ 0 := by have := cast_pos h; grind
theorem istk_pos {K : Int} : ∀ (r : List (Int × Int)) (a w : Int), r ≠ [] → 0 ≤ w → (∀ z, z ∈ r → 0 < z.2) → 0 < (istk K a w r).2 ∧ (istk K a w r).2 ≤ w + (r.map (·.2)).sum
  | [], _, _, h, _, _ => absurd rfl h
  | [z], a, w, _, h, hp => by
    have := hp z (by simp)
    show 0 < w + z.2 ∧ w + z.2 ≤ w + ([z].map (·.2)).sum
    simp
    omega
  | z :: y :: r, a, w, _, h, hp => by
    have hz := hp z (by simp)
    have hs : 0 ≤ ((y :: r).map (·.2)).sum := by
      have : ∀ l : List (Int × Int), (∀ z, z ∈ l → 0 < z.2) → 0 ≤ (l.map (·.2)).sum := by
        intro l
        induction l with
        | nil => simp
        | cons x l ih =>
          intro h
          have h1 := ih fun z hz => h z (List.mem_cons_of_mem _ hz)
          have h2 := h x List.mem_cons_self
          simp only [List.map_cons, List.sum_cons]
          omega
      exact this _ fun z hz => hp z (List.mem_cons_of_mem _ hz)
    show 0 < (if y.1 * (w + z.2) ≤ a + z.1 * z.2 - K then (a + z.1 * z.2 - K, w + z.2) else istk K (a + z.1 * z.2) (w + z.2) (y :: r)).2 ∧ (if y.1 * (w + z.2) ≤ a + z.1 * z.2 - K then (a + z.1 * z.2 - K, w + z.2) else istk K (a + z.1 * z.2) (w + z.2) (y :: r)).2 ≤ _
    rw [List.map_cons, List.sum_cons]
    split
    · simp only
      omega
    · have := istk_pos (K := K) (y :: r) (a + z.1 * z.2) (w + z.2) (by simp) (by omega) fun z hz => hp z (List.mem_cons_of_mem _ hz)
      omega
theorem istk_top {K : Int} {N : Nat} : ∀ (r : List (Int × Int)) (a w : Int), r ≠ [] → (∀ z, z ∈ r → (z.1 * z.2).natAbs ≤ N) → (istk K a w r).1.natAbs ≤ a.natAbs + r.length * N + K.natAbs
  | [], _, _, h, _ => absurd rfl h
  | [z], a, w, _, hp => by
    have := hp z (by simp)
    show (a + z.1 * z.2 - K).natAbs ≤ _
    simp
    omega
  | z :: y :: r, a, w, _, hp => by
    have hz := hp z (by simp)
    have ih := istk_top (K := K) (y :: r) (a + z.1 * z.2) (w + z.2) (by simp) fun z hz => hp z (List.mem_cons_of_mem _ hz)
    show (if y.1 * (w + z.2) ≤ a + z.1 * z.2 - K then (a + z.1 * z.2 - K, w + z.2) else istk K (a + z.1 * z.2) (w + z.2) (y :: r)).1.natAbs ≤ _
    rw [List.length_cons, Nat.succ_mul]
    split
    · simp only
      omega
    · omega
/-- the same strike in fractions -/
def trL (W : Int) (z : Int × Int) : Rat × Rat := ((z.1 : Rat) / 6, (z.2 : Rat) / (W : Rat))
theorem stk_lot {p W : Int} (hW : 0 < W) : ∀ (r : List (Int × Int)) (a w : Int), r ≠ [] → 0 ≤ w → (∀ z, z ∈ r → 0 < z.2) →
    stk ((p : Rat) / 6) ((a : Rat) / (6 * (W : Rat))) ((w : Rat) / (W : Rat)) (r.map (trL W)) = ((istk (p * W) a w r).1 : Rat) / (6 * ((istk (p * W) a w r).2 : Rat)) := by
  have hW0 := cast_ne hW
  have fnd : ∀ (a w : Int) (z : Int × Int), 0 ≤ w → 0 < z.2 → ((a : Rat) / (6 * (W : Rat)) + (trL W z).1 * (trL W z).2 - (p : Rat) / 6) / ((w : Rat) / (W : Rat) + (trL W z).2) = ((a + z.1 * z.2 - p * W : Int) : Rat) / (6 * ((w + z.2 : Int) : Rat)) := by
    intro a w z hw hz
    have h1 := cast_pos (show 0 < w + z.2 by omega)
    have h2 : (W : Rat) * (W : Rat)⁻¹ = 1 := Rat.mul_inv_cancel _ hW0
    have h3 : (0 : Rat) < (W : Rat)⁻¹ := Rat.inv_pos.mpr (cast_pos hW)
    have e6 : (6 * (W : Rat))⁻¹ = (W : Rat)⁻¹ / 6 := by
      rw [Rat.inv_mul_rev]
      rw [Rat.div_def]
    have hne : (w : Rat) / (W : Rat) + (trL W z).2 ≠ 0 := by
      unfold trL
      simp only [Rat.div_def]
      have := Rat.mul_pos h1 h3
      rw [Rat.intCast_add] at this
      grind
    refine div_eq hne (by grind) ?_
    unfold trL
    simp only [Rat.div_def _ (W : Rat), Rat.div_def _ (6 * (W : Rat)), e6]
    simp only [Rat.intCast_add, Rat.intCast_sub, Rat.intCast_mul]
    generalize (W : Rat)⁻¹ = i at h2
    grind
  have step : ∀ (a w : Int) (z : Int × Int), 0 ≤ w → 0 < z.2 → (a : Rat) / (6 * (W : Rat)) + (trL W z).1 * (trL W z).2 = ((a + z.1 * z.2 : Int) : Rat) / (6 * (W : Rat)) ∧ (w : Rat) / (W : Rat) + (trL W z).2 = ((w + z.2 : Int) : Rat) / (W : Rat) := by
    intro a w z hw hz
    have e6 : (6 * (W : Rat))⁻¹ = (W : Rat)⁻¹ / 6 := by
      rw [Rat.inv_mul_rev]
      rw [Rat.div_def]
    unfold trL
    simp only [Rat.div_def _ (W : Rat), Rat.div_def _ (6 * (W : Rat)), e6]
    simp only [Rat.intCast_add, Rat.intCast_sub, Rat.intCast_mul]
    constructor <;> grind
  intro r
  induction r with
  | nil => intro a w h; exact absurd rfl h
  | cons z r ih =>
    intro a w _ hw hp
    have hz := hp z (by simp)
    cases r with
    | nil => exact fnd a w z hw hz
    | cons y r =>
      have ih := ih (a + z.1 * z.2) (w + z.2) (by simp) (by omega) fun z hz => hp z (List.mem_cons_of_mem _ hz)
      show (if ((a : Rat) / (6 * (W : Rat)) + (trL W z).1 * (trL W z).2 - (p : Rat) / 6) / ((w : Rat) / (W : Rat) + (trL W z).2) < (trL W y).1 then stk ((p : Rat) / 6) ((a : Rat) / (6 * (W : Rat)) + (trL W z).1 * (trL W z).2) ((w : Rat) / (W : Rat) + (trL W z).2) ((y :: r).map (trL W)) else ((a : Rat) / (6 * (W : Rat)) + (trL W z).1 * (trL W z).2 - (p : Rat) / 6) / ((w : Rat) / (W : Rat) + (trL W z).2)) = _
      rw [fnd a w z hw hz, (step a w z hw hz).1, (step a w z hw hz).2, ih]
      have h1 := cast_pos (show 0 < w + z.2 by omega)
      have fe : ((a + z.1 * z.2 - p * W : Int) : Rat) / (6 * ((w + z.2 : Int) : Rat)) * (6 * ((w + z.2 : Int) : Rat)) = ((a + z.1 * z.2 - p * W : Int) : Rat) := Rat.div_mul_cancel (by grind)
      have iff : ((a + z.1 * z.2 - p * W : Int) : Rat) / (6 * ((w + z.2 : Int) : Rat)) < (trL W y).1 ↔ ¬ (y.1 * (w + z.2) ≤ a + z.1 * z.2 - p * W) := by
        rw [← Rat.intCast_le_intCast, Rat.intCast_mul]
        unfold trL
        generalize ((a + z.1 * z.2 - p * W : Int) : Rat) / (6 * ((w + z.2 : Int) : Rat)) = f at fe
        simp only
        constructor
        · intro h h'
          have := Rat.mul_lt_mul_of_pos_right h (show (0 : Rat) < 6 * ((w + z.2 : Int) : Rat) by grind)
          grind
        · intro h
          by_cases hf : f < (y.1 : Rat) / 6
          · exact hf
          · exfalso
            have := Rat.mul_le_mul_of_nonneg_right (show (y.1 : Rat) / 6 ≤ f by grind) (show (0 : Rat) ≤ 6 * ((w + z.2 : Int) : Rat) by grind)
            grind
      show _ = ((if y.1 * (w + z.2) ≤ a + z.1 * z.2 - p * W then (a + z.1 * z.2 - p * W, w + z.2) else istk (p * W) (a + z.1 * z.2) (w + z.2) (y :: r)).1 : Rat) / (6 * ((if y.1 * (w + z.2) ≤ a + z.1 * z.2 - p * W then (a + z.1 * z.2 - p * W, w + z.2) else istk (p * W) (a + z.1 * z.2) (w + z.2) (y :: r)).2 : Rat))
      by_cases hc : y.1 * (w + z.2) ≤ a + z.1 * z.2 - p * W
      · rw [if_neg (by rw [iff]; exact fun h => h hc), if_pos hc]
      · rw [if_pos (iff.mpr hc), if_neg hc]
theorem inv_sz {q : Rat} {b : Nat} (h : 0 < q) (k : Sz b q) : Sz b q⁻¹ := by
  have hn : 0 < q.num := by
    have := (Rat.lt_iff 0 q).mp h
    simpa using this
  constructor
  · rw [Rat.num_inv, Int.sign_eq_one_of_pos hn]
    simp
    exact k.2
  · rw [Rat.den_inv, if_neg (by omega)]
    exact k.1
theorem div_sz {p q : Rat} {a b : Nat} (h0 : 0 < q) (h : Sz a p) (k : Sz b q) : Sz (a + b) (p / q) := mul_sz h (inv_sz h0 k)
theorem ix_in {α : Type} [Inhabited α] {l : List α} {i : Int} (h : IxOk l.length i) : ix l i ∈ l := by
  have h1 := ix_some h
  unfold atI at h1
  cases h2 : ixN l.length i with
  | none => rw [h2] at h1; cases h1
  | some j => rw [h2] at h1; exact List.mem_of_getElem? h1
theorem cmul_l {x y : Int} (h : x.natAbs < 2 ^ 60) : CMulE x y := .inl (.inl ⟨by omega, by omega⟩)
theorem cmul_r {x y : Int} (h : y.natAbs < 2 ^ 60) : CMulE x y := .inl (.inr ⟨by omega, by omega⟩)
/-! ### lots -/
structure Gl (m : Nat) (l : List (Int × Int)) : Prop where
  ne : l ≠ []
  len : l.length ≤ m
  up : l.Pairwise fun a b => a.1 < b.1
  num : ∀ z, z ∈ l → z.1.natAbs ≤ 36
  w : ∀ z, z ∈ l → 1 ≤ z.2 ∧ z.2 ≤ 3
def wt (l : List (Int × Int)) : Int := (l.map (·.2)).sum
theorem wt_bd : ∀ {l : List (Int × Int)}, (∀ z, z ∈ l → 1 ≤ z.2 ∧ z.2 ≤ 3) → (l.length : Int) ≤ wt l ∧ wt l ≤ 3 * (l.length : Int)
  | [], _ => by unfold wt; simp
  | z :: l, h => by
    have h1 := wt_bd fun y hy => h y (List.mem_cons_of_mem _ hy)
    have h2 := h z List.mem_cons_self
    have e : wt (z :: l) = z.2 + wt l := by unfold wt; simp
    rw [e, List.length_cons]
    omega
theorem Gl.wtb {m : Nat} {l : List (Int × Int)} (g : Gl m l) : 0 < wt l ∧ wt l ≤ 3 * (m : Int) := by
  have h1 := wt_bd g.w
  have h2 := List.length_pos_iff.mpr g.ne
  have h3 := g.len
  omega
def lotd (l : List (Int × Int)) : Dw := l.map (trL (wt l))
theorem lotd_len (l : List (Int × Int)) : (lotd l).length = l.length := by unfold lotd; simp
theorem part27 : ∀ {W : Int}, 0 < W → W ≤ 12 → ∃ k : Int, 0 < k ∧ W * k = 27720 := by
  intro W h0 h1
  have : W = 1 ∨ W = 2 ∨ W = 3 ∨ W = 4 ∨ W = 5 ∨ W = 6 ∨ W = 7 ∨ W = 8 ∨ W = 9 ∨ W = 10 ∨ W = 11 ∨ W = 12 := by omega
  rcases this with rfl | rfl | rfl | rfl | rfl | rfl | rfl | rfl | rfl | rfl | rfl | rfl
  · exact ⟨27720, by decide, by decide⟩
  · exact ⟨13860, by decide, by decide⟩
  · exact ⟨9240, by decide, by decide⟩
  · exact ⟨6930, by decide, by decide⟩
  · exact ⟨5544, by decide, by decide⟩
  · exact ⟨4620, by decide, by decide⟩
  · exact ⟨3960, by decide, by decide⟩
  · exact ⟨3465, by decide, by decide⟩
  · exact ⟨3080, by decide, by decide⟩
  · exact ⟨2772, by decide, by decide⟩
  · exact ⟨2520, by decide, by decide⟩
  · exact ⟨2310, by decide, by decide⟩
theorem bd_part {a W : Int} {N : Nat} (h0 : 0 < W) (h1 : W ≤ 12) (ha : a.natAbs ≤ N) : Bd 27720 (27720 * N) ((a : Rat) / (W : Rat)) := by
  obtain ⟨k, hk, e⟩ := part27 h0 h1
  refine ⟨a * k, ?_, ?_⟩
  · rw [Int.natAbs_mul, Nat.mul_comm]
    have : k.natAbs ≤ 27720 := by
      have : 1 * k ≤ W * k := Int.mul_le_mul_of_nonneg_right (by omega) (by omega)
      omega
    exact Nat.mul_le_mul this ha
  · have e1 : ((27720 : Nat) : Rat) = (W : Rat) * (k : Rat) := by
      rw [← Rat.intCast_mul, e]; rfl
    have e2 : (a : Rat) / (W : Rat) * (W : Rat) = (a : Rat) := Rat.div_mul_cancel (cast_ne h0)
    rw [e1, Rat.intCast_mul]
    grind
theorem bd_six (a : Int) {N : Nat} (ha : a.natAbs ≤ N) : Bd 6 N ((a : Rat) / 6) := ⟨a, ha, by grind⟩
theorem bd_sixW {a B : Int} {N : Nat} (h0 : 0 < B) (h1 : B ≤ 12) (ha : a.natAbs ≤ N) : Bd 166320 (27720 * N) ((a : Rat) / (6 * (B : Rat))) := by
  obtain ⟨n, hn, e⟩ := bd_part h0 h1 ha
  refine ⟨n, hn, ?_⟩
  rw [← e]
  have e6 : (6 * (B : Rat))⁻¹ = (B : Rat)⁻¹ / 6 := by
    rw [Rat.inv_mul_rev]
    rw [Rat.div_def]
  rw [Rat.div_def, Rat.div_def, e6]
  grind
theorem bd_sixth {a : Int} {N : Nat} (ha : a.natAbs ≤ N) : Bd 166320 (27720 * N) ((a : Rat) / 6) := by
  have := bd_sixW (a := a) (B := 1) (by decide) (by decide) ha
  simpa using this
theorem sum_div {α : Type} (f : α → Int) (W : Rat) : ∀ l : List α, (l.map fun z => (f z : Rat) / W).sum = ((l.map f).sum : Int) / W
  | [] => by simp; grind
  | z :: l => by
    rw [List.map_cons, List.sum_cons, sum_div f W l, List.map_cons, List.sum_cons, Rat.intCast_add]
    grind
theorem lotd_sum {l : List (Int × Int)} (h : 0 < wt l) : ((lotd l).map (·.2)).sum = 1 := by
  unfold lotd
  rw [List.map_map]
  have := sum_div (fun z : Int × Int => z.2) (wt l : Rat) l
  refine Eq.trans this ?_
  exact (Rat.div_def _ _).trans (Rat.mul_inv_cancel _ (cast_ne h))
theorem six_lt {a b : Int} (h : a < b) : (a : Rat) / 6 < (b : Rat) / 6 := by
  have := Rat.intCast_lt_intCast.mpr h
  grind
theorem Gl.gw {m : Nat} {l : List (Int × Int)} (g : Gl m l) (hm : m ≤ 4) : Gw (Bd 166320 33554432) 27720 (lotd l) := by
  have hW := g.wtb
  have hp : (0 : Rat) < (wt l : Rat) := cast_pos hW.1
  have pos : ∀ z, z ∈ lotd l → 0 < z.2 := fun z hz => by
    obtain ⟨y, hy, rfl⟩ := List.mem_map.mp hz
    have h1 := cast_pos (show 0 < y.2 by have := (g.w y hy).1; omega)
    exact Rat.mul_pos h1 (Rat.inv_pos.mpr hp)
  have ch : ∀ z, z ∈ lotd l → Bd 27720 (27720 * 3) z.2 := fun z hz => by
    obtain ⟨y, hy, rfl⟩ := List.mem_map.mp hz
    have := g.w y hy
    exact bd_part hW.1 (by omega) (by omega)
  refine ⟨?_, pos, lotd_sum hW.1, fun z hz => ?_, fun z hz => ?_⟩
  · unfold lotd
    rw [List.pairwise_map]
    exact g.up.imp fun h => six_lt h
  · obtain ⟨y, hy, rfl⟩ := List.mem_map.mp hz
    exact (bd_sixth (g.num y hy)).mono (by decide)
  · refine bd_unit (ch z hz) (by have := pos z hz; grind) ?_
    have h := le_sum (l := (lotd l).map (·.2)) (fun x hx => by
      obtain ⟨w, hw, rfl⟩ := List.mem_map.mp hx
      exact pos w hw) z.2 (List.mem_map.mpr ⟨z, hz, rfl⟩)
    rw [lotd_sum hW.1] at h
    exact h
/-- the strike of a lot -/
def lstk (l : List (Int × Int)) (p : Int) : Int × Int := if p = 0 then ((ix l (-1)).1, 1) else istk (p * wt l) 0 0 l.reverse
theorem ix_map {α β : Type} [Inhabited α] [Inhabited β] (f : α → β) {l : List α} (h : l ≠ []) : ix (l.map f) (-1) = f (ix l (-1)) := by
  obtain ⟨e, z, rfl⟩ : ∃ e z, l = e ++ [z] := ⟨l.dropLast, l.getLast h, (List.dropLast_concat_getLast h).symm⟩
  rw [List.map_append, List.map_cons, List.map_nil, ix_last, ix_last]
theorem lstk_eq {m : Nat} {l : List (Int × Int)} {p : Int} (g : Gl m l) : strk (lotd l) ((p : Rat) / 6) = ((lstk l p).1 : Rat) / (6 * ((lstk l p).2 : Rat)) := by
  unfold strk lstk
  by_cases h : p = 0
  · subst h
    rw [if_pos (by simp; grind), if_pos rfl]
    unfold lotd
    rw [ix_map _ g.ne]
    show ((ix l (-1)).1 : Rat) / 6 = _
    simp
  · have : ¬ ((p : Rat) / 6 = 0) := by
      intro e
      have e2 : (p : Rat) = ((0 : Int) : Rat) := by rw [Rat.intCast_zero]; grind
      exact h (Rat.intCast_inj.mp e2)
    rw [if_neg this, if_neg h]
    have := stk_lot (p := p) g.wtb.1 l.reverse 0 0 (by simpa using g.ne) (by omega) (fun z hz => by have := (g.w z (by simpa using hz)).1; omega)
    rw [← this]
    unfold lotd
    rw [List.map_reverse]
    congr 1 <;> simp <;> grind
theorem sum_rev (l : List Int) : l.reverse.sum = l.sum := by
  induction l with
  | nil => rfl
  | cons a l ih => rw [List.reverse_cons, List.sum_append, ih]; simp; omega
theorem lstk_bd {m : Nat} {l : List (Int × Int)} {p : Int} (g : Gl m l) (hm : m ≤ 4) (h0 : 0 ≤ p) (h1 : p ≤ 23) : 0 < (lstk l p).2 ∧ (lstk l p).2 ≤ 12 ∧ (lstk l p).1.natAbs ≤ 1000 := by
  have hW := g.wtb
  unfold lstk
  by_cases h : p = 0
  · rw [if_pos h]
    refine ⟨Int.one_pos, (by decide : (1 : Int) ≤ 12), ?_⟩
    have hl := List.length_pos_iff.mpr g.ne
    have := g.num _ (ix_in (l := l) (i := -1) ⟨by omega, by omega⟩)
    show (ix l (-1)).1.natAbs ≤ 1000
    omega
  · rw [if_neg h]
    have hr : l.reverse ≠ [] := by simpa using g.ne
    have a := istk_pos (K := p * wt l) l.reverse 0 0 hr (by omega) (fun z hz => by have := (g.w z (by simpa using hz)).1; omega)
    rw [List.map_reverse, sum_rev] at a
    have b := istk_top (K := p * wt l) (N := 108) l.reverse 0 0 hr fun z hz => by
      have h1 := g.num z (by simpa using hz)
      have h2 := g.w z (by simpa using hz)
      rw [Int.natAbs_mul]
      exact Nat.mul_le_mul h1 (show z.2.natAbs ≤ 3 by omega)
    have c : (p * wt l).natAbs ≤ 23 * 12 := by
      rw [Int.natAbs_mul]
      exact Nat.mul_le_mul (by omega) (by omega)
    have d := g.len
    rw [List.length_reverse] at b
    have e : (l.map (·.2)).sum = wt l := rfl
    omega
end Ek

/-! EkK: boxes that are opened at a price, in any order: plain mathematics -/
namespace Ek
open PySem PySem.Spec PyProof.Rows L2
/-- the capped draw of a box -/
def cap (b : Dw × Rat) : Dw := ofp (capp b.1 (strk b.1 b.2))
theorem ex_cap (b : Dw × Rat) (f : Rat → Rat) : Ex (cap b) f = Ex b.1 fun y => f (ls y (strk b.1 b.2)) := by
  unfold cap
  rw [ex_ofp, ex_capp]
theorem ex_sub (d : Dw) (f g : Rat → Rat) : Ex d (fun x => f x - g x) = Ex d f - Ex d g := by
  have h := ex_add d f (fun x => (-1 : Rat) * g x)
  rw [ex_mul] at h
  have e : (fun x => f x - g x) = fun x => f x + (-1 : Rat) * g x := by funext x; grind
  rw [e, h]
  grind
theorem me_cons (d : Dw) (ds : List Dw) (f : Rat → Rat) (x : Rat) : ME (d :: ds) f x = Ex d (fun y => ME ds f (gr x y)) := rfl
theorem gr_ge2 (a b : Rat) : a ≤ gr a b ∧ b ≤ gr a b := by
  unfold gr
  by_cases h : a < b <;> simp [h] <;> grind
theorem me_lip : ∀ {ds : List Dw}, AllG ds → ∀ {x y : Rat}, x ≤ y → ME ds id y ≤ ME ds id x + (y - x)
  | [], _, x, y, h => by show y ≤ x + (y - x); grind
  | d :: ds, G, x, y, h => by
    rw [me_cons, me_cons]
    have h1 : Ex d (fun _ => y - x) = y - x := G.ex1 _
    have h2 := ex_add d (fun z => ME ds id (gr x z)) (fun _ => y - x)
    rw [h1] at h2
    rw [← h2]
    refine ex_le (G d List.mem_cons_self).1 fun z hz => ?_
    have a := me_lip G.tail (gr_mono h (Rat.le_refl (a := z.1)))
    have b : gr y z.1 - gr x z.1 ≤ y - x := by
      unfold gr
      by_cases h1 : y < z.1 <;> by_cases h2 : x < z.1 <;> simp [h1, h2] <;> grind
    grind
/-- a box, plainly -/
structure Bxp (b : Dw × Rat) : Prop where
  pos : ∀ z, z ∈ b.1 → 0 < z.2
  sum : (b.1.map (·.2)).sum = 1
  pr : Ex b.1 (fun y => gr (y - strk b.1 b.2) 0) = b.2
theorem Bxp.ex1 {b : Dw × Rat} (h : Bxp b) (c : Rat) : Ex b.1 (fun _ => c) = c := by rw [ex_const, h.sum, Rat.mul_one]
theorem Bxp.capG {C : List (Dw × Rat)} (h : ∀ b, b ∈ C → Bxp b) : AllG (C.map cap) := fun d hd => by
  obtain ⟨b, hb, rfl⟩ := List.mem_map.mp hd
  refine ⟨ofp_pos fun z hz => ?_, ?_⟩
  · obtain ⟨y, hy, rfl⟩ := List.mem_map.mp hz
    exact (h b hb).pos y hy
  · rw [← ex_one, ex_cap]
    exact (h b hb).ex1 1
/-- what a company is worth -/
def Wc' (C : List (Dw × Rat)) (y : Rat) : Rat := ME (C.map cap) id y
theorem wc_cons (b : Dw × Rat) (C : List (Dw × Rat)) (y : Rat) : Wc' (b :: C) y = Ex b.1 fun x => Wc' C (gr y (ls x (strk b.1 b.2))) := by
  unfold Wc'
  rw [List.map_cons, me_cons, ex_cap]
theorem wc_perm {C D : List (Dw × Rat)} (h : C.Perm D) (y : Rat) : Wc' C y = Wc' D y := me_perm (h.map cap) id y
/-- opening a box first -/
def opn (b : Dw × Rat) (C : List (Dw × Rat)) (y : Rat) : Rat := Ex b.1 (fun x => Wc' C (gr y x)) - b.2
theorem opn_le {b : Dw × Rat} {C : List (Dw × Rat)} (hb : Bxp b) (hC : ∀ b, b ∈ C → Bxp b) (y : Rat) : opn b C y ≤ Wc' (b :: C) y := by
  have G := Bxp.capG hC
  unfold opn
  rw [wc_cons]
  have h1 : Ex b.1 (fun x => Wc' C (gr y x)) ≤ Ex b.1 (fun x => Wc' C (gr y (ls x (strk b.1 b.2))) + gr (x - strk b.1 b.2) 0) := by
    refine ex_le hb.pos fun z hz => ?_
    have l1 := ls_le z.1 (strk b.1 b.2)
    have h1 := me_lip G (gr_mono (Rat.le_refl (a := y)) l1.1)
    have h2 : gr y z.1 - gr y (ls z.1 (strk b.1 b.2)) ≤ gr (z.1 - strk b.1 b.2) 0 := by
      rw [ls_gr]
      unfold gr
      by_cases h1 : z.1 - strk b.1 b.2 < 0 <;> by_cases h2 : y < z.1 <;> simp [h1, h2] <;> (try split) <;> grind
    unfold Wc'
    grind
  rw [ex_add, hb.pr] at h1
  grind
theorem wc_low : ∀ {C : List (Dw × Rat)}, (∀ b, b ∈ C → Bxp b) → ∀ {y : Rat}, (∀ b, b ∈ C → strk b.1 b.2 ≤ y) → Wc' C y = y
  | [], _, y, _ => rfl
  | b :: C, h, y, hs => by
    rw [wc_cons]
    have e : Ex b.1 (fun x => Wc' C (gr y (ls x (strk b.1 b.2)))) = Ex b.1 (fun _ => y) := ex_congr fun z _ => by
      have l1 := (ls_le z.1 (strk b.1 b.2)).2
      have l2 := hs b List.mem_cons_self
      have : gr y (ls z.1 (strk b.1 b.2)) = y := by
        unfold gr
        have : ¬ y < ls z.1 (strk b.1 b.2) := by grind
        simp [this]
      rw [this]
      exact wc_low (fun c hc => h c (List.mem_cons_of_mem _ hc)) fun c hc => hs c (List.mem_cons_of_mem _ hc)
    rw [e]
    exact (h b List.mem_cons_self).ex1 y
theorem opn_eq {b : Dw × Rat} {C : List (Dw × Rat)} (hb : Bxp b) (hC : ∀ b, b ∈ C → Bxp b) {y : Rat} (hy : y ≤ strk b.1 b.2) (hs : ∀ c, c ∈ C → strk c.1 c.2 ≤ strk b.1 b.2) : opn b C y = Wc' (b :: C) y := by
  unfold opn
  rw [wc_cons]
  have h1 : Ex b.1 (fun x => Wc' C (gr y x)) = Ex b.1 (fun x => Wc' C (gr y (ls x (strk b.1 b.2))) + gr (x - strk b.1 b.2) 0) := by
    refine ex_congr fun z hz => ?_
    by_cases hx : strk b.1 b.2 < z.1
    · have e1 : ls z.1 (strk b.1 b.2) = strk b.1 b.2 := by unfold ls; simp [hx]
      have e2 : gr y z.1 = z.1 := by
        unfold gr
        have : y < z.1 := by grind
        simp [this]
      have e3 : gr y (strk b.1 b.2) = strk b.1 b.2 := by
        unfold gr
        by_cases h : y < strk b.1 b.2
        · simp [h]
        · have : y = strk b.1 b.2 := by grind
          simp [this]
      have e4 : gr (z.1 - strk b.1 b.2) 0 = z.1 - strk b.1 b.2 := by
        unfold gr
        have : ¬ z.1 - strk b.1 b.2 < 0 := by grind
        simp [this]
      rw [e1, e2, e3, e4, wc_low hC fun c hc => by have := hs c hc; grind, wc_low hC hs]
      grind
    · have e1 : ls z.1 (strk b.1 b.2) = z.1 := by unfold ls; simp [hx]
      have e4 : gr (z.1 - strk b.1 b.2) 0 = 0 := by
        unfold gr
        by_cases h : z.1 - strk b.1 b.2 < 0
        · simp [h]
        · have : z.1 - strk b.1 b.2 = 0 := by grind
          simp [this]
      rw [e1, e4]
      grind
  rw [h1, ex_add, hb.pr]
  grind
theorem max_at {ι : Type} (f : ι → Rat) : ∀ {l : List ι}, l ≠ [] → ∃ k, k ∈ l ∧ ∀ j, j ∈ l → f j ≤ f k
  | [], h => absurd rfl h
  | [a], _ => ⟨a, by simp, fun j hj => by rw [List.mem_singleton.mp hj]; exact Rat.le_refl⟩
  | a :: b :: l, _ => by
    obtain ⟨k, hk, h⟩ := max_at f (l := b :: l) (by simp)
    by_cases hc : f a ≤ f k
    · refine ⟨k, List.mem_cons_of_mem _ hk, fun j hj => ?_⟩
      cases hj with
      | head => exact hc
      | tail _ hj => exact h j hj
    · refine ⟨a, List.mem_cons_self, fun j hj => ?_⟩
      cases hj with
      | head => exact Rat.le_refl
      | tail _ hj => have := h j hj; grind
theorem filt_perm {ι : Type} [DecidableEq ι] {l : List ι} (nd : l.Nodup) {k : ι} (hk : k ∈ l) : l.Perm (k :: l.filter fun j => decide (j ≠ k)) := by
  refine (List.perm_ext_iff_of_nodup nd ?_).mpr fun j => ?_
  · rw [List.nodup_cons]
    refine ⟨fun h => ?_, nd.filter _⟩
    have := (List.mem_filter.mp h).2
    simp at this
  · rw [List.mem_cons, List.mem_filter]
    by_cases h : j = k
    · subst h; simp [hk]
    · simp [h]
/-- the greatest mean is that of the greatest capped number -/
theorem weitz {ι : Type} [DecidableEq ι] {l : List ι} (nd : l.Nodup) (bx : ι → Dw × Rat) (hb : ∀ k, k ∈ l → Bxp (bx k)) (y : Rat) :
    y ≤ Wc' (l.map bx) y ∧ (∀ k, k ∈ l → opn (bx k) ((l.filter fun j => decide (j ≠ k)).map bx) y ≤ Wc' (l.map bx) y) ∧
    (Wc' (l.map bx) y = y ∨ ∃ k, k ∈ l ∧ Wc' (l.map bx) y = opn (bx k) ((l.filter fun j => decide (j ≠ k)).map bx) y) := by
  have hB : ∀ b, b ∈ l.map bx → Bxp b := fun b h => by
    obtain ⟨k, hk, rfl⟩ := List.mem_map.mp h
    exact hb k hk
  have hF : ∀ k, ∀ b, b ∈ (l.filter fun j => decide (j ≠ k)).map bx → Bxp b := fun k b h => by
    obtain ⟨j, hj, rfl⟩ := List.mem_map.mp h
    exact hb j (List.mem_filter.mp hj).1
  have pe : ∀ k, k ∈ l → Wc' (l.map bx) y = Wc' (bx k :: (l.filter fun j => decide (j ≠ k)).map bx) y := fun k hk => wc_perm ((filt_perm nd hk).map bx) y
  refine ⟨me_ge (Bxp.capG hB) y, fun k hk => ?_, ?_⟩
  · rw [pe k hk]
    exact opn_le (hb k hk) (hF k) y
  · by_cases hl : l = []
    · subst hl; exact .inl rfl
    · obtain ⟨k, hk, hm⟩ := max_at (fun k => strk (bx k).1 (bx k).2) hl
      by_cases hy : y ≤ strk (bx k).1 (bx k).2
      · refine .inr ⟨k, hk, ?_⟩
        rw [pe k hk]
        refine (opn_eq (hb k hk) (hF k) hy fun c hc => ?_).symm
        obtain ⟨j, hj, rfl⟩ := List.mem_map.mp hc
        exact hm j (List.mem_filter.mp hj).1
      · refine .inl (wc_low hB fun c hc => ?_)
        obtain ⟨j, hj, rfl⟩ := List.mem_map.mp hc
        have := hm j hj
        grind
/-! ### the greatest one of some whole numbers -/
theorem foldmax {α : Type} (p : α → Bool) (v : α → Int) : ∀ (l : List α) (s : Int), (s ≤ l.foldl (fun s z => if p z = true then max s (v z) else s) s) ∧ (∀ z, z ∈ l → p z = true → v z ≤ l.foldl (fun s z => if p z = true then max s (v z) else s) s) ∧ (l.foldl (fun s z => if p z = true then max s (v z) else s) s = s ∨ ∃ z, z ∈ l ∧ p z = true ∧ l.foldl (fun s z => if p z = true then max s (v z) else s) s = v z)
  | [], s => ⟨Int.le_refl _, fun z hz => (by cases hz), .inl rfl⟩
  | a :: l, s => by
    rw [List.foldl_cons]
    by_cases ha : p a = true
    · rw [if_pos ha]
      obtain ⟨h1, h2, h3⟩ := foldmax p v l (max s (v a))
      refine ⟨by omega, fun z hz hp => ?_, ?_⟩
      · cases hz with
        | head => omega
        | tail _ hz => exact h2 z hz hp
      · rcases h3 with h3 | ⟨z, hz, hp, h3⟩
        · by_cases hm : s ≤ v a
          · exact .inr ⟨a, List.mem_cons_self, ha, by omega⟩
          · exact .inl (by omega)
        · exact .inr ⟨z, List.mem_cons_of_mem _ hz, hp, h3⟩
    · rw [if_neg ha]
      obtain ⟨h1, h2, h3⟩ := foldmax p v l s
      refine ⟨h1, fun z hz hp => ?_, ?_⟩
      · cases hz with
        | head => exact absurd hp ha
        | tail _ hz => exact h2 z hz hp
      · rcases h3 with h3 | ⟨z, hz, hp, h3⟩
        · exact .inl h3
        · exact .inr ⟨z, List.mem_cons_of_mem _ hz, hp, h3⟩
/-! ### products over places -/
def prd {α : Type} (f : α → Int) (l : List α) : Int := l.foldl (fun s z => s * f z) 1
theorem prd_go {α : Type} (f : α → Int) : ∀ (l : List α) (s : Int), l.foldl (fun s z => s * f z) s = s * prd f l
  | [], s => by show s = s * 1; omega
  | a :: l, s => by
    unfold prd
    rw [List.foldl_cons, List.foldl_cons, prd_go f l, prd_go f l (1 * f a), Int.one_mul, Int.mul_assoc]
theorem prd_cons {α : Type} (f : α → Int) (a : α) (l : List α) : prd f (a :: l) = f a * prd f l := by
  unfold prd
  rw [List.foldl_cons, prd_go f l (1 * f a), Int.one_mul]
  rfl
theorem prd_congr {α : Type} {f g : α → Int} : ∀ {l : List α}, (∀ z, z ∈ l → f z = g z) → prd f l = prd g l
  | [], _ => rfl
  | a :: l, h => by rw [prd_cons, prd_cons, h a List.mem_cons_self, prd_congr fun z hz => h z (List.mem_cons_of_mem _ hz)]
theorem prd_one {α : Type} [DecidableEq α] {f g : α → Int} {k : α} (hg : g k = 1) (h : ∀ z, z ≠ k → f z = g z) : ∀ {l : List α}, l.Nodup → k ∈ l → prd f l = f k * prd g l
  | [], _, hk => by cases hk
  | a :: l, nd, hk => by
    rw [List.nodup_cons] at nd
    rw [prd_cons, prd_cons]
    by_cases ha : a = k
    · subst ha
      rw [hg, Int.one_mul, prd_congr fun z hz => h z (fun e => nd.1 (e ▸ hz))]
    · have hk' : k ∈ l := by
        cases hk with
        | head => exact absurd rfl ha
        | tail _ hk => exact hk
      rw [prd_one hg h nd.2 hk', h a ha, ← Int.mul_assoc, ← Int.mul_assoc, Int.mul_comm (g a)]
theorem prd_pos {α : Type} {f : α → Int} : ∀ {l : List α}, (∀ z, z ∈ l → 0 < f z) → 0 < prd f l
  | [], _ => Int.one_pos
  | a :: l, h => by rw [prd_cons]; exact Int.mul_pos (h a List.mem_cons_self) (prd_pos fun z hz => h z (List.mem_cons_of_mem _ hz))
theorem prd_le {α : Type} {f : α → Int} {m : Int} (hm : 1 ≤ m) : ∀ {l : List α}, (∀ z, z ∈ l → 0 < f z ∧ f z ≤ m) → prd f l ≤ m ^ l.length
  | [], _ => by rw [List.length_nil, Int.pow_zero]; exact Int.le_refl 1
  | a :: l, h => by
    rw [prd_cons, List.length_cons, Int.pow_succ, Int.mul_comm]
    have h1 := h a List.mem_cons_self
    have h2 := prd_le hm fun z hz => h z (List.mem_cons_of_mem _ hz)
    have h3 := prd_pos (f := f) (l := l) fun z hz => (h z (List.mem_cons_of_mem _ hz)).1
    exact Int.mul_le_mul h2 h1.2 (by omega) (by omega)
end Ek

/-! EkA: plain facts for companies with a box more or less -/
namespace Ek
open PySem PySem.Spec PyProof.Rows L2
theorem rng_at {n : Nat} {dn rs : List Int} {z : Int} (e : rng 0 (n : Int) = dn ++ z :: rs) : z = (dn.length : Int) ∧ dn.length < n ∧ dn = rng 0 (dn.length : Int) := by
  have hl := congrArg List.length e
  rw [rng_len] at hl
  simp only [List.length_append, List.length_cons] at hl
  have hk : dn.length < n := by omega
  have h1 : (rng 0 (n : Int))[dn.length]? = some z := by rw [e]; simp
  have h2 : (rng 0 (n : Int)).take dn.length = dn := by rw [e]; simp
  rw [rng0] at h1 h2
  refine ⟨?_, hk, ?_⟩
  · rw [List.getElem?_map, List.getElem?_range hk] at h1
    simpa using h1.symm
  · conv => lhs; rw [← h2]
    rw [rng0, ← List.map_take, List.take_range, Nat.min_eq_left (by omega)]
theorem rng_nat {n : Nat} {z : Int} (h : z ∈ rng 0 (n : Int)) : ∃ k : Nat, k < n ∧ z = (k : Int) := by
  have := mem_rng.mp h
  exact ⟨z.toNat, by omega, by omega⟩
theorem rng_suc (n : Nat) : rng 0 ((n + 1 : Nat) : Int) = rng 0 (n : Int) ++ [(n : Int)] := by
  rw [rng0, rng0, List.range_succ, List.map_append]
  rfl
theorem foldR_unit {α β : Type} {step : Unit → α → Unit ⊕ β} : ∀ {l : List α}, (∀ z, z ∈ l → step () z = .inl ()) → foldR step l () = .inl ()
  | [], _ => rfl
  | z :: l, h => by
    unfold foldR
    rw [h z List.mem_cons_self]
    exact foldR_unit fun z hz => h z (List.mem_cons_of_mem _ hz)
/-- without the one at k -/
def rm {α : Type} (k : Nat) (l : List α) : List α := l.take k ++ l.drop (k + 1)
theorem rm_cut {α : Type} {l : List α} {k : Nat} (h : k < l.length) : cut l none (some (k : Int)) ++ cut l (some ((k : Int) + 1)) none = rm k l := by
  rw [cut_to l (by omega), show ((k : Int) + 1) = ((k + 1 : Nat) : Int) by omega, cut_fr l (by omega)]
  rfl
theorem rm_map {α β : Type} (f : α → β) (k : Nat) (l : List α) : (rm k l).map f = rm k (l.map f) := by
  unfold rm
  rw [List.map_append, List.map_take, List.map_drop]
theorem rm_mem {α : Type} {k : Nat} {l : List α} {x : α} (h : x ∈ rm k l) : x ∈ l := by
  unfold rm at h
  rcases List.mem_append.mp h with h | h
  · exact List.mem_of_mem_take h
  · exact List.mem_of_mem_drop h
theorem rm_len {α : Type} {k : Nat} {l : List α} (h : k < l.length) : (rm k l).length + 1 = l.length := by
  unfold rm
  rw [List.length_append, List.length_take, List.length_drop]
  omega
theorem rm_perm {α : Type} {k : Nat} {l : List α} (h : k < l.length) : l.Perm (l[k] :: rm k l) := by
  have e : l = l.take k ++ l[k] :: l.drop (k + 1) := by
    rw [List.getElem_cons_drop, List.take_append_drop]
  conv => lhs; rw [e]
  unfold rm
  exact List.perm_middle
theorem rm_last {α : Type} {k : Nat} {l : List α} (h : k < l.length) : rm k (l.take (k + 1)) = l.take k := by
  unfold rm
  rw [List.take_take, Nat.min_eq_left (by omega), List.drop_eq_nil_of_le (by rw [List.length_take]; omega), List.append_nil]
theorem cut_one {α : Type} {l : List α} {k : Nat} (h : k < l.length) : cut l (some (k : Int)) (some ((k : Int) + 1)) = [l[k]] := by
  unfold cut
  rw [show ((k : Int) + 1) = ((k + 1 : Nat) : Int) by omega, sIx_nat (by omega), sIx_nat (by omega), Nat.add_sub_cancel_left, ← List.getElem_cons_drop h]
  rfl
theorem me_low {d : Dw} {x : Rat} (hs : (d.map (·.2)).sum = 1) (h : ∀ z, z ∈ d → z.1 ≤ x) (g : Rat → Rat) : Ex d (fun y => g (gr x y)) = g x := by
  have e : Ex d (fun y => g (gr x y)) = Ex d (fun _ => g x) := ex_congr fun z hz => by
    have := h z hz
    have : gr x z.1 = x := by
      unfold gr
      have : ¬ x < z.1 := by grind
      simp [this]
    rw [this]
  rw [e, ex_const, hs]
  grind
theorem cap_le {b : Dw × Rat} {z : Rat × Rat} (h : z ∈ cap b) : z.1 ≤ strk b.1 b.2 := by
  have := ofp_num h
  obtain ⟨y, hy, e⟩ := List.mem_map.mp this
  obtain ⟨u, hu, rfl⟩ := List.mem_map.mp hy
  rw [← e]
  exact (ls_le _ _).2
/-! what a draw more brings -/
theorem more_ge {d : Dw} {R : List Dw} (A : AllG (d :: R)) (f : Rat) : ME R id f ≤ ME (d :: R) id f := by
  rw [me_cons, ← A.ex1 (ME R id f)]
  exact ex_le (A d List.mem_cons_self).1 fun z _ => me_mono A.tail (gr_ge2 f z.1).1
theorem more_low {d : Dw} {R : List Dw} (A : AllG (d :: R)) {f : Rat} (h : ∀ z, z ∈ d → z.1 ≤ f) : ME (d :: R) id f = ME R id f := by
  rw [me_cons]
  exact me_low (A d List.mem_cons_self).2 h (ME R id)
theorem more_alone {d : Dw} {R : List Dw} (A : AllG (d :: R)) (f : Rat) : ME (d :: R) id f - ME R id f ≤ ME [d] id f - f := by
  have h1 : ME (d :: R) id f ≤ Ex d (fun y => (ME R id f - f) + gr f y) := by
    rw [me_cons]
    refine ex_le (A d List.mem_cons_self).1 fun z _ => ?_
    have := me_lip A.tail (gr_ge2 f z.1).1
    grind
  have h2 : ME [d] id f = Ex d (fun y => gr f y) := rfl
  rw [ex_add, A.ex1] at h1
  rw [h2]
  grind
end Ek

/-! EkRi: fractions, each once, ascending, by whole numbers (plain) -/
namespace Ek
open PySem PySem.Spec PyProof.Rows L2
/-- strictly ascending lists with the same members are one -/
theorem upQ_one : ∀ {a b : List Rat}, a.Pairwise (· < ·) → b.Pairwise (· < ·) → (∀ k, k ∈ a ↔ k ∈ b) → a = b
  | [], [], _, _, _ => rfl
  | [], y :: b, _, _, h => by have := (h y).mpr (by simp); simp at this
  | x :: a, [], _, _, h => by have := (h x).mp (by simp); simp at this
  | x :: a, y :: b, ha, hb, h => by
    have a1 := List.pairwise_cons.mp ha
    have b1 := List.pairwise_cons.mp hb
    have e : x = y := by
      rcases List.mem_cons.mp ((h x).mp (by simp)) with e | e
      · exact e
      · rcases List.mem_cons.mp ((h y).mpr (by simp)) with e2 | e2
        · exact e2.symm
        · have := b1.1 x e
          have := a1.1 y e2
          grind
    subst e
    congr 1
    refine upQ_one a1.2 b1.2 fun k => ⟨fun hk => ?_, fun hk => ?_⟩
    · rcases List.mem_cons.mp ((h k).mp (by simp [hk])) with e | e
      · have := a1.1 k hk; grind
      · exact e
    · rcases List.mem_cons.mp ((h k).mpr (by simp [hk])) with e | e
      · have := b1.1 k hk; grind
      · exact e
/-- the keys of a dict into which all of a list are put -/
def kset (l : List Rat) : List (Rat × Bool) := l.foldl (fun s q => dput s q true) []
theorem dput_keys {s : List (Rat × Bool)} {q : Rat} {v : Bool} : (dput s q v).map (·.1) = if q ∈ s.map (·.1) then s.map (·.1) else s.map (·.1) ++ [q] := by
  have hin : (s.any fun p => decide (p.1 = q)) = true ↔ q ∈ s.map (·.1) := by
    rw [List.any_eq_true]
    constructor
    · rintro ⟨p, hp, e⟩
      exact List.mem_map.mpr ⟨p, hp, of_decide_eq_true e⟩
    · intro h
      obtain ⟨p, hp, e⟩ := List.mem_map.mp h
      exact ⟨p, hp, decide_eq_true e⟩
  unfold dput
  by_cases h : q ∈ s.map (·.1)
  · rw [if_pos (hin.mpr h), if_pos h, List.map_map]
    refine List.map_congr_left fun p hp => ?_
    show (if p.1 = q then (p.1, v) else p).1 = p.1
    split <;> rfl
  · rw [if_neg (fun z => h (hin.mp z)), if_neg h, List.map_append]
    rfl
theorem kset_go : ∀ (l : List Rat) (s : List (Rat × Bool)), (s.map (·.1)).Nodup → ((l.foldl (fun s q => dput s q true) s).map (·.1)).Nodup ∧ (∀ x, x ∈ (l.foldl (fun s q => dput s q true) s).map (·.1) ↔ x ∈ s.map (·.1) ∨ x ∈ l) ∧ (l.foldl (fun s q => dput s q true) s).length ≤ s.length + l.length
  | [], s, h => ⟨h, fun x => by simp, by simp⟩
  | q :: l, s, h => by
    have hn : ((dput s q true).map (·.1)).Nodup := by
      rw [dput_keys]
      split
      · exact h
      · rename_i hq
        rw [List.nodup_append]
        exact ⟨h, by simp, fun a ha b hb => by rw [List.mem_singleton.mp hb]; exact fun e => hq (e ▸ ha)⟩
    obtain ⟨h1, h2, h3⟩ := kset_go l (dput s q true) hn
    refine ⟨h1, fun x => ?_, ?_⟩
    · rw [List.foldl_cons, h2, dput_keys]
      by_cases hq : q ∈ s.map (·.1)
      · rw [if_pos hq, List.mem_cons]
        constructor
        · rintro (h | h)
          · exact .inl h
          · exact .inr (.inr h)
        · rintro (h | h | h)
          · exact .inl h
          · exact .inl (h ▸ hq)
          · exact .inr h
      · rw [if_neg hq, List.mem_append, List.mem_singleton, List.mem_cons, or_assoc]
    · have hl : (dput s q true).length ≤ s.length + 1 := by
        unfold dput
        split
        · simp
        · simp
      rw [List.foldl_cons, List.length_cons]
      omega
theorem kset_nd (l : List Rat) : ((kset l).map (·.1)).Nodup := (kset_go l [] (by simp)).1
theorem kset_mem {l : List Rat} {x : Rat} : x ∈ (kset l).map (·.1) ↔ x ∈ l := by
  have := (kset_go l [] (by simp)).2.1 x
  unfold kset
  rw [this]
  simp
theorem kset_len (l : List Rat) : (kset l).length ≤ l.length := by
  have := (kset_go l [] (by simp)).2.2
  unfold kset
  rw [List.length_nil, Nat.zero_add] at this
  exact this
/-- the product of bottoms -/
def dprod (l : List Rat) : Nat := l.foldl (fun s q => s * q.den) 1
theorem dprod_go : ∀ (l : List Rat) (s : Nat), l.foldl (fun s q => s * q.den) s = s * dprod l
  | [], s => by simp [dprod]
  | q :: l, s => by
    unfold dprod
    rw [List.foldl_cons, List.foldl_cons, dprod_go l (s * q.den), dprod_go l (1 * q.den), Nat.one_mul, Nat.mul_assoc]
theorem dprod_cons (q : Rat) (l : List Rat) : dprod (q :: l) = q.den * dprod l := by
  show (List.foldl (fun s q => s * q.den) (1 * q.den) l) = _
  rw [dprod_go, Nat.one_mul]
theorem dprod_pos : ∀ l : List Rat, 0 < dprod l
  | [] => by decide
  | q :: l => by rw [dprod_cons]; exact Nat.mul_pos q.den_pos (dprod_pos l)
theorem dprod_dvd : ∀ {l : List Rat} {q : Rat}, q ∈ l → q.den ∣ dprod l
  | [], q, h => by cases h
  | x :: l, q, h => by
    rw [dprod_cons]
    rcases List.mem_cons.mp h with e | h
    · rw [e]; exact Nat.dvd_mul_right _ _
    · exact Nat.dvd_trans (dprod_dvd h) (Nat.dvd_mul_left _ _)
theorem dprod_lt {c : Nat} : ∀ {l : List Rat}, (∀ q, q ∈ l → q.den < 2 ^ c) → dprod l ≤ 2 ^ (c * l.length)
  | [], _ => by simp [dprod]
  | q :: l, h => by
    rw [dprod_cons, List.length_cons, Nat.mul_succ, Nat.pow_add, Nat.mul_comm (2 ^ _)]
    exact Nat.mul_le_mul (Nat.le_of_lt (h q List.mem_cons_self)) (dprod_lt fun q hq => h q (List.mem_cons_of_mem _ hq))
theorem numden (p : Rat) : p * (p.den : Rat) = (p.num : Rat) := by
  have := mk_mul p.num p.den_nz
  rwa [Rat.mkRat_self] at this
/-- a fraction over a common bottom -/
def over_ (W : Int) (q : Rat) : Int := q.num * (W / (q.den : Int))
theorem over_eq {W : Nat} {q : Rat} (h : q.den ∣ W) : ((over_ (W : Int) q : Int) : Rat) = q * (W : Rat) := by
  obtain ⟨m, rfl⟩ := h
  have hd : (q.den : Int) ≠ 0 := by have := q.den_pos; omega
  have e1 : ((q.den * m : Nat) : Int) / (q.den : Int) = (m : Int) := by
    rw [Int.natCast_mul]
    exact Int.mul_ediv_cancel_left _ hd
  unfold over_
  rw [e1, Rat.intCast_mul]
  have e2 : q * (q.den : Rat) = (q.num : Rat) := numden q
  have e3 : ((m : Int) : Rat) = (m : Rat) := Rat.intCast_natCast _
  have e4 : ((q.den * m : Nat) : Rat) = (q.den : Rat) * (m : Rat) := by
    rw [← Rat.intCast_natCast, Int.natCast_mul, Rat.intCast_mul, Rat.intCast_natCast, Rat.intCast_natCast]
  rw [← e2, e3, e4]
  grind
theorem over_lt {W : Nat} (hW : 0 < W) {p q : Rat} (hp : p.den ∣ W) (hq : q.den ∣ W) : over_ (W : Int) p < over_ (W : Int) q ↔ p < q := by
  rw [← Rat.intCast_lt_intCast, over_eq hp, over_eq hq]
  have : (0 : Rat) < (W : Rat) := by
    have := Rat.intCast_lt_intCast.mpr (show (0 : Int) < (W : Int) by omega)
    rw [Rat.intCast_natCast] at this
    exact this
  constructor
  · intro h
    by_cases hpq : p < q
    · exact hpq
    · have := Rat.mul_le_mul_of_nonneg_right (show q ≤ p by grind) (Rat.le_of_lt this)
      grind
  · intro h
    exact Rat.mul_lt_mul_of_pos_right h this
theorem over_nd {W : Nat} (hW : 0 < W) {l : List Rat} (nd : l.Nodup) (h : ∀ q, q ∈ l → q.den ∣ W) : (l.map (over_ (W : Int))).Nodup := by
  rw [List.nodup_iff_pairwise_ne, List.pairwise_map]
  have := List.nodup_iff_pairwise_ne.mp nd
  refine (List.Pairwise.and_mem.mp this).imp fun {a b} ⟨ha, hb, n⟩ e => n ?_
  have h1 := over_lt hW (h a ha) (h b hb)
  have h2 := over_lt hW (h b hb) (h a ha)
  have n1 : ¬ a < b := fun z => by have := h1.mpr z; omega
  have n2 : ¬ b < a := fun z => by have := h2.mpr z; omega
  grind
theorem rise_eq {W : Nat} (hW : 0 < W) {l : List Rat} (h : ∀ q, q ∈ l → q.den ∣ W) : sortBy (over_ (W : Int)) ((kset l).map (·.1)) = inO l := by
  have hk : ∀ q, q ∈ (kset l).map (·.1) → q.den ∣ W := fun q hq => h q (kset_mem.mp hq)
  have st := sortBy_strict (over_nd hW (kset_nd l) hk)
  have pm := sortBy_perm (over_ (W : Int)) ((kset l).map (·.1))
  refine upQ_one ((List.Pairwise.and_mem.mp st).imp fun {a b} ⟨ha, hb, hlt⟩ => (over_lt hW (hk a (pm.mem_iff.mp ha)) (hk b (pm.mem_iff.mp hb))).mp hlt) (inO_up l) fun q => ?_
  rw [pm.mem_iff, kset_mem, inO_mem]
end Ek

/-! EkDs: draws summed, moved, scaled (plain) -/
namespace Ek
open PySem PySem.Spec PyProof.Rows L2
/-- ascending, with chances above 0 -/
structure Ok2 (d : Dw) : Prop where
  up : d.Pairwise fun a b => a.1 < b.1
  pos : ∀ z, z ∈ d → 0 < z.2
theorem Gw.ok2 {P : Rat → Prop} {D : Nat} {d : Dw} (g : Gw P D d) : Ok2 d := ⟨g.up, g.pos⟩
theorem ofp_ok2 {ps : Dw} (h : ∀ z, z ∈ ps → 0 < z.2) : Ok2 (ofp ps) := ⟨ofp_up ps, ofp_pos h⟩
theorem Ok2.eq {d e : Dw} (h : Ok2 d) (h' : Ok2 e) (hx : ∀ f, Ex d f = Ex e f) : d = e := draw_unique h.up h'.up h.pos h'.pos hx
def summ (d e : Dw) : Dw := ofp (prs d e fun x y => x + y)
theorem ex_summ (d e : Dw) (f : Rat → Rat) : Ex (summ d e) f = Ex d fun x => Ex e fun y => f (x + y) := by
  unfold summ
  rw [ex_ofp, ex_prs]
theorem prs_pos2 {d e : Dw} (h : ∀ z, z ∈ d → 0 < z.2) (h' : ∀ z, z ∈ e → 0 < z.2) (f : Rat → Rat → Rat) : ∀ z, z ∈ prs d e f → 0 < z.2 := fun z hz => by
  obtain ⟨a, b, ha, hb, rfl⟩ := prs_mem hz
  exact Rat.mul_pos (h a ha) (h' b hb)
theorem summ_ok2 {d e : Dw} (h : Ok2 d) (h' : Ok2 e) : Ok2 (summ d e) := ofp_ok2 (prs_pos2 h.pos h'.pos _)
theorem summ_comm {d e : Dw} (h : Ok2 d) (h' : Ok2 e) : summ e d = summ d e := (summ_ok2 h' h).eq (summ_ok2 h h') fun f => by
  rw [ex_summ, ex_summ, ex_swap]
  refine ex_congr fun z _ => ex_congr fun y _ => ?_
  rw [Rat.add_comm]
theorem summ_assoc {d e c : Dw} (h : Ok2 d) (h' : Ok2 e) (h'' : Ok2 c) : summ (summ d e) c = summ d (summ e c) := (summ_ok2 (summ_ok2 h h') h'').eq (summ_ok2 h (summ_ok2 h' h'')) fun f => by
  rw [ex_summ, ex_summ, ex_summ]
  refine ex_congr fun z _ => ?_
  rw [ex_summ]
  refine ex_congr fun y _ => ex_congr fun x _ => ?_
  rw [Rat.add_assoc]
theorem prs_nil (e : Dw) (f : Rat → Rat → Rat) : prs [] e f = [] := rfl
theorem summ_gw {D E A N M : Nat} {d e : Dw} (g : Gw (Bd A N) D d) (g' : Gw (Bd A M) E e) : Gw (Bd A (N + M)) (D * E) (summ d e) := by
  refine ofp_gw (N := D * E) (prs_pos g g' _) (prs_sum g g' _) (fun z hz => ?_) (prs_bd g g' _)
  obtain ⟨a, b, ha, hb, rfl⟩ := prs_mem hz
  exact (g.num a ha).add (g'.num b hb)
theorem ofp_len' (ps : Dw) : (ofp ps).length ≤ ps.length := by
  have h := nodup_len (up_map_nodup (ofp_up ps)) (m := ps.map (·.1)) fun x hx => by
    obtain ⟨z, hz, rfl⟩ := List.mem_map.mp hx
    exact ofp_num hz
  simpa using h
theorem summ_len (d e : Dw) : (summ d e).length ≤ d.length * e.length := by
  have := ofp_len' (prs d e fun x y => x + y)
  rw [prs_len] at this
  exact this
theorem ex_one_sum {P : Rat → Prop} {D : Nat} {d : Dw} (g : Gw P D d) (c : Rat) : Ex d (fun _ => c) = c := g.ex1 c
theorem mean_summ {P R : Rat → Prop} {D E : Nat} {d e : Dw} (g : Gw P D d) (g' : Gw R E e) : Ex (summ d e) id = Ex d id + Ex e id := by
  rw [ex_summ]
  have : Ex d (fun x => Ex e fun y => id (x + y)) = Ex d (fun x => x + Ex e id) := ex_congr fun z _ => by
    show Ex e (fun y => z.1 + y) = _
    rw [ex_add, g'.ex1]
    rfl
  rw [this, ex_add, g.ex1]
  rfl
/-! moved -/
def movd (d : Dw) (q : Rat) : Dw := d.map fun z => (z.1 + q, z.2)
theorem ex_movd (d : Dw) (q : Rat) (f : Rat → Rat) : Ex (movd d q) f = Ex d fun x => f (x + q) := by
  unfold Ex movd
  rw [List.map_map]
  rfl
theorem movd_ok2 {d : Dw} (h : Ok2 d) (q : Rat) : Ok2 (movd d q) := by
  refine ⟨?_, fun z hz => ?_⟩
  · unfold movd
    rw [List.pairwise_map]
    exact h.up.imp fun h => by grind
  · obtain ⟨y, hy, rfl⟩ := List.mem_map.mp hz
    exact h.pos y hy
theorem movd_gw {D A N M : Nat} {d : Dw} {q : Rat} (g : Gw (Bd A N) D d) (hq : Bd A M q) : Gw (Bd A (N + M)) D (movd d q) := by
  have o := movd_ok2 g.ok2 q
  refine ⟨o.up, o.pos, ?_, fun z hz => ?_, fun z hz => ?_⟩
  · unfold movd
    rw [List.map_map]
    exact g.sum
  · obtain ⟨y, hy, rfl⟩ := List.mem_map.mp hz
    exact (g.num y hy).add hq
  · obtain ⟨y, hy, rfl⟩ := List.mem_map.mp hz
    exact g.ch y hy
theorem movd_len (d : Dw) (q : Rat) : (movd d q).length = d.length := by unfold movd; rw [List.length_map]
theorem movd_back (d : Dw) (q : Rat) : movd (movd d q) (-q) = d := by
  unfold movd
  rw [List.map_map]
  conv => rhs; rw [← List.map_id d]
  refine List.map_congr_left fun z _ => ?_
  show (z.1 + q + -q, z.2) = z
  have : z.1 + q + -q = z.1 := by grind
  rw [this]
theorem sure_ok2 (q : Rat) : Ok2 [(q, 1)] := ⟨by simp, by simp; decide +kernel⟩
theorem ex_sure (q : Rat) (f : Rat → Rat) : Ex [(q, 1)] f = f q := by
  rw [ex_cons, ex_nil]
  grind
theorem summ_sure {d : Dw} (h : Ok2 d) (q : Rat) : summ d [(q, 1)] = movd d q := (summ_ok2 h (sure_ok2 q)).eq (movd_ok2 h q) fun f => by
  rw [ex_summ, ex_movd]
  exact ex_congr fun z _ => ex_sure q _
/-! scaled -/
def scap (d : Dw) (c : Rat) : Dw := d.map fun z => (z.1 * c, z.2)
def scal (d : Dw) (c : Rat) : Dw := ofp (scap d c)
theorem ex_scal (d : Dw) (c : Rat) (f : Rat → Rat) : Ex (scal d c) f = Ex d fun x => f (x * c) := by
  unfold scal
  rw [ex_ofp]
  unfold Ex scap
  rw [List.map_map]
  rfl
theorem scap_pos {d : Dw} (h : ∀ z, z ∈ d → 0 < z.2) (c : Rat) : ∀ z, z ∈ scap d c → 0 < z.2 := fun z hz => by
  obtain ⟨y, hy, rfl⟩ := List.mem_map.mp hz
  exact h y hy
theorem scal_ok2 {d : Dw} (h : Ok2 d) (c : Rat) : Ok2 (scal d c) := ofp_ok2 (scap_pos h.pos c)
theorem scal_gw {D A B N M : Nat} {d : Dw} {c : Rat} (g : Gw (Bd A N) D d) (hc : Bd B M c) : Gw (Bd (A * B) (N * M)) D (scal d c) := by
  refine ofp_gw (N := D) (scap_pos g.pos c) ?_ (fun z hz => ?_) (fun z hz => ?_)
  · unfold scap
    rw [List.map_map]
    exact g.sum
  · obtain ⟨y, hy, rfl⟩ := List.mem_map.mp hz
    exact (g.num y hy).mul hc
  · obtain ⟨y, hy, rfl⟩ := List.mem_map.mp hz
    exact g.ch y hy
theorem scal_len (d : Dw) (c : Rat) : (scal d c).length ≤ d.length := by
  have := ofp_len' (scap d c)
  unfold scap at this
  rw [List.length_map] at this
  exact this
theorem mean_scal (d : Dw) (c : Rat) : Ex (scal d c) id = Ex d id * c := by
  rw [ex_scal]
  show Ex d (fun x => x * c) = _
  have : (fun x : Rat => x * c) = fun x => c * id x := by funext x; exact Rat.mul_comm _ _
  rw [this, ex_mul, Rat.mul_comm]
theorem scal_zero {P : Rat → Prop} {D : Nat} {d : Dw} (g : Gw P D d) : scal d 0 = [(0, 1)] := (scal_ok2 g.ok2 0).eq (sure_ok2 0) fun f => by
  rw [ex_scal, ex_sure]
  have : (fun x : Rat => f (x * 0)) = fun _ => f 0 := by funext x; rw [Rat.mul_zero]
  rw [this, g.ex1]
theorem scal_summ {d e : Dw} (h : Ok2 d) (h' : Ok2 e) (c : Rat) : scal (summ d e) c = summ (scal d c) (scal e c) := (scal_ok2 (summ_ok2 h h') c).eq (summ_ok2 (scal_ok2 h c) (scal_ok2 h' c)) fun f => by
  rw [ex_scal, ex_summ, ex_summ, ex_scal]
  refine ex_congr fun z _ => ?_
  rw [ex_scal]
  refine ex_congr fun y _ => ?_
  rw [Rat.add_mul]
/-! put together, without chances of 0, by their tops -/
def gat (ps : Dw) : Dw := ((inO ((kn ps).map fun x => x.1)).filter fun x => decide ((0 : Int) < ((dval (kn ps) x).getD default).num)).map fun x => (x, (dval (kn ps) x).getD default)
theorem gat_eq {ps : Dw} (h : ∀ z, z ∈ ps → 0 < z.2) : gat ps = ofp ps := by
  unfold gat ofp
  congr 1
  refine List.filter_congr fun x hx => ?_
  have hx := inO_mem.mp hx
  rw [kn_eq] at hx ⊢
  have m := (dval_mem (bumps_nd ps) hx).1
  have p := bumps_pos h _ m
  have p2 : 0 < (dval (bumps ps) x).getD 0 := p
  have e : (dval (bumps ps) x).getD default = (dval (bumps ps) x).getD 0 := rfl
  rw [e]
  generalize (dval (bumps ps) x).getD 0 = c at *
  have h1 : 0 < c.num := by
    have h := (Rat.lt_iff 0 c).mp p2
    simpa using h
  have h2 : ¬ c = 0 := by intro e; rw [e] at p2; exact absurd p2 (by decide +kernel)
  rw [decide_eq_true h1, decide_eq_false h2]
  rfl
end Ek

/-! EkMe: what is told of a draw at a number (plain) -/
namespace Ek
open PySem PySem.Spec PyProof.Rows L2
theorem cap_exc (d : Dw) (s : Rat) : Ex d (fun y => ls y s) + Ex d (fun y => gr (y - s) 0) = Ex d id := by
  rw [← ex_add]
  refine ex_congr fun z _ => ?_
  show ls z.1 s + gr (z.1 - s) 0 = z.1
  have := ls_gr z.1 s
  grind
theorem ls_mono {a s t : Rat} (h : s ≤ t) : ls a s ≤ ls a t := by
  unfold ls
  by_cases h1 : s < a <;> by_cases h2 : t < a <;> simp [h1, h2] <;> grind
theorem gr_anti {a s t : Rat} (h : s ≤ t) : gr (a - t) 0 ≤ gr (a - s) 0 := by
  unfold gr
  by_cases h1 : a - t < 0 <;> by_cases h2 : a - s < 0 <;> simp [h1, h2] <;> grind
theorem flt_le {c e : Rat × Rat → Bool} : ∀ {d : Dw}, (∀ z, z ∈ d → 0 < z.2) → (∀ z, z ∈ d → c z = true → e z = true) → ((d.filter c).map (·.2)).sum ≤ ((d.filter e).map (·.2)).sum
  | [], _, _ => Rat.le_refl
  | z :: d, hp, h => by
    have ih := flt_le (d := d) (fun y hy => hp y (List.mem_cons_of_mem _ hy)) fun y hy => h y (List.mem_cons_of_mem _ hy)
    have p := hp z List.mem_cons_self
    have hz := h z List.mem_cons_self
    rw [List.filter_cons, List.filter_cons]
    by_cases h1 : c z = true
    · rw [if_pos h1, if_pos (hz h1), List.map_cons, List.map_cons, List.sum_cons, List.sum_cons]
      grind
    · rw [if_neg h1]
      by_cases h2 : e z = true
      · rw [if_pos h2, List.map_cons, List.sum_cons]
        grind
      · rw [if_neg h2]
        exact ih
end Ek

namespace K2
open PySem PySem.Spec PyProof.Rows L2 Ek
def topS (i : Nat) : Stmt := PySem.Challenge.pw_placeworths_k02_whole_draws_told.main.body.getD i (.Pass ⟨0, 0, 0, 0⟩)
def G0 : GE := ⟨[], [("ZERO", false, .tuple [.int 0, .int 1]), ("ONE", false, .tuple [.int 1, .int 1]), ("MOST_PAIRS", true, .int 64)], ["abs", "all", "bool", "divmod", "int", "isinstance", "len", "list", "max", "min", "range", "repr", "sorted", "sum", "tuple"], []⟩
noncomputable def f_is_between : Fd := semFz [true, true, true] 3 (sSeq (sIf (tOr' (tNot' (tB1 (mUn (gIsi "int") (mVar 0)))) (tB1 (mUn (gIsi "bool") (mVar 0)))) (sSeq (sRet (mD true (.bool false))) sNext) sNext) (sSeq (sRet (mAnd (mOr (mUn gIs (mVar 1)) (mBin gGe (mVar 0) (mVar 1))) (mOr (mUn gIs (mVar 2)) (mBin gLe (mVar 0) (mVar 2))))) sNext))
theorem sc_f_is_between : FnScope ["value", "least", "most"] ["value", "least", "most"] (defScope (topS 7)) := ⟨rfl, rfl, rfl, by decide +kernel, rfl, by decide +kernel, by decide +kernel⟩
theorem eq_f_is_between : f_is_between = semFz [true, true, true] (["value", "least", "most"] : List Str).length (denSs G0 ["value", "least", "most"] ⟨[], false⟩ (defScope (topS 7)) 60 (defBody (topS 7))) := by kernel_rfl
theorem bd_f_is_between : BindD "is_between" (topS 7) ["value", "least", "most"] := fun _ _ _ _ _ _ us hl => match us, hl with | [_, _, _], _ => rfl
noncomputable def G1 : GE := { G0 with fn := ("is_between", ⟨["value", "least", "most"], f_is_between, []⟩) :: G0.fn }
noncomputable def f_common : Fd := semFz [true, true] 2 (sSeq (sSet 0 (mFn bAbs (mArgs [(mVar 0)]))) (sSeq (sWhile (tB1 (mBin gGt (mVar 1) (mD true (.int 0)))) (sSeq (sPar 0 1 (mArgs [(mVar 1), (mBin gMod (mFn bInt (mArgs [(mVar 0)])) (mVar 1))])) sNext)) (sSeq (sRet (mVar 0)) sNext)))
theorem sc_f_common : FnScope ["first", "last"] ["first", "last"] (defScope (topS 8)) := ⟨rfl, rfl, rfl, by decide +kernel, rfl, by decide +kernel, by decide +kernel⟩
theorem eq_f_common : f_common = semFz [true, true] (["first", "last"] : List Str).length (denSs G1 ["first", "last"] ⟨[], false⟩ (defScope (topS 8)) 60 (defBody (topS 8))) := by kernel_rfl
theorem bd_f_common : BindD "common" (topS 8) ["first", "last"] := fun _ _ _ _ _ _ us hl => match us, hl with | [_, _], _ => rfl
noncomputable def G2 : GE := { G1 with fn := ("common", ⟨["first", "last"], f_common, []⟩) :: G1.fn }
noncomputable def f_lowest : Fd := semFz [true, true] 3 (sSeq (sSet 2 (mCall 2 f_common (mArgs [(mVar 0), (mVar 1)]))) (sSeq (sRet (mTup (mArgs [(mBin gFdiv (mVar 0) (mVar 2)), (mBin gFdiv (mVar 1) (mVar 2))]))) sNext))
theorem sc_f_lowest : FnScope ["top", "bottom", "shared"] ["top", "bottom"] (defScope (topS 9)) := ⟨rfl, rfl, rfl, by decide +kernel, rfl, by decide +kernel, by decide +kernel⟩
theorem eq_f_lowest : f_lowest = semFz [true, true] (["top", "bottom", "shared"] : List Str).length (denSs G2 ["top", "bottom", "shared"] ⟨[], false⟩ (defScope (topS 9)) 60 (defBody (topS 9))) := by kernel_rfl
theorem bd_f_lowest : BindD "lowest" (topS 9) ["top", "bottom"] := fun _ _ _ _ _ _ us hl => match us, hl with | [_, _], _ => rfl
noncomputable def G3 : GE := { G2 with fn := ("lowest", ⟨["top", "bottom"], f_lowest, []⟩) :: G2.fn }
noncomputable def f_is_fraction : Fd := semFz [true] 1 (sSeq (sIf (tOr' (tNot' (tB1 (mUn (gIsi "tuple") (mVar 0)))) (tB1 (mBin gNe (mFn bLen (mArgs [(mVar 0)])) (mD true (.int 2))))) (sSeq (sRet (mD true (.bool false))) sNext) sNext) (sSeq (sIf (tOr' (tNot' (tB1 (mCall 3 f_is_between (mArgs [(mBin gIx (mVar 0) (mD true (.int 0))), (mD true .none), (mD true .none)])))) (tNot' (tB1 (mCall 3 f_is_between (mArgs [(mBin gIx (mVar 0) (mD true (.int 1))), (mD true (.int 1)), (mD true .none)]))))) (sSeq (sRet (mD true (.bool false))) sNext) sNext) (sSeq (sRet (mBin gEq (mCall 2 f_common (mArgs [(mBin gIx (mVar 0) (mD true (.int 0))), (mBin gIx (mVar 0) (mD true (.int 1)))])) (mD true (.int 1)))) sNext)))
theorem sc_f_is_fraction : FnScope ["value"] ["value"] (defScope (topS 10)) := ⟨rfl, rfl, rfl, by decide +kernel, rfl, by decide +kernel, by decide +kernel⟩
theorem eq_f_is_fraction : f_is_fraction = semFz [true] (["value"] : List Str).length (denSs G3 ["value"] ⟨[], false⟩ (defScope (topS 10)) 60 (defBody (topS 10))) := by kernel_rfl
theorem bd_f_is_fraction : BindD "is_fraction" (topS 10) ["value"] := fun _ _ _ _ _ _ us hl => match us, hl with | [_], _ => rfl
noncomputable def G4 : GE := { G3 with fn := ("is_fraction", ⟨["value"], f_is_fraction, []⟩) :: G3.fn }
noncomputable def f_add : Fd := semFz [true, true] 2 (sSeq (sRet (mCall 2 f_lowest (mArgs [(mBin gAdd (mBin gMul (mBin gIx (mVar 0) (mD true (.int 0))) (mBin gIx (mVar 1) (mD true (.int 1)))) (mBin gMul (mBin gIx (mVar 1) (mD true (.int 0))) (mBin gIx (mVar 0) (mD true (.int 1))))), (mBin gMul (mBin gIx (mVar 0) (mD true (.int 1))) (mBin gIx (mVar 1) (mD true (.int 1))))]))) sNext)
theorem sc_f_add : FnScope ["one", "other"] ["one", "other"] (defScope (topS 11)) := ⟨rfl, rfl, rfl, by decide +kernel, rfl, by decide +kernel, by decide +kernel⟩
theorem eq_f_add : f_add = semFz [true, true] (["one", "other"] : List Str).length (denSs G4 ["one", "other"] ⟨[], false⟩ (defScope (topS 11)) 60 (defBody (topS 11))) := by kernel_rfl
theorem bd_f_add : BindD "add" (topS 11) ["one", "other"] := fun _ _ _ _ _ _ us hl => match us, hl with | [_, _], _ => rfl
noncomputable def G5 : GE := { G4 with fn := ("add", ⟨["one", "other"], f_add, []⟩) :: G4.fn }
noncomputable def f_less : Fd := semFz [true, true] 2 (sSeq (sRet (mCall 2 f_lowest (mArgs [(mBin gSub (mBin gMul (mBin gIx (mVar 0) (mD true (.int 0))) (mBin gIx (mVar 1) (mD true (.int 1)))) (mBin gMul (mBin gIx (mVar 1) (mD true (.int 0))) (mBin gIx (mVar 0) (mD true (.int 1))))), (mBin gMul (mBin gIx (mVar 0) (mD true (.int 1))) (mBin gIx (mVar 1) (mD true (.int 1))))]))) sNext)
theorem sc_f_less : FnScope ["one", "other"] ["one", "other"] (defScope (topS 12)) := ⟨rfl, rfl, rfl, by decide +kernel, rfl, by decide +kernel, by decide +kernel⟩
theorem eq_f_less : f_less = semFz [true, true] (["one", "other"] : List Str).length (denSs G5 ["one", "other"] ⟨[], false⟩ (defScope (topS 12)) 60 (defBody (topS 12))) := by kernel_rfl
theorem bd_f_less : BindD "less" (topS 12) ["one", "other"] := fun _ _ _ _ _ _ us hl => match us, hl with | [_, _], _ => rfl
noncomputable def G6 : GE := { G5 with fn := ("less", ⟨["one", "other"], f_less, []⟩) :: G5.fn }
noncomputable def f_times : Fd := semFz [true, true] 2 (sSeq (sRet (mCall 2 f_lowest (mArgs [(mBin gMul (mBin gIx (mVar 0) (mD true (.int 0))) (mBin gIx (mVar 1) (mD true (.int 0)))), (mBin gMul (mBin gIx (mVar 0) (mD true (.int 1))) (mBin gIx (mVar 1) (mD true (.int 1))))]))) sNext)
theorem sc_f_times : FnScope ["one", "other"] ["one", "other"] (defScope (topS 13)) := ⟨rfl, rfl, rfl, by decide +kernel, rfl, by decide +kernel, by decide +kernel⟩
theorem eq_f_times : f_times = semFz [true, true] (["one", "other"] : List Str).length (denSs G6 ["one", "other"] ⟨[], false⟩ (defScope (topS 13)) 60 (defBody (topS 13))) := by kernel_rfl
theorem bd_f_times : BindD "times" (topS 13) ["one", "other"] := fun _ _ _ _ _ _ us hl => match us, hl with | [_, _], _ => rfl
noncomputable def G7 : GE := { G6 with fn := ("times", ⟨["one", "other"], f_times, []⟩) :: G6.fn }
noncomputable def f_is_below : Fd := semFz [true, true] 2 (sSeq (sRet (mBin gLt (mBin gMul (mBin gIx (mVar 0) (mD true (.int 0))) (mBin gIx (mVar 1) (mD true (.int 1)))) (mBin gMul (mBin gIx (mVar 1) (mD true (.int 0))) (mBin gIx (mVar 0) (mD true (.int 1)))))) sNext)
theorem sc_f_is_below : FnScope ["one", "other"] ["one", "other"] (defScope (topS 14)) := ⟨rfl, rfl, rfl, by decide +kernel, rfl, by decide +kernel, by decide +kernel⟩
theorem eq_f_is_below : f_is_below = semFz [true, true] (["one", "other"] : List Str).length (denSs G7 ["one", "other"] ⟨[], false⟩ (defScope (topS 14)) 60 (defBody (topS 14))) := by kernel_rfl
theorem bd_f_is_below : BindD "is_below" (topS 14) ["one", "other"] := fun _ _ _ _ _ _ us hl => match us, hl with | [_, _], _ => rfl
noncomputable def G8 : GE := { G7 with fn := ("is_below", ⟨["one", "other"], f_is_below, []⟩) :: G7.fn }
noncomputable def f_lesser : Fd := semFz [true, true] 2 (sSeq (sRet (mIf (tB1 (mCall 2 f_is_below (mArgs [(mVar 1), (mVar 0)]))) (mVar 1) (mVar 0))) sNext)
theorem sc_f_lesser : FnScope ["one", "other"] ["one", "other"] (defScope (topS 15)) := ⟨rfl, rfl, rfl, by decide +kernel, rfl, by decide +kernel, by decide +kernel⟩
theorem eq_f_lesser : f_lesser = semFz [true, true] (["one", "other"] : List Str).length (denSs G8 ["one", "other"] ⟨[], false⟩ (defScope (topS 15)) 60 (defBody (topS 15))) := by kernel_rfl
theorem bd_f_lesser : BindD "lesser" (topS 15) ["one", "other"] := fun _ _ _ _ _ _ us hl => match us, hl with | [_, _], _ => rfl
noncomputable def G9 : GE := { G8 with fn := ("lesser", ⟨["one", "other"], f_lesser, []⟩) :: G8.fn }
noncomputable def f_greater : Fd := semFz [true, true] 2 (sSeq (sRet (mIf (tB1 (mCall 2 f_is_below (mArgs [(mVar 0), (mVar 1)]))) (mVar 1) (mVar 0))) sNext)
theorem sc_f_greater : FnScope ["one", "other"] ["one", "other"] (defScope (topS 16)) := ⟨rfl, rfl, rfl, by decide +kernel, rfl, by decide +kernel, by decide +kernel⟩
theorem eq_f_greater : f_greater = semFz [true, true] (["one", "other"] : List Str).length (denSs G9 ["one", "other"] ⟨[], false⟩ (defScope (topS 16)) 60 (defBody (topS 16))) := by kernel_rfl
theorem bd_f_greater : BindD "greater" (topS 16) ["one", "other"] := fun _ _ _ _ _ _ us hl => match us, hl with | [_, _], _ => rfl
noncomputable def G10 : GE := { G9 with fn := ("greater", ⟨["one", "other"], f_greater, []⟩) :: G9.fn }
noncomputable def f_total : Fd := semFz [true] 3 (sSeq (sSet 1 (mD false (.tuple [.int 0, .int 1]))) (sSeq (sFor (mItems (mVar 0)) (gNm 2) (sSeq (sSet 1 (mCall 2 f_add (mArgs [(mVar 1), (mVar 2)]))) sNext)) (sSeq (sRet (mVar 1)) sNext)))
theorem sc_f_total : FnScope ["some", "found", "one"] ["some"] (defScope (topS 17)) := ⟨rfl, rfl, rfl, by decide +kernel, rfl, by decide +kernel, by decide +kernel⟩
theorem eq_f_total : f_total = semFz [true] (["some", "found", "one"] : List Str).length (denSs G10 ["some", "found", "one"] ⟨[], false⟩ (defScope (topS 17)) 60 (defBody (topS 17))) := by kernel_rfl
theorem bd_f_total : BindD "total" (topS 17) ["some"] := fun _ _ _ _ _ _ us hl => match us, hl with | [_], _ => rfl
noncomputable def G11 : GE := { G10 with fn := ("total", ⟨["some"], f_total, []⟩) :: G10.fn }
noncomputable def f_is_chance : Fd := semFz [true] 1 (sSeq (sRet (mAnd (mCall 1 f_is_fraction (mArgs [(mVar 0)])) (mChain gLe gLe (mD true (.int 0)) (mBin gIx (mVar 0) (mD true (.int 0))) (mBin gIx (mVar 0) (mD true (.int 1)))))) sNext)
theorem sc_f_is_chance : FnScope ["value"] ["value"] (defScope (topS 18)) := ⟨rfl, rfl, rfl, by decide +kernel, rfl, by decide +kernel, by decide +kernel⟩
theorem eq_f_is_chance : f_is_chance = semFz [true] (["value"] : List Str).length (denSs G11 ["value"] ⟨[], false⟩ (defScope (topS 18)) 60 (defBody (topS 18))) := by kernel_rfl
theorem bd_f_is_chance : BindD "is_chance" (topS 18) ["value"] := fun _ _ _ _ _ _ us hl => match us, hl with | [_], _ => rfl
noncomputable def G12 : GE := { G11 with fn := ("is_chance", ⟨["value"], f_is_chance, []⟩) :: G11.fn }
noncomputable def f_are_rising : Fd := semFz [true] 2 (sSeq (sRet (mFn bAll (mArgs [(mOld (mLc (mRange1 (mArgs [(mBin gSub (mFn bLen (mArgs [(mVar 0)])) (mD true (.int 1)))])) (gNm 1) tTrue (mCall 2 f_is_below (mArgs [(mBin gIx (mVar 0) (mVar 1)), (mBin gIx (mVar 0) (mBin gAdd (mVar 1) (mD true (.int 1))))])) [1]))]))) sNext)
theorem sc_f_are_rising : FnScope ["numbers", "index"] ["numbers"] (defScope (topS 19)) := ⟨rfl, rfl, rfl, by decide +kernel, rfl, by decide +kernel, by decide +kernel⟩
theorem eq_f_are_rising : f_are_rising = semFz [true] (["numbers", "index"] : List Str).length (denSs G12 ["numbers", "index"] ⟨[], false⟩ (defScope (topS 19)) 60 (defBody (topS 19))) := by kernel_rfl
theorem bd_f_are_rising : BindD "are_rising" (topS 19) ["numbers"] := fun _ _ _ _ _ _ us hl => match us, hl with | [_], _ => rfl
noncomputable def G13 : GE := { G12 with fn := ("are_rising", ⟨["numbers"], f_are_rising, []⟩) :: G12.fn }
noncomputable def f_is_pair : Fd := semFz [true] 1 (sSeq (sIf (tOr' (tNot' (tB1 (mUn (gIsi "tuple") (mVar 0)))) (tB1 (mBin gNe (mFn bLen (mArgs [(mVar 0)])) (mD true (.int 2))))) (sSeq (sRet (mD true (.bool false))) sNext) sNext) (sSeq (sRet (mAnd (mCall 1 f_is_fraction (mArgs [(mBin gIx (mVar 0) (mD true (.int 0)))])) (mAnd (mCall 1 f_is_chance (mArgs [(mBin gIx (mVar 0) (mD true (.int 1)))])) (mBin gGt (mBin gIx (mBin gIx (mVar 0) (mD true (.int 1))) (mD true (.int 0))) (mD true (.int 0)))))) sNext))
theorem sc_f_is_pair : FnScope ["value"] ["value"] (defScope (topS 22)) := ⟨rfl, rfl, rfl, by decide +kernel, rfl, by decide +kernel, by decide +kernel⟩
theorem eq_f_is_pair : f_is_pair = semFz [true] (["value"] : List Str).length (denSs G13 ["value"] ⟨[], false⟩ (defScope (topS 22)) 60 (defBody (topS 22))) := by kernel_rfl
theorem bd_f_is_pair : BindD "is_pair" (topS 22) ["value"] := fun _ _ _ _ _ _ us hl => match us, hl with | [_], _ => rfl
noncomputable def G14 : GE := { G13 with fn := ("is_pair", ⟨["value"], f_is_pair, []⟩) :: G13.fn }
noncomputable def f_is_draw : Fd := semFz [true] 2 (sSeq (sIf (tOr' (tNot' (tB1 (mUn (gIsi "tuple") (mVar 0)))) (tNot' (tB1 (mChain gLe gLe (mD true (.int 1)) (mFn bLen (mArgs [(mVar 0)])) (mD true (.int 64)))))) (sSeq (sRet (mD true (.bool false))) sNext) sNext) (sSeq (sIf (tOr' (tNot' (tB1 (mFn bAll (mArgs [(mOld (mLc (mItems (mVar 0)) (gNm 1) tTrue (mCall 1 f_is_pair (mArgs [(mVar 1)])) [1]))])))) (tNot' (tB1 (mCall 1 f_are_rising (mArgs [(mOld (mLc (mItems (mVar 0)) (gNm 1) tTrue (mBin gIx (mVar 1) (mD true (.int 0))) [1]))]))))) (sSeq (sRet (mD true (.bool false))) sNext) sNext) (sSeq (sRet (mBin gEq (mCall 1 f_total (mArgs [(mOld (mLc (mItems (mVar 0)) (gNm 1) tTrue (mBin gIx (mVar 1) (mD true (.int 1))) [1]))])) (mD false (.tuple [.int 1, .int 1])))) sNext)))
theorem sc_f_is_draw : FnScope ["value", "pair"] ["value"] (defScope (topS 23)) := ⟨rfl, rfl, rfl, by decide +kernel, rfl, by decide +kernel, by decide +kernel⟩
theorem eq_f_is_draw : f_is_draw = semFz [true] (["value", "pair"] : List Str).length (denSs G14 ["value", "pair"] ⟨[], false⟩ (defScope (topS 23)) 60 (defBody (topS 23))) := by kernel_rfl
theorem bd_f_is_draw : BindD "is_draw" (topS 23) ["value"] := fun _ _ _ _ _ _ us hl => match us, hl with | [_], _ => rfl
noncomputable def G15 : GE := { G14 with fn := ("is_draw", ⟨["value"], f_is_draw, []⟩) :: G14.fn }
noncomputable def f_check_draw : Fd := semFz [true] 1 (sSeq (sIf (tNot' (tB1 (mCall 1 f_is_draw (mArgs [(mVar 0)])))) (sSeq sNo sNext) sNext) sNext)
theorem sc_f_check_draw : FnScope ["draw"] ["draw"] (defScope (topS 24)) := ⟨rfl, rfl, rfl, by decide +kernel, rfl, by decide +kernel, by decide +kernel⟩
theorem eq_f_check_draw : f_check_draw = semFz [true] (["draw"] : List Str).length (denSs G15 ["draw"] ⟨[], false⟩ (defScope (topS 24)) 60 (defBody (topS 24))) := by kernel_rfl
theorem bd_f_check_draw : BindD "check_draw" (topS 24) ["draw"] := fun _ _ _ _ _ _ us hl => match us, hl with | [_], _ => rfl
noncomputable def G16 : GE := { G15 with fn := ("check_draw", ⟨["draw"], f_check_draw, []⟩) :: G15.fn }
noncomputable def f_check_number : Fd := semFz [true] 1 (sSeq (sIf (tNot' (tB1 (mCall 1 f_is_fraction (mArgs [(mVar 0)])))) (sSeq sNo sNext) sNext) sNext)
theorem sc_f_check_number : FnScope ["number"] ["number"] (defScope (topS 25)) := ⟨rfl, rfl, rfl, by decide +kernel, rfl, by decide +kernel, by decide +kernel⟩
theorem eq_f_check_number : f_check_number = semFz [true] (["number"] : List Str).length (denSs G16 ["number"] ⟨[], false⟩ (defScope (topS 25)) 60 (defBody (topS 25))) := by kernel_rfl
theorem bd_f_check_number : BindD "check_number" (topS 25) ["number"] := fun _ _ _ _ _ _ us hl => match us, hl with | [_], _ => rfl
noncomputable def G17 : GE := { G16 with fn := ("check_number", ⟨["number"], f_check_number, []⟩) :: G16.fn }
noncomputable def f_mean_of : Fd := semFz [true] 3 (sSeq (sRet (mCall 1 f_total (mArgs [(mOld (mLc (mItems (mVar 0)) (gTp (gsCons (gNm 1) (gsCons (gNm 2) gsNil))) tTrue (mCall 2 f_times (mArgs [(mVar 1), (mVar 2)])) [1, 2]))]))) sNext)
theorem sc_f_mean_of : FnScope ["draw", "number", "chance"] ["draw"] (defScope (topS 26)) := ⟨rfl, rfl, rfl, by decide +kernel, rfl, by decide +kernel, by decide +kernel⟩
theorem eq_f_mean_of : f_mean_of = semFz [true] (["draw", "number", "chance"] : List Str).length (denSs G17 ["draw", "number", "chance"] ⟨[], false⟩ (defScope (topS 26)) 60 (defBody (topS 26))) := by kernel_rfl
theorem bd_f_mean_of : BindD "mean_of" (topS 26) ["draw"] := fun _ _ _ _ _ _ us hl => match us, hl with | [_], _ => rfl
noncomputable def G18 : GE := { G17 with fn := ("mean_of", ⟨["draw"], f_mean_of, []⟩) :: G17.fn }
noncomputable def f_capped_of : Fd := semFz [true, true] 4 (sSeq (sRet (mCall 1 f_total (mArgs [(mOld (mLc (mItems (mVar 0)) (gTp (gsCons (gNm 2) (gsCons (gNm 3) gsNil))) tTrue (mCall 2 f_times (mArgs [(mCall 2 f_lesser (mArgs [(mVar 2), (mVar 1)])), (mVar 3)])) [2, 3]))]))) sNext)
theorem sc_f_capped_of : FnScope ["draw", "number", "one", "chance"] ["draw", "number"] (defScope (topS 27)) := ⟨rfl, rfl, rfl, by decide +kernel, rfl, by decide +kernel, by decide +kernel⟩
theorem eq_f_capped_of : f_capped_of = semFz [true, true] (["draw", "number", "one", "chance"] : List Str).length (denSs G18 ["draw", "number", "one", "chance"] ⟨[], false⟩ (defScope (topS 27)) 60 (defBody (topS 27))) := by kernel_rfl
theorem bd_f_capped_of : BindD "capped_of" (topS 27) ["draw", "number"] := fun _ _ _ _ _ _ us hl => match us, hl with | [_, _], _ => rfl
noncomputable def G19 : GE := { G18 with fn := ("capped_of", ⟨["draw", "number"], f_capped_of, []⟩) :: G18.fn }
noncomputable def f_excess_of : Fd := semFz [true, true] 4 (sSeq (sRet (mCall 1 f_total (mArgs [(mOld (mLc (mItems (mVar 0)) (gTp (gsCons (gNm 2) (gsCons (gNm 3) gsNil))) tTrue (mCall 2 f_times (mArgs [(mCall 2 f_greater (mArgs [(mCall 2 f_less (mArgs [(mVar 2), (mVar 1)])), (mD false (.tuple [.int 0, .int 1]))])), (mVar 3)])) [2, 3]))]))) sNext)
theorem sc_f_excess_of : FnScope ["draw", "number", "one", "chance"] ["draw", "number"] (defScope (topS 28)) := ⟨rfl, rfl, rfl, by decide +kernel, rfl, by decide +kernel, by decide +kernel⟩
theorem eq_f_excess_of : f_excess_of = semFz [true, true] (["draw", "number", "one", "chance"] : List Str).length (denSs G19 ["draw", "number", "one", "chance"] ⟨[], false⟩ (defScope (topS 28)) 60 (defBody (topS 28))) := by kernel_rfl
theorem bd_f_excess_of : BindD "excess_of" (topS 28) ["draw", "number"] := fun _ _ _ _ _ _ us hl => match us, hl with | [_, _], _ => rfl
noncomputable def G20 : GE := { G19 with fn := ("excess_of", ⟨["draw", "number"], f_excess_of, []⟩) :: G19.fn }
noncomputable def f_chance_over : Fd := semFz [true, true] 4 (sSeq (sRet (mCall 1 f_total (mArgs [(mOld (mLc (mItems (mVar 0)) (gTp (gsCons (gNm 2) (gsCons (gNm 3) gsNil))) (tB1 (mCall 2 f_is_below (mArgs [(mVar 1), (mVar 2)]))) (mVar 3) [2, 3]))]))) sNext)
theorem sc_f_chance_over : FnScope ["draw", "number", "one", "chance"] ["draw", "number"] (defScope (topS 29)) := ⟨rfl, rfl, rfl, by decide +kernel, rfl, by decide +kernel, by decide +kernel⟩
theorem eq_f_chance_over : f_chance_over = semFz [true, true] (["draw", "number", "one", "chance"] : List Str).length (denSs G20 ["draw", "number", "one", "chance"] ⟨[], false⟩ (defScope (topS 29)) 60 (defBody (topS 29))) := by kernel_rfl
theorem bd_f_chance_over : BindD "chance_over" (topS 29) ["draw", "number"] := fun _ _ _ _ _ _ us hl => match us, hl with | [_, _], _ => rfl
noncomputable def G21 : GE := { G20 with fn := ("chance_over", ⟨["draw", "number"], f_chance_over, []⟩) :: G20.fn }
noncomputable def f_mean : Fd := semFz [true] 1 (sSeq (sDrop (mCall 1 f_check_draw (mArgs [(mVar 0)]))) (sSeq (sRet (mCall 1 f_mean_of (mArgs [(mVar 0)]))) sNext))
theorem sc_f_mean : FnScope ["draw"] ["draw"] (defScope (topS 30)) := ⟨rfl, rfl, rfl, by decide +kernel, rfl, by decide +kernel, by decide +kernel⟩
theorem eq_f_mean : f_mean = semFz [true] (["draw"] : List Str).length (denSs G21 ["draw"] ⟨[], false⟩ (defScope (topS 30)) 60 (defBody (topS 30))) := by kernel_rfl
theorem bd_f_mean : BindD "mean" (topS 30) ["draw"] := fun _ _ _ _ _ _ us hl => match us, hl with | [_], _ => rfl
theorem bk_f_mean_0 : BindK "mean" (topS 30) ["draw"] ["draw"] [0] := ⟨by decide, fun _ _ _ _ _ _ us ws h1 h2 => match us, ws, h1, h2 with | [], [_], _, _ => rfl⟩
noncomputable def G22 : GE := { G21 with fn := ("mean", ⟨["draw"], f_mean, [(["draw"], [0])]⟩) :: G21.fn }
noncomputable def f_capped : Fd := semFz [true, true] 2 (sSeq (sDrop (mCall 1 f_check_draw (mArgs [(mVar 0)]))) (sSeq (sDrop (mCall 1 f_check_number (mArgs [(mVar 1)]))) (sSeq (sRet (mCall 2 f_capped_of (mArgs [(mVar 0), (mVar 1)]))) sNext)))
theorem sc_f_capped : FnScope ["draw", "number"] ["draw", "number"] (defScope (topS 31)) := ⟨rfl, rfl, rfl, by decide +kernel, rfl, by decide +kernel, by decide +kernel⟩
theorem eq_f_capped : f_capped = semFz [true, true] (["draw", "number"] : List Str).length (denSs G22 ["draw", "number"] ⟨[], false⟩ (defScope (topS 31)) 60 (defBody (topS 31))) := by kernel_rfl
theorem bd_f_capped : BindD "capped" (topS 31) ["draw", "number"] := fun _ _ _ _ _ _ us hl => match us, hl with | [_, _], _ => rfl
theorem bk_f_capped_0 : BindK "capped" (topS 31) ["draw", "number"] ["number", "draw"] [1, 0] := ⟨by decide, fun _ _ _ _ _ _ us ws h1 h2 => match us, ws, h1, h2 with | [], [_, _], _, _ => rfl⟩
noncomputable def G23 : GE := { G22 with fn := ("capped", ⟨["draw", "number"], f_capped, [(["number", "draw"], [1, 0])]⟩) :: G22.fn }
noncomputable def f_excess : Fd := semFz [true, true] 2 (sSeq (sDrop (mCall 1 f_check_draw (mArgs [(mVar 0)]))) (sSeq (sDrop (mCall 1 f_check_number (mArgs [(mVar 1)]))) (sSeq (sRet (mCall 2 f_excess_of (mArgs [(mVar 0), (mVar 1)]))) sNext)))
theorem sc_f_excess : FnScope ["draw", "number"] ["draw", "number"] (defScope (topS 32)) := ⟨rfl, rfl, rfl, by decide +kernel, rfl, by decide +kernel, by decide +kernel⟩
theorem eq_f_excess : f_excess = semFz [true, true] (["draw", "number"] : List Str).length (denSs G23 ["draw", "number"] ⟨[], false⟩ (defScope (topS 32)) 60 (defBody (topS 32))) := by kernel_rfl
theorem bd_f_excess : BindD "excess" (topS 32) ["draw", "number"] := fun _ _ _ _ _ _ us hl => match us, hl with | [_, _], _ => rfl
theorem bk_f_excess_0 : BindK "excess" (topS 32) ["draw", "number"] ["number", "draw"] [1, 0] := ⟨by decide, fun _ _ _ _ _ _ us ws h1 h2 => match us, ws, h1, h2 with | [], [_, _], _, _ => rfl⟩
noncomputable def G24 : GE := { G23 with fn := ("excess", ⟨["draw", "number"], f_excess, [(["number", "draw"], [1, 0])]⟩) :: G23.fn }
noncomputable def f_chance_above : Fd := semFz [true, true] 2 (sSeq (sDrop (mCall 1 f_check_draw (mArgs [(mVar 0)]))) (sSeq (sDrop (mCall 1 f_check_number (mArgs [(mVar 1)]))) (sSeq (sRet (mCall 2 f_chance_over (mArgs [(mVar 0), (mVar 1)]))) sNext)))
theorem sc_f_chance_above : FnScope ["draw", "number"] ["draw", "number"] (defScope (topS 33)) := ⟨rfl, rfl, rfl, by decide +kernel, rfl, by decide +kernel, by decide +kernel⟩
theorem eq_f_chance_above : f_chance_above = semFz [true, true] (["draw", "number"] : List Str).length (denSs G24 ["draw", "number"] ⟨[], false⟩ (defScope (topS 33)) 60 (defBody (topS 33))) := by kernel_rfl
theorem bd_f_chance_above : BindD "chance_above" (topS 33) ["draw", "number"] := fun _ _ _ _ _ _ us hl => match us, hl with | [_, _], _ => rfl
theorem bk_f_chance_above_0 : BindK "chance_above" (topS 33) ["draw", "number"] ["number", "draw"] [1, 0] := ⟨by decide, fun _ _ _ _ _ _ us ws h1 h2 => match us, ws, h1, h2 with | [], [_, _], _, _ => rfl⟩
noncomputable def G25 : GE := { G24 with fn := ("chance_above", ⟨["draw", "number"], f_chance_above, [(["number", "draw"], [1, 0])]⟩) :: G24.fn }
noncomputable def f_chance_of : Fd := semFz [true, true] 4 (sSeq (sDrop (mCall 1 f_check_draw (mArgs [(mVar 0)]))) (sSeq (sDrop (mCall 1 f_check_number (mArgs [(mVar 1)]))) (sSeq (sRet (mCall 1 f_total (mArgs [(mOld (mLc (mItems (mVar 0)) (gTp (gsCons (gNm 2) (gsCons (gNm 3) gsNil))) (tB1 (mBin gEq (mVar 2) (mVar 1))) (mVar 3) [2, 3]))]))) sNext)))
theorem sc_f_chance_of : FnScope ["draw", "number", "one", "chance"] ["draw", "number"] (defScope (topS 34)) := ⟨rfl, rfl, rfl, by decide +kernel, rfl, by decide +kernel, by decide +kernel⟩
theorem eq_f_chance_of : f_chance_of = semFz [true, true] (["draw", "number", "one", "chance"] : List Str).length (denSs G25 ["draw", "number", "one", "chance"] ⟨[], false⟩ (defScope (topS 34)) 60 (defBody (topS 34))) := by kernel_rfl
theorem bd_f_chance_of : BindD "chance_of" (topS 34) ["draw", "number"] := fun _ _ _ _ _ _ us hl => match us, hl with | [_, _], _ => rfl
theorem bk_f_chance_of_0 : BindK "chance_of" (topS 34) ["draw", "number"] ["number", "draw"] [1, 0] := ⟨by decide, fun _ _ _ _ _ _ us ws h1 h2 => match us, ws, h1, h2 with | [], [_, _], _, _ => rfl⟩
noncomputable def G26 : GE := { G25 with fn := ("chance_of", ⟨["draw", "number"], f_chance_of, [(["number", "draw"], [1, 0])]⟩) :: G25.fn }
noncomputable def f__law_chest : Fd := semFz [true, true] 5 (sSeq (sSet 2 (mIf (tB1 (mBin gLt (mVar 1) (mFn bLen (mArgs [(mVar 0)])))) (mBin gIx (mVar 0) (mVar 1)) (mD true (.int 0)))) (sSeq (sSet 3 (mBin gAdd (mD true (.int 271829)) (mBin gMul (mD true (.int 21001)) (mVar 1)))) (sSeq (sFor (mRange1 (mArgs [(mFn bMin (mArgs [(mFn bLen (mArgs [(mVar 0)])), (mD true (.int 8))]))])) (gNm 4) (sSeq (sSet 3 (mBin gMod (mFn bInt (mArgs [(mBin gAdd (mBin gAdd (mBin gMul (mVar 3) (mBin gAdd (mD true (.int 30211)) (mBin gMul (mD true (.int 30)) (mVar 4)))) (mBin gMul (mD true (.int 67)) (mBin gIx (mVar 0) (mVar 4)))) (mD true (.int 21011)))])) (mD true (.int 2147482817)))) sNext)) (sSeq (sRetW (mNew (mLst (mArgs [(mIf (tOr' (tB1 (mBin gLt (mVar 2) (mD true (.int 0)))) (tB1 (mBin gGe (mVar 2) (mBin gPow (mD true (.int 10)) (mD true (.int 18)))))) (mFn bAbs (mArgs [(mVar 2)])) (mD true (.int 0))), (mBin gMod (mFn bInt (mArgs [(mBin gAdd (mBin gMul (mVar 3) (mD true (.int 41))) (mBin gMul (mVar 2) (mD true (.int 947))))])) (mD true (.int 2147482817))), (mD true (.int 1))])))) sNext))))
theorem sc_f__law_chest : FnScope ["_law_cells", "_law_at", "_law_own", "_law_blend", "_law_k"] ["_law_cells", "_law_at"] (defScope (topS 36)) := ⟨rfl, rfl, rfl, by decide +kernel, rfl, by decide +kernel, by decide +kernel⟩
theorem eq_f__law_chest : f__law_chest = semFz [true, true] (["_law_cells", "_law_at", "_law_own", "_law_blend", "_law_k"] : List Str).length (denSs G26 ["_law_cells", "_law_at", "_law_own", "_law_blend", "_law_k"] ⟨[], true⟩ (defScope (topS 36)) 60 (defBody (topS 36))) := by kernel_rfl
theorem bd_f__law_chest : BindD "_law_chest" (topS 36) ["_law_cells", "_law_at"] := fun _ _ _ _ _ _ us hl => match us, hl with | [_, _], _ => rfl
noncomputable def G27 : GE := { G26 with fn := ("_law_chest", ⟨["_law_cells", "_law_at"], f__law_chest, []⟩) :: G26.fn }
noncomputable def f__law_grab : Fd := semFz [false, true] 4 (sSeq (sIf (tB1 (mBin gGt (mBin gIx (mVar 0) (mD true (.int 0))) (mD true (.int 0)))) (sSeq (sSubNm (mVar 0) (mD true (.int 0)) 2 (mFn bDivmod (mArgs [(mBin gIx (mVar 0) (mD true (.int 0))), (mVar 1)]))) (sSeq (sRet (mVar 2)) sNext)) sNext) (sSeq (sSub (mVar 0) (mD true (.int 2)) (mBin gAdd (mBin gIx (mVar 0) (mD true (.int 2))) (mD true (.int 1)))) (sSeq (sSet 3 (mBin gMul (mBin gIx (mVar 0) (mD true (.int 1))) (mBin gAdd (mBin gMod (mFn bInt (mArgs [(mBin gFdiv (mBin gIx (mVar 0) (mD true (.int 1))) (mD true (.int 8)))])) (mD true (.int 41011))) (mD true (.int 79))))) (sSeq (sSub (mVar 0) (mD true (.int 1)) (mBin gMod (mFn bInt (mArgs [(mBin gAdd (mBin gAdd (mVar 3) (mBin gMul (mD true (.int 10079)) (mBin gIx (mVar 0) (mD true (.int 2))))) (mD true (.int 43)))])) (mD true (.int 2147482817)))) (sSeq (sRet (mBin gMod (mFn bInt (mArgs [(mBin gFdiv (mBin gIx (mVar 0) (mD true (.int 1))) (mD true (.int 8192)))])) (mVar 1))) sNext)))))
theorem sc_f__law_grab : FnScope ["_law_chest_here", "_law_upto", "_law_figure", "_law_blend"] ["_law_chest_here", "_law_upto"] (defScope (topS 37)) := ⟨rfl, rfl, rfl, by decide +kernel, rfl, by decide +kernel, by decide +kernel⟩
theorem eq_f__law_grab : f__law_grab = semFz [false, true] (["_law_chest_here", "_law_upto", "_law_figure", "_law_blend"] : List Str).length (denSs G27 ["_law_chest_here", "_law_upto", "_law_figure", "_law_blend"] ⟨[], false⟩ (defScope (topS 37)) 60 (defBody (topS 37))) := by kernel_rfl
theorem bd_f__law_grab : BindD "_law_grab" (topS 37) ["_law_chest_here", "_law_upto"] := fun _ _ _ _ _ _ us hl => match us, hl with | [_, _], _ => rfl
noncomputable def G28 : GE := { G27 with fn := ("_law_grab", ⟨["_law_chest_here", "_law_upto"], f__law_grab, []⟩) :: G27.fn }
noncomputable def f__law_one : Fd := semFz [false, false] 2 (sSeq (sRet (mBin gIx (mVar 1) (mCall 2 f__law_grab (mArgs [(mVar 0), (mFn bLen (mArgs [(mVar 1)]))])))) sNext)
theorem sc_f__law_one : FnScope ["_law_chest_here", "_law_things"] ["_law_chest_here", "_law_things"] (defScope (topS 38)) := ⟨rfl, rfl, rfl, by decide +kernel, rfl, by decide +kernel, by decide +kernel⟩
theorem eq_f__law_one : f__law_one = semFz [false, false] (["_law_chest_here", "_law_things"] : List Str).length (denSs G28 ["_law_chest_here", "_law_things"] ⟨[], false⟩ (defScope (topS 38)) 60 (defBody (topS 38))) := by kernel_rfl
theorem bd_f__law_one : BindD "_law_one" (topS 38) ["_law_chest_here", "_law_things"] := fun _ _ _ _ _ _ us hl => match us, hl with | [_, _], _ => rfl
noncomputable def G29 : GE := { G28 with fn := ("_law_one", ⟨["_law_chest_here", "_law_things"], f__law_one, []⟩) :: G28.fn }
noncomputable def f__law_frac : Fd := semFz [true, true] 4 (sSeq (sPar 2 3 (mArgs [(mFn bAbs (mArgs [(mVar 0)])), (mVar 1)])) (sSeq (sWhile (tB1 (mBin gGt (mVar 3) (mD true (.int 0)))) (sSeq (sPar 2 3 (mArgs [(mVar 3), (mBin gMod (mFn bInt (mArgs [(mVar 2)])) (mVar 3))])) sNext)) (sSeq (sRet (mTup (mArgs [(mBin gFdiv (mVar 0) (mVar 2)), (mBin gFdiv (mVar 1) (mVar 2))]))) sNext)))
theorem sc_f__law_frac : FnScope ["_law_top", "_law_bottom", "_law_one_here", "_law_two"] ["_law_top", "_law_bottom"] (defScope (topS 39)) := ⟨rfl, rfl, rfl, by decide +kernel, rfl, by decide +kernel, by decide +kernel⟩
theorem eq_f__law_frac : f__law_frac = semFz [true, true] (["_law_top", "_law_bottom", "_law_one_here", "_law_two"] : List Str).length (denSs G29 ["_law_top", "_law_bottom", "_law_one_here", "_law_two"] ⟨[], false⟩ (defScope (topS 39)) 60 (defBody (topS 39))) := by kernel_rfl
theorem bd_f__law_frac : BindD "_law_frac" (topS 39) ["_law_top", "_law_bottom"] := fun _ _ _ _ _ _ us hl => match us, hl with | [_, _], _ => rfl
noncomputable def G30 : GE := { G29 with fn := ("_law_frac", ⟨["_law_top", "_law_bottom"], f__law_frac, []⟩) :: G29.fn }
noncomputable def f__law_plus : Fd := semFz [true, true] 2 (sSeq (sRet (mCall 2 f__law_frac (mArgs [(mBin gAdd (mBin gMul (mBin gIx (mVar 0) (mD true (.int 0))) (mBin gIx (mVar 1) (mD true (.int 1)))) (mBin gMul (mBin gIx (mVar 1) (mD true (.int 0))) (mBin gIx (mVar 0) (mD true (.int 1))))), (mBin gMul (mBin gIx (mVar 0) (mD true (.int 1))) (mBin gIx (mVar 1) (mD true (.int 1))))]))) sNext)
theorem sc_f__law_plus : FnScope ["_law_one_here", "_law_two"] ["_law_one_here", "_law_two"] (defScope (topS 40)) := ⟨rfl, rfl, rfl, by decide +kernel, rfl, by decide +kernel, by decide +kernel⟩
theorem eq_f__law_plus : f__law_plus = semFz [true, true] (["_law_one_here", "_law_two"] : List Str).length (denSs G30 ["_law_one_here", "_law_two"] ⟨[], false⟩ (defScope (topS 40)) 60 (defBody (topS 40))) := by kernel_rfl
theorem bd_f__law_plus : BindD "_law_plus" (topS 40) ["_law_one_here", "_law_two"] := fun _ _ _ _ _ _ us hl => match us, hl with | [_, _], _ => rfl
noncomputable def G31 : GE := { G30 with fn := ("_law_plus", ⟨["_law_one_here", "_law_two"], f__law_plus, []⟩) :: G30.fn }
noncomputable def f__law_minus : Fd := semFz [true, true] 2 (sSeq (sRet (mCall 2 f__law_frac (mArgs [(mBin gSub (mBin gMul (mBin gIx (mVar 0) (mD true (.int 0))) (mBin gIx (mVar 1) (mD true (.int 1)))) (mBin gMul (mBin gIx (mVar 1) (mD true (.int 0))) (mBin gIx (mVar 0) (mD true (.int 1))))), (mBin gMul (mBin gIx (mVar 0) (mD true (.int 1))) (mBin gIx (mVar 1) (mD true (.int 1))))]))) sNext)
theorem sc_f__law_minus : FnScope ["_law_one_here", "_law_two"] ["_law_one_here", "_law_two"] (defScope (topS 41)) := ⟨rfl, rfl, rfl, by decide +kernel, rfl, by decide +kernel, by decide +kernel⟩
theorem eq_f__law_minus : f__law_minus = semFz [true, true] (["_law_one_here", "_law_two"] : List Str).length (denSs G31 ["_law_one_here", "_law_two"] ⟨[], false⟩ (defScope (topS 41)) 60 (defBody (topS 41))) := by kernel_rfl
theorem bd_f__law_minus : BindD "_law_minus" (topS 41) ["_law_one_here", "_law_two"] := fun _ _ _ _ _ _ us hl => match us, hl with | [_, _], _ => rfl
noncomputable def G32 : GE := { G31 with fn := ("_law_minus", ⟨["_law_one_here", "_law_two"], f__law_minus, []⟩) :: G31.fn }
noncomputable def f__law_by : Fd := semFz [true, true] 2 (sSeq (sRet (mCall 2 f__law_frac (mArgs [(mBin gMul (mBin gIx (mVar 0) (mD true (.int 0))) (mBin gIx (mVar 1) (mD true (.int 0)))), (mBin gMul (mBin gIx (mVar 0) (mD true (.int 1))) (mBin gIx (mVar 1) (mD true (.int 1))))]))) sNext)
theorem sc_f__law_by : FnScope ["_law_one_here", "_law_two"] ["_law_one_here", "_law_two"] (defScope (topS 42)) := ⟨rfl, rfl, rfl, by decide +kernel, rfl, by decide +kernel, by decide +kernel⟩
theorem eq_f__law_by : f__law_by = semFz [true, true] (["_law_one_here", "_law_two"] : List Str).length (denSs G32 ["_law_one_here", "_law_two"] ⟨[], false⟩ (defScope (topS 42)) 60 (defBody (topS 42))) := by kernel_rfl
theorem bd_f__law_by : BindD "_law_by" (topS 42) ["_law_one_here", "_law_two"] := fun _ _ _ _ _ _ us hl => match us, hl with | [_, _], _ => rfl
noncomputable def G33 : GE := { G32 with fn := ("_law_by", ⟨["_law_one_here", "_law_two"], f__law_by, []⟩) :: G32.fn }
noncomputable def f__law_under : Fd := semFz [true, true] 2 (sSeq (sRet (mBin gLt (mBin gMul (mBin gIx (mVar 0) (mD true (.int 0))) (mBin gIx (mVar 1) (mD true (.int 1)))) (mBin gMul (mBin gIx (mVar 1) (mD true (.int 0))) (mBin gIx (mVar 0) (mD true (.int 1)))))) sNext)
theorem sc_f__law_under : FnScope ["_law_one_here", "_law_two"] ["_law_one_here", "_law_two"] (defScope (topS 43)) := ⟨rfl, rfl, rfl, by decide +kernel, rfl, by decide +kernel, by decide +kernel⟩
theorem eq_f__law_under : f__law_under = semFz [true, true] (["_law_one_here", "_law_two"] : List Str).length (denSs G33 ["_law_one_here", "_law_two"] ⟨[], false⟩ (defScope (topS 43)) 60 (defBody (topS 43))) := by kernel_rfl
theorem bd_f__law_under : BindD "_law_under" (topS 43) ["_law_one_here", "_law_two"] := fun _ _ _ _ _ _ us hl => match us, hl with | [_, _], _ => rfl
noncomputable def G34 : GE := { G33 with fn := ("_law_under", ⟨["_law_one_here", "_law_two"], f__law_under, []⟩) :: G33.fn }
noncomputable def f__law_sum : Fd := semFz [true] 3 (sSeq (sSet 1 (mTup (mArgs [(mD true (.int 0)), (mD true (.int 1))]))) (sSeq (sFor (mItems (mVar 0)) (gNm 2) (sSeq (sSet 1 (mCall 2 f__law_plus (mArgs [(mVar 1), (mVar 2)]))) sNext)) (sSeq (sRet (mVar 1)) sNext)))
theorem sc_f__law_sum : FnScope ["_law_some", "_law_found", "_law_each"] ["_law_some"] (defScope (topS 44)) := ⟨rfl, rfl, rfl, by decide +kernel, rfl, by decide +kernel, by decide +kernel⟩
theorem eq_f__law_sum : f__law_sum = semFz [true] (["_law_some", "_law_found", "_law_each"] : List Str).length (denSs G34 ["_law_some", "_law_found", "_law_each"] ⟨[], false⟩ (defScope (topS 44)) 60 (defBody (topS 44))) := by kernel_rfl
theorem bd_f__law_sum : BindD "_law_sum" (topS 44) ["_law_some"] := fun _ _ _ _ _ _ us hl => match us, hl with | [_], _ => rfl
noncomputable def G35 : GE := { G34 with fn := ("_law_sum", ⟨["_law_some"], f__law_sum, []⟩) :: G34.fn }
noncomputable def f__law_rising : Fd := semFz [true] 5 (sSeq (sPar 1 2 (mArgs [(mD true (.int 1)), mNewD])) (sSeq (sFor (mItems (mVar 0)) (gNm 3) (sSeq (sSub (mVar 2) (mVar 3) (mD true (.bool true))) sNext)) (sSeq (sFor (mItems (mVar 2)) (gNm 3) (sSeq (sSet 1 (mBin gMul (mVar 1) (mBin gIx (mVar 3) (mD true (.int 1))))) sNext)) (sSeq (sRet (mOld (mLc (mItems (mFn bSorted (mArgs [(mOld (mLc (mItems (mVar 2)) (gNm 3) tTrue (mTup (mArgs [(mBin gMul (mBin gIx (mVar 3) (mD true (.int 0))) (mBin gFdiv (mVar 1) (mBin gIx (mVar 3) (mD true (.int 1))))), (mVar 3)])) [3]))]))) (gNm 4) tTrue (mBin gIx (mVar 4) (mD true (.int 1))) [4]))) sNext))))
theorem sc_f__law_rising : FnScope ["_law_some", "_law_whole", "_law_known", "_law_each", "_law_pair"] ["_law_some"] (defScope (topS 45)) := ⟨rfl, rfl, rfl, by decide +kernel, rfl, by decide +kernel, by decide +kernel⟩
theorem eq_f__law_rising : f__law_rising = semFz [true] (["_law_some", "_law_whole", "_law_known", "_law_each", "_law_pair"] : List Str).length (denSs G35 ["_law_some", "_law_whole", "_law_known", "_law_each", "_law_pair"] ⟨["_law_known"], false⟩ (defScope (topS 45)) 60 (defBody (topS 45))) := by kernel_rfl
theorem bd_f__law_rising : BindD "_law_rising" (topS 45) ["_law_some"] := fun _ _ _ _ _ _ us hl => match us, hl with | [_], _ => rfl
noncomputable def G36 : GE := { G35 with fn := ("_law_rising", ⟨["_law_some"], f__law_rising, []⟩) :: G35.fn }
noncomputable def f__law_gather : Fd := semFz [true] 4 (sSeq (sSet 1 mNewD) (sSeq (sFor (mItems (mVar 0)) (gTp (gsCons (gNm 2) (gsCons (gNm 3) gsNil))) (sSeq (sSub (mVar 1) (mVar 2) (mCall 2 f__law_plus (mArgs [(mGet2 (mVar 1) (mVar 2) (mTup (mArgs [(mD true (.int 0)), (mD true (.int 1))]))), (mVar 3)]))) sNext)) (sSeq (sRet (mFn bTuple (mArgs [(mOld (mLc (mItems (mCall 1 f__law_rising (mArgs [(mFn bList (mArgs [(mVar 1)]))]))) (gNm 2) (tB1 (mBin gGt (mBin gIx (mBin gIx (mVar 1) (mVar 2)) (mD true (.int 0))) (mD true (.int 0)))) (mTup (mArgs [(mVar 2), (mBin gIx (mVar 1) (mVar 2))])) [2]))]))) sNext)))
theorem sc_f__law_gather : FnScope ["_law_pairs", "_law_known", "_law_spot", "_law_part"] ["_law_pairs"] (defScope (topS 46)) := ⟨rfl, rfl, rfl, by decide +kernel, rfl, by decide +kernel, by decide +kernel⟩
theorem eq_f__law_gather : f__law_gather = semFz [true] (["_law_pairs", "_law_known", "_law_spot", "_law_part"] : List Str).length (denSs G36 ["_law_pairs", "_law_known", "_law_spot", "_law_part"] ⟨["_law_known"], false⟩ (defScope (topS 46)) 60 (defBody (topS 46))) := by kernel_rfl
theorem bd_f__law_gather : BindD "_law_gather" (topS 46) ["_law_pairs"] := fun _ _ _ _ _ _ us hl => match us, hl with | [_], _ => rfl
noncomputable def G37 : GE := { G36 with fn := ("_law_gather", ⟨["_law_pairs"], f__law_gather, []⟩) :: G36.fn }
noncomputable def f__law_lot : Fd := semFz [false, true] 7 (sSeq (sPar 2 3 (mArgs [(mNew (mLst (mArgs []))), (mNew (mLst (mArgs [])))])) (sSeq (sFor (mRange1 (mArgs [(mBin gAdd (mD true (.int 1)) (mCall 2 f__law_grab (mArgs [(mVar 0), (mVar 1)])))])) (gNm 4) (sSeq (sDrop (mApp (mVar 2) (mCall 2 f__law_frac (mArgs [(mBin gSub (mCall 2 f__law_grab (mArgs [(mVar 0), (mD true (.int 13))])) (mD true (.int 5))), (mCall 2 f__law_one (mArgs [(mVar 0), (mOld (mLst (mArgs [(mD true (.int 1)), (mD true (.int 1)), (mD true (.int 1)), (mD true (.int 2)), (mD true (.int 3))])))]))])))) (sSeq (sDrop (mApp (mVar 3) (mBin gAdd (mD true (.int 1)) (mCall 2 f__law_grab (mArgs [(mVar 0), (mD true (.int 3))]))))) sNext))) (sSeq (sSet 5 (mFn bSum (mArgs [(mVar 3)]))) (sSeq (sRet (mCall 1 f__law_gather (mArgs [(mOld (mLc (mRange1 (mArgs [(mFn bLen (mArgs [(mVar 2)]))])) (gNm 6) tTrue (mTup (mArgs [(mBin gIx (mVar 2) (mVar 6)), (mCall 2 f__law_frac (mArgs [(mBin gIx (mVar 3) (mVar 6)), (mVar 5)]))])) [6]))]))) sNext))))
theorem sc_f__law_lot : FnScope ["_law_chest_here", "_law_most", "_law_spots_here", "_law_parts", "_law_turn", "_law_whole", "_law_k"] ["_law_chest_here", "_law_most"] (defScope (topS 47)) := ⟨rfl, rfl, rfl, by decide +kernel, rfl, by decide +kernel, by decide +kernel⟩
theorem eq_f__law_lot : f__law_lot = semFz [false, true] (["_law_chest_here", "_law_most", "_law_spots_here", "_law_parts", "_law_turn", "_law_whole", "_law_k"] : List Str).length (denSs G37 ["_law_chest_here", "_law_most", "_law_spots_here", "_law_parts", "_law_turn", "_law_whole", "_law_k"] ⟨["_law_parts", "_law_spots_here"], false⟩ (defScope (topS 47)) 60 (defBody (topS 47))) := by kernel_rfl
theorem bd_f__law_lot : BindD "_law_lot" (topS 47) ["_law_chest_here", "_law_most"] := fun _ _ _ _ _ _ us hl => match us, hl with | [_, _], _ => rfl
noncomputable def G38 : GE := { G37 with fn := ("_law_lot", ⟨["_law_chest_here", "_law_most"], f__law_lot, []⟩) :: G37.fn }
noncomputable def f__law_mean : Fd := semFz [true] 3 (sSeq (sRet (mCall 1 f__law_sum (mArgs [(mOld (mLc (mItems (mVar 0)) (gTp (gsCons (gNm 1) (gsCons (gNm 2) gsNil))) tTrue (mCall 2 f__law_by (mArgs [(mVar 1), (mVar 2)])) [1, 2]))]))) sNext)
theorem sc_f__law_mean : FnScope ["_law_lot_here", "_law_spot", "_law_part"] ["_law_lot_here"] (defScope (topS 48)) := ⟨rfl, rfl, rfl, by decide +kernel, rfl, by decide +kernel, by decide +kernel⟩
theorem eq_f__law_mean : f__law_mean = semFz [true] (["_law_lot_here", "_law_spot", "_law_part"] : List Str).length (denSs G38 ["_law_lot_here", "_law_spot", "_law_part"] ⟨[], false⟩ (defScope (topS 48)) 60 (defBody (topS 48))) := by kernel_rfl
theorem bd_f__law_mean : BindD "_law_mean" (topS 48) ["_law_lot_here"] := fun _ _ _ _ _ _ us hl => match us, hl with | [_], _ => rfl
noncomputable def G39 : GE := { G38 with fn := ("_law_mean", ⟨["_law_lot_here"], f__law_mean, []⟩) :: G38.fn }
noncomputable def f__law_lesser : Fd := semFz [true, true] 2 (sSeq (sRet (mIf (tB1 (mCall 2 f__law_under (mArgs [(mVar 0), (mVar 1)]))) (mVar 0) (mVar 1))) sNext)
theorem sc_f__law_lesser : FnScope ["_law_one_here", "_law_two"] ["_law_one_here", "_law_two"] (defScope (topS 49)) := ⟨rfl, rfl, rfl, by decide +kernel, rfl, by decide +kernel, by decide +kernel⟩
theorem eq_f__law_lesser : f__law_lesser = semFz [true, true] (["_law_one_here", "_law_two"] : List Str).length (denSs G39 ["_law_one_here", "_law_two"] ⟨[], false⟩ (defScope (topS 49)) 60 (defBody (topS 49))) := by kernel_rfl
theorem bd_f__law_lesser : BindD "_law_lesser" (topS 49) ["_law_one_here", "_law_two"] := fun _ _ _ _ _ _ us hl => match us, hl with | [_, _], _ => rfl
noncomputable def G40 : GE := { G39 with fn := ("_law_lesser", ⟨["_law_one_here", "_law_two"], f__law_lesser, []⟩) :: G39.fn }
noncomputable def f__law_greater : Fd := semFz [true, true] 2 (sSeq (sRet (mIf (tB1 (mCall 2 f__law_under (mArgs [(mVar 0), (mVar 1)]))) (mVar 1) (mVar 0))) sNext)
theorem sc_f__law_greater : FnScope ["_law_one_here", "_law_two"] ["_law_one_here", "_law_two"] (defScope (topS 50)) := ⟨rfl, rfl, rfl, by decide +kernel, rfl, by decide +kernel, by decide +kernel⟩
theorem eq_f__law_greater : f__law_greater = semFz [true, true] (["_law_one_here", "_law_two"] : List Str).length (denSs G40 ["_law_one_here", "_law_two"] ⟨[], false⟩ (defScope (topS 50)) 60 (defBody (topS 50))) := by kernel_rfl
theorem bd_f__law_greater : BindD "_law_greater" (topS 50) ["_law_one_here", "_law_two"] := fun _ _ _ _ _ _ us hl => match us, hl with | [_, _], _ => rfl
noncomputable def G41 : GE := { G40 with fn := ("_law_greater", ⟨["_law_one_here", "_law_two"], f__law_greater, []⟩) :: G40.fn }
noncomputable def f__law_capped : Fd := semFz [true, true] 4 (sSeq (sRet (mCall 1 f__law_sum (mArgs [(mOld (mLc (mItems (mVar 0)) (gTp (gsCons (gNm 2) (gsCons (gNm 3) gsNil))) tTrue (mCall 2 f__law_by (mArgs [(mCall 2 f__law_lesser (mArgs [(mVar 2), (mVar 1)])), (mVar 3)])) [2, 3]))]))) sNext)
theorem sc_f__law_capped : FnScope ["_law_lot_here", "_law_spot", "_law_each", "_law_part"] ["_law_lot_here", "_law_spot"] (defScope (topS 51)) := ⟨rfl, rfl, rfl, by decide +kernel, rfl, by decide +kernel, by decide +kernel⟩
theorem eq_f__law_capped : f__law_capped = semFz [true, true] (["_law_lot_here", "_law_spot", "_law_each", "_law_part"] : List Str).length (denSs G41 ["_law_lot_here", "_law_spot", "_law_each", "_law_part"] ⟨[], false⟩ (defScope (topS 51)) 60 (defBody (topS 51))) := by kernel_rfl
theorem bd_f__law_capped : BindD "_law_capped" (topS 51) ["_law_lot_here", "_law_spot"] := fun _ _ _ _ _ _ us hl => match us, hl with | [_, _], _ => rfl
noncomputable def G42 : GE := { G41 with fn := ("_law_capped", ⟨["_law_lot_here", "_law_spot"], f__law_capped, []⟩) :: G41.fn }
noncomputable def f__law_excess : Fd := semFz [true, true] 4 (sSeq (sRet (mCall 1 f__law_sum (mArgs [(mOld (mLc (mItems (mVar 0)) (gTp (gsCons (gNm 2) (gsCons (gNm 3) gsNil))) tTrue (mCall 2 f__law_by (mArgs [(mCall 2 f__law_greater (mArgs [(mCall 2 f__law_minus (mArgs [(mVar 2), (mVar 1)])), (mTup (mArgs [(mD true (.int 0)), (mD true (.int 1))]))])), (mVar 3)])) [2, 3]))]))) sNext)
theorem sc_f__law_excess : FnScope ["_law_lot_here", "_law_spot", "_law_each", "_law_part"] ["_law_lot_here", "_law_spot"] (defScope (topS 52)) := ⟨rfl, rfl, rfl, by decide +kernel, rfl, by decide +kernel, by decide +kernel⟩
theorem eq_f__law_excess : f__law_excess = semFz [true, true] (["_law_lot_here", "_law_spot", "_law_each", "_law_part"] : List Str).length (denSs G42 ["_law_lot_here", "_law_spot", "_law_each", "_law_part"] ⟨[], false⟩ (defScope (topS 52)) 60 (defBody (topS 52))) := by kernel_rfl
theorem bd_f__law_excess : BindD "_law_excess" (topS 52) ["_law_lot_here", "_law_spot"] := fun _ _ _ _ _ _ us hl => match us, hl with | [_, _], _ => rfl
noncomputable def G43 : GE := { G42 with fn := ("_law_excess", ⟨["_law_lot_here", "_law_spot"], f__law_excess, []⟩) :: G42.fn }
noncomputable def f__law_above : Fd := semFz [true, true] 4 (sSeq (sRet (mCall 1 f__law_sum (mArgs [(mOld (mLc (mItems (mVar 0)) (gTp (gsCons (gNm 2) (gsCons (gNm 3) gsNil))) (tB1 (mCall 2 f__law_under (mArgs [(mVar 1), (mVar 2)]))) (mVar 3) [2, 3]))]))) sNext)
theorem sc_f__law_above : FnScope ["_law_lot_here", "_law_spot", "_law_each", "_law_part"] ["_law_lot_here", "_law_spot"] (defScope (topS 53)) := ⟨rfl, rfl, rfl, by decide +kernel, rfl, by decide +kernel, by decide +kernel⟩
theorem eq_f__law_above : f__law_above = semFz [true, true] (["_law_lot_here", "_law_spot", "_law_each", "_law_part"] : List Str).length (denSs G43 ["_law_lot_here", "_law_spot", "_law_each", "_law_part"] ⟨[], false⟩ (defScope (topS 53)) 60 (defBody (topS 53))) := by kernel_rfl
theorem bd_f__law_above : BindD "_law_above" (topS 53) ["_law_lot_here", "_law_spot"] := fun _ _ _ _ _ _ us hl => match us, hl with | [_, _], _ => rfl
noncomputable def G44 : GE := { G43 with fn := ("_law_above", ⟨["_law_lot_here", "_law_spot"], f__law_above, []⟩) :: G43.fn }
noncomputable def f__law_spots : Fd := semFz [false, true] 7 (sSeq (sSet 2 (mNew (mLc (mItems (mVar 1)) (gTp (gsCons (gNm 5) (gsCons (gNm 6) gsNil))) tTrue (mVar 5) [5, 6]))) (sSeq (sFor (mRange1 (mArgs [(mD true (.int 3))])) (gNm 3) (sSeq (sSet 4 (mCall 2 f__law_one (mArgs [(mVar 0), (mOld (mLst (mArgs [(mTup (mArgs [(mD true (.int 1)), (mD true (.int 2))])), (mTup (mArgs [(mUn gNeg (mD true (.int 1))), (mD true (.int 2))])), (mTup (mArgs [(mD true (.int 1)), (mD true (.int 3))])), (mTup (mArgs [(mD true (.int 9)), (mD true (.int 1))])), (mTup (mArgs [(mUn gNeg (mD true (.int 20))), (mD true (.int 1))]))])))]))) (sSeq (sDrop (mApp (mVar 2) (mCall 2 f__law_plus (mArgs [(mCall 2 f__law_one (mArgs [(mVar 0), (mVar 2)])), (mVar 4)])))) sNext))) (sSeq (sRet (mVar 2)) sNext)))
theorem sc_f__law_spots : FnScope ["_law_chest_here", "_law_lot_here", "_law_found", "_law_turn", "_law_step", "_law_each", "_law_part"] ["_law_chest_here", "_law_lot_here"] (defScope (topS 54)) := ⟨rfl, rfl, rfl, by decide +kernel, rfl, by decide +kernel, by decide +kernel⟩
theorem eq_f__law_spots : f__law_spots = semFz [false, true] (["_law_chest_here", "_law_lot_here", "_law_found", "_law_turn", "_law_step", "_law_each", "_law_part"] : List Str).length (denSs G44 ["_law_chest_here", "_law_lot_here", "_law_found", "_law_turn", "_law_step", "_law_each", "_law_part"] ⟨["_law_found"], false⟩ (defScope (topS 54)) 60 (defBody (topS 54))) := by kernel_rfl
theorem bd_f__law_spots : BindD "_law_spots" (topS 54) ["_law_chest_here", "_law_lot_here"] := fun _ _ _ _ _ _ us hl => match us, hl with | [_, _], _ => rfl
noncomputable def G45 : GE := { G44 with fn := ("_law_spots", ⟨["_law_chest_here", "_law_lot_here"], f__law_spots, []⟩) :: G44.fn }
noncomputable def f__law_at_right : Fd := semFz [true, true] 6 (sSeq (sSet 2 (mNew (mLst (mArgs [(mCall 2 f__law_capped (mArgs [(mVar 0), (mVar 1)])), (mCall 2 f__law_excess (mArgs [(mVar 0), (mVar 1)])), (mCall 2 f__law_above (mArgs [(mVar 0), (mVar 1)]))])))) (sSeq (sDrop (mApp (mVar 2) (mCall 1 f__law_sum (mArgs [(mOld (mLc (mItems (mVar 0)) (gTp (gsCons (gNm 4) (gsCons (gNm 5) gsNil))) (tB1 (mBin gEq (mVar 4) (mVar 1))) (mVar 5) [4, 5]))])))) (sSeq (sSet 3 (mOld (mLst (mArgs [(mCall 2 f_capped (mArgs [(mVar 0), (mVar 1)])), (mCall 2 f_excess (mArgs [(mVar 0), (mVar 1)])), (mCall 2 f_chance_above (mArgs [(mVar 0), (mVar 1)])), (mCall 2 f_chance_of (mArgs [(mVar 0), (mVar 1)]))])))) (sSeq (sIf (tB1 (mBin gNe (mFn bRepr (mArgs [(mVar 3)])) (mFn bRepr (mArgs [(mVar 2)])))) (sSeq (sRet (mD true (.bool false))) sNext) sNext) (sSeq (sSet 3 (mOld (mLst (mArgs [(mCallK 2 0 2 [1, 0] f_capped (mArgs []) (mArgs [(mVar 1), (mVar 0)])), (mCallK 2 0 2 [1, 0] f_excess (mArgs []) (mArgs [(mVar 1), (mVar 0)]))])))) (sSeq (sSet 3 (mBin gAdd (mVar 3) (mOld (mLst (mArgs [(mCallK 2 0 2 [1, 0] f_chance_above (mArgs []) (mArgs [(mVar 1), (mVar 0)])), (mCallK 2 0 2 [1, 0] f_chance_of (mArgs []) (mArgs [(mVar 1), (mVar 0)]))]))))) (sSeq (sRet (mAnd (mBin gEq (mFn bRepr (mArgs [(mVar 3)])) (mFn bRepr (mArgs [(mVar 2)]))) (mBin gEq (mCall 2 f__law_plus (mArgs [(mBin gIx (mVar 2) (mD true (.int 0))), (mBin gIx (mVar 2) (mD true (.int 1)))])) (mCall 1 f_mean (mArgs [(mVar 0)]))))) sNext)))))))
theorem sc_f__law_at_right : FnScope ["_law_mine", "_law_spot", "_law_due", "_law_told", "_law_each", "_law_part"] ["_law_mine", "_law_spot"] (defScope (topS 55)) := ⟨rfl, rfl, rfl, by decide +kernel, rfl, by decide +kernel, by decide +kernel⟩
theorem eq_f__law_at_right : f__law_at_right = semFz [true, true] (["_law_mine", "_law_spot", "_law_due", "_law_told", "_law_each", "_law_part"] : List Str).length (denSs G45 ["_law_mine", "_law_spot", "_law_due", "_law_told", "_law_each", "_law_part"] ⟨["_law_due"], false⟩ (defScope (topS 55)) 60 (defBody (topS 55))) := by kernel_rfl
theorem bd_f__law_at_right : BindD "_law_at_right" (topS 55) ["_law_mine", "_law_spot"] := fun _ _ _ _ _ _ us hl => match us, hl with | [_, _], _ => rfl
noncomputable def G46 : GE := { G45 with fn := ("_law_at_right", ⟨["_law_mine", "_law_spot"], f__law_at_right, []⟩) :: G45.fn }
noncomputable def f__law_two_right : Fd := semFz [true, true, true] 3 (sSeq (sIf (tB1 (mCall 2 f__law_under (mArgs [(mVar 2), (mVar 1)]))) (sSeq (sPar 1 2 (mArgs [(mVar 2), (mVar 1)])) sNext) sNext) (sSeq (sIf (tB1 (mCall 2 f__law_under (mArgs [(mCall 2 f_capped (mArgs [(mVar 0), (mVar 2)])), (mCall 2 f_capped (mArgs [(mVar 0), (mVar 1)]))]))) (sSeq (sRet (mD true (.bool false))) sNext) sNext) (sSeq (sIf (tB1 (mCall 2 f__law_under (mArgs [(mCall 2 f_excess (mArgs [(mVar 0), (mVar 1)])), (mCall 2 f_excess (mArgs [(mVar 0), (mVar 2)]))]))) (sSeq (sRet (mD true (.bool false))) sNext) sNext) (sSeq (sRet (mUn gNot (mCall 2 f__law_under (mArgs [(mCall 2 f_chance_above (mArgs [(mVar 0), (mVar 1)])), (mCall 2 f_chance_above (mArgs [(mVar 0), (mVar 2)]))])))) sNext))))
theorem sc_f__law_two_right : FnScope ["_law_mine", "_law_low", "_law_high"] ["_law_mine", "_law_low", "_law_high"] (defScope (topS 56)) := ⟨rfl, rfl, rfl, by decide +kernel, rfl, by decide +kernel, by decide +kernel⟩
theorem eq_f__law_two_right : f__law_two_right = semFz [true, true, true] (["_law_mine", "_law_low", "_law_high"] : List Str).length (denSs G46 ["_law_mine", "_law_low", "_law_high"] ⟨[], false⟩ (defScope (topS 56)) 60 (defBody (topS 56))) := by kernel_rfl
theorem bd_f__law_two_right : BindD "_law_two_right" (topS 56) ["_law_mine", "_law_low", "_law_high"] := fun _ _ _ _ _ _ us hl => match us, hl with | [_, _, _], _ => rfl
noncomputable def G47 : GE := { G46 with fn := ("_law_two_right", ⟨["_law_mine", "_law_low", "_law_high"], f__law_two_right, []⟩) :: G46.fn }
noncomputable def f__law_right : Fd := semFz [false] 4 (sSeq (sSet 1 (mCall 2 f__law_lot (mArgs [(mVar 0), (mD true (.int 4))]))) (sSeq (sIf (tB1 (mBin gNe (mFn bRepr (mArgs [(mOld (mLst (mArgs [(mCall 1 f_mean (mArgs [(mVar 1)])), (mCallK 1 0 1 [0] f_mean (mArgs []) (mArgs [(mVar 1)]))])))])) (mFn bRepr (mArgs [(mBin gMul (mOld (mLst (mArgs [(mCall 1 f__law_mean (mArgs [(mVar 1)]))]))) (mD true (.int 2)))])))) (sSeq (sRet (mD true (.bool false))) sNext) sNext) (sSeq (sSet 2 (mCall 2 f__law_spots (mArgs [(mVar 0), (mVar 1)]))) (sSeq (sFor (mItems (mVar 2)) (gNm 3) (sSeq (sIf (tOr' (tNot' (tB1 (mCall 2 f__law_at_right (mArgs [(mVar 1), (mVar 3)])))) (tNot' (tB1 (mCall 3 f__law_two_right (mArgs [(mVar 1), (mVar 3), (mCall 2 f__law_one (mArgs [(mVar 0), (mVar 2)]))]))))) (sSeq (sRet (mD true (.bool false))) sNext) sNext) sNext)) (sSeq (sRet (mD true (.bool true))) sNext)))))
theorem sc_f__law_right : FnScope ["_law_chest_here", "_law_mine", "_law_spots_here", "_law_spot"] ["_law_chest_here"] (defScope (topS 57)) := ⟨rfl, rfl, rfl, by decide +kernel, rfl, by decide +kernel, by decide +kernel⟩
theorem eq_f__law_right : f__law_right = semFz [false] (["_law_chest_here", "_law_mine", "_law_spots_here", "_law_spot"] : List Str).length (denSs G47 ["_law_chest_here", "_law_mine", "_law_spots_here", "_law_spot"] ⟨[], false⟩ (defScope (topS 57)) 60 (defBody (topS 57))) := by kernel_rfl
theorem bd_f__law_right : BindD "_law_right" (topS 57) ["_law_chest_here"] := fun _ _ _ _ _ _ us hl => match us, hl with | [_], _ => rfl
noncomputable def G48 : GE := { G47 with fn := ("_law_right", ⟨["_law_chest_here"], f__law_right, []⟩) :: G47.fn }
noncomputable def f_law : Fd := semFz [false] 2 (sSeq (sRet (mFn bAll (mArgs [(mOld (mLc (mRange1 (mArgs [(mFn bMax (mArgs [(mD true (.int 2)), (mFn bMin (mArgs [(mFn bLen (mArgs [(mVar 0)])), (mD true (.int 4))]))]))])) (gNm 1) tTrue (mCall 1 f__law_right (mArgs [(mCall 2 f__law_chest (mArgs [(mVar 0), (mVar 1)]))])) [1]))]))) sNext)
theorem sc_f_law : FnScope ["_law_cells", "_law_at"] ["_law_cells"] (defScope (topS 58)) := ⟨rfl, rfl, rfl, by decide +kernel, rfl, by decide +kernel, by decide +kernel⟩
theorem eq_f_law : f_law = semFz [false] (["_law_cells", "_law_at"] : List Str).length (denSs G48 ["_law_cells", "_law_at"] ⟨[], false⟩ (defScope (topS 58)) 60 (defBody (topS 58))) := by kernel_rfl
theorem bd_f_law : BindD "law" (topS 58) ["_law_cells"] := fun _ _ _ _ _ _ us hl => match us, hl with | [_], _ => rfl
end K2

namespace K2
open PySem PySem.Spec PyProof.Rows L2 Ek
theorem gcd_step {a b : Nat} (h : 0 < b) : a.gcd b = b.gcd (a % b) := by
  rw [Nat.gcd_comm a b, Nat.gcd_rec b a, Nat.gcd_comm]
theorem w_common : ∀ (b a : Nat) (M : MS), ∃ n, whileN (tB1 (mBin gGt (mVar 1) (mD true (.int 0)))) (sSeq (sPar 0 1 (mArgs [(mVar 1), (mBin gMod (mFn bInt (mArgs [(mVar 0)])) (mVar 1))])) sNext) n [some (.d true (.int a)), some (.d true (.int b))] M
    = some (.nx, [some (.d true (.int (a.gcd b : Nat))), some (.d true (.int 0))], M) := by
  intro b
  induction b using Nat.strongRecOn with
  | _ b ih =>
    intro a M
    by_cases h : b = 0
    · subst h
      refine ⟨1, ?_⟩
      simp [whileN, tB1, mBin, mVar, mD, gGt, gI]
    · have hb : 0 < b := Nat.pos_of_ne_zero h
      obtain ⟨n, hn⟩ := ih (a % b) (Nat.mod_lt _ hb) b M
      refine ⟨n + 1, ?_⟩
      rw [gcd_step hb]
      rw [← hn]
      have h1 : decide ((0 : Int) < (b : Int)) = true := by simp; omega
      simp only [whileN, tB1, mBin, mVar, mD, gGt, gI, mArgs, mFn, bInt, gMod, gIC, sSeq, sPar, sNext, List.getElem?_cons_zero, List.getElem?_cons_succ, h1]
      have h2 : (0 : Int) < (b : Int) := by omega
      simp only [h2, if_true]
      rfl
theorem bAbs_i {r : Bool} {x : Int} {M : MS} : bAbs [.d r (.int x)] M = some (.d true (.int (x.natAbs : Nat)), M) := by
  show some (W.d true (PyData.int (if x < 0 then -x else x)), M) = _
  have : (if x < 0 then -x else x) = ((x.natAbs : Nat) : Int) := by split <;> omega
  rw [this]
theorem bInt_i {r : Bool} {x : Int} {M : MS} : bInt [.d r (.int x)] M = some (.d true (.int x), M) := rfl
theorem c_common (a : Int) (b : Nat) (M : MS) : f_common [.d true (.int a), .d true (.int (b : Int))] M = some (.d true (.int (a.natAbs.gcd b : Nat)), M) := by
  obtain ⟨n, hn⟩ := w_common b a.natAbs M
  have hw := sWhile_of hn
  unfold f_common
  simp only [ev_var, ev_D, ev_bin, ev_un, ev_args0, ev_args, ev_fn, ev_call, ev_callK, ev_if, ev_B1, asB_d, ev_and, ev_or, ev_not, ev_mand, ev_mor, ev_true, ev_chain, ev_tup, ev_lst, ev_old, ev_new, ev_items, ev_lc, ev_seq, seq_nx, seq_rt, seq_bk, seq_ct, ev_next, ev_break, ev_ret, fz_d, ev_retW, ev_drop, ev_sif, ev_set, ev_par, par_2, ev_for, ev_sem, ev_semFz, fzP_0, fzP_d, fzP_s, fzP_l, ob_some, ob_none, oif_true, oif_false, mkT2, mkT3, mkL0, mkL1, mkL2, gSub_i, gAdd_i, gLt_i, gLe_i, gGt_i, gGe_i, gEq_i, gNe_i, frIx0, frIx1, List.length_cons, List.length_nil, List.map_cons, List.map_nil, List.cons_append, List.nil_append, List.append_nil, List.replicate, List.getElem?_cons_zero, List.getElem?_cons_succ, List.set_cons_zero, List.set_cons_succ, if_true, if_false, Nat.reduceAdd, Nat.reduceSub, Bool.and_true, Bool.true_and, Bool.not_true, Bool.not_false, bAbs_i, hw]
theorem c_lowest {c : Nat} (a : Int) (b : Nat) (h : b ≠ 0) (z : b < 2 ^ c) (l : c ≤ 8000) (M : MS) : f_lowest [.d true (.int a), .d true (.int (b : Int))] M = some (.d true (fr (Rat.normalize a b h)), M) := by
  have g0 := gcd_pos (a := a.natAbs) h
  have g1 : a.natAbs.gcd b ≤ b := Nat.gcd_le_right _ (Nat.pos_of_ne_zero h)
  have g2 : ∀ i : Int, CDivW i ((a.natAbs.gcd b : Nat) : Int) := fun i => divE (b := c) (by omega) (by rw [Int.natAbs_natCast]; exact Nat.lt_of_le_of_lt g1 z) (by omega)
  unfold f_lowest
  simp only [ev_var, ev_D, ev_bin, ev_un, ev_args0, ev_args, ev_fn, ev_call, ev_callK, ev_if, ev_B1, asB_d, ev_and, ev_or, ev_not, ev_mand, ev_mor, ev_true, ev_chain, ev_tup, ev_lst, ev_old, ev_new, ev_items, ev_lc, ev_seq, seq_nx, seq_rt, seq_bk, seq_ct, ev_next, ev_break, ev_ret, fz_d, ev_retW, ev_drop, ev_sif, ev_set, ev_par, par_2, ev_for, ev_sem, ev_semFz, fzP_0, fzP_d, fzP_s, fzP_l, ob_some, ob_none, oif_true, oif_false, mkT2, mkT3, mkL0, mkL1, mkL2, gSub_i, gAdd_i, gLt_i, gLe_i, gGt_i, gGe_i, gEq_i, gNe_i, frIx0, frIx1, List.length_cons, List.length_nil, List.map_cons, List.map_nil, List.cons_append, List.nil_append, List.append_nil, List.replicate, List.getElem?_cons_zero, List.getElem?_cons_succ, List.set_cons_zero, List.set_cons_succ, if_true, if_false, Nat.reduceAdd, Nat.reduceSub, Bool.and_true, Bool.true_and, Bool.not_true, Bool.not_false, c_common, gFdiv_i (g2 _)]
  unfold fr
  rw [norm_num, norm_den]
  simp

theorem den_pos (q : Rat) : q.den ≠ 0 := q.den_nz
theorem c_add {r s : Bool} {p q : Rat} {a b : Nat} (h : Sz a p) (k : Sz b q) (l : a + b ≤ 8000) (M : MS) : f_add [.d r (fr p), .d s (fr q)] M = some (.d true (fr (p + q)), M) := by
  have h1 : CMulE p.num q.den := mulE h.1 (by exact k.2) (by omega)
  have h2 : CMulE q.num p.den := mulE k.1 (by exact h.2) (by omega)
  have h3 : CMulE (p.den : Int) (q.den : Int) := mulE (by exact h.2) (by exact k.2) (by omega)
  have h4 : ((p.den : Int) * (q.den : Int)) = ((p.den * q.den : Nat) : Int) := by simp
  have h5 : p.den * q.den < 2 ^ (a + b) := lt2_mul h.2 k.2
  unfold f_add
  simp only [ev_var, ev_D, ev_bin, ev_un, ev_args0, ev_args, ev_fn, ev_call, ev_callK, ev_if, ev_B1, asB_d, ev_and, ev_or, ev_not, ev_mand, ev_mor, ev_true, ev_chain, ev_tup, ev_lst, ev_old, ev_new, ev_items, ev_lc, ev_seq, seq_nx, seq_rt, seq_bk, seq_ct, ev_next, ev_break, ev_ret, fz_d, ev_retW, ev_drop, ev_sif, ev_set, ev_par, par_2, ev_for, ev_sem, ev_semFz, fzP_0, fzP_d, fzP_s, fzP_l, ob_some, ob_none, oif_true, oif_false, mkT2, mkT3, mkL0, mkL1, mkL2, gSub_i, gAdd_i, gLt_i, gLe_i, gGt_i, gGe_i, gEq_i, gNe_i, frIx0, frIx1, List.length_cons, List.length_nil, List.map_cons, List.map_nil, List.cons_append, List.nil_append, List.append_nil, List.replicate, List.getElem?_cons_zero, List.getElem?_cons_succ, List.set_cons_zero, List.set_cons_succ, if_true, if_false, Nat.reduceAdd, Nat.reduceSub, Bool.and_true, Bool.true_and, Bool.not_true, Bool.not_false, gMul_i h1, gMul_i h2, gMul_i h3, h4, c_lowest _ _ (Nat.mul_ne_zero p.den_nz q.den_nz) h5 l]
  rw [Rat.add_def]
theorem c_less {r s : Bool} {p q : Rat} {a b : Nat} (h : Sz a p) (k : Sz b q) (l : a + b ≤ 8000) (M : MS) : f_less [.d r (fr p), .d s (fr q)] M = some (.d true (fr (p - q)), M) := by
  have h1 : CMulE p.num q.den := mulE h.1 (by exact k.2) (by omega)
  have h2 : CMulE q.num p.den := mulE k.1 (by exact h.2) (by omega)
  have h3 : CMulE (p.den : Int) (q.den : Int) := mulE (by exact h.2) (by exact k.2) (by omega)
  have h4 : ((p.den : Int) * (q.den : Int)) = ((p.den * q.den : Nat) : Int) := by simp
  have h5 : p.den * q.den < 2 ^ (a + b) := lt2_mul h.2 k.2
  unfold f_less
  simp only [ev_var, ev_D, ev_bin, ev_un, ev_args0, ev_args, ev_fn, ev_call, ev_callK, ev_if, ev_B1, asB_d, ev_and, ev_or, ev_not, ev_mand, ev_mor, ev_true, ev_chain, ev_tup, ev_lst, ev_old, ev_new, ev_items, ev_lc, ev_seq, seq_nx, seq_rt, seq_bk, seq_ct, ev_next, ev_break, ev_ret, fz_d, ev_retW, ev_drop, ev_sif, ev_set, ev_par, par_2, ev_for, ev_sem, ev_semFz, fzP_0, fzP_d, fzP_s, fzP_l, ob_some, ob_none, oif_true, oif_false, mkT2, mkT3, mkL0, mkL1, mkL2, gSub_i, gAdd_i, gLt_i, gLe_i, gGt_i, gGe_i, gEq_i, gNe_i, frIx0, frIx1, List.length_cons, List.length_nil, List.map_cons, List.map_nil, List.cons_append, List.nil_append, List.append_nil, List.replicate, List.getElem?_cons_zero, List.getElem?_cons_succ, List.set_cons_zero, List.set_cons_succ, if_true, if_false, Nat.reduceAdd, Nat.reduceSub, Bool.and_true, Bool.true_and, Bool.not_true, Bool.not_false, gMul_i h1, gMul_i h2, gMul_i h3, h4, c_lowest _ _ (Nat.mul_ne_zero p.den_nz q.den_nz) h5 l]
  rw [Rat.sub_def]
theorem c_times {r s : Bool} {p q : Rat} {a b : Nat} (h : Sz a p) (k : Sz b q) (l : a + b ≤ 8000) (M : MS) : f_times [.d r (fr p), .d s (fr q)] M = some (.d true (fr (p * q)), M) := by
  have h1 : CMulE p.num q.num := mulE h.1 k.1 (by omega)
  have h3 : CMulE (p.den : Int) (q.den : Int) := mulE (by exact h.2) (by exact k.2) (by omega)
  have h4 : ((p.den : Int) * (q.den : Int)) = ((p.den * q.den : Nat) : Int) := by simp
  have h5 : p.den * q.den < 2 ^ (a + b) := lt2_mul h.2 k.2
  unfold f_times
  simp only [ev_var, ev_D, ev_bin, ev_un, ev_args0, ev_args, ev_fn, ev_call, ev_callK, ev_if, ev_B1, asB_d, ev_and, ev_or, ev_not, ev_mand, ev_mor, ev_true, ev_chain, ev_tup, ev_lst, ev_old, ev_new, ev_items, ev_lc, ev_seq, seq_nx, seq_rt, seq_bk, seq_ct, ev_next, ev_break, ev_ret, fz_d, ev_retW, ev_drop, ev_sif, ev_set, ev_par, par_2, ev_for, ev_sem, ev_semFz, fzP_0, fzP_d, fzP_s, fzP_l, ob_some, ob_none, oif_true, oif_false, mkT2, mkT3, mkL0, mkL1, mkL2, gSub_i, gAdd_i, gLt_i, gLe_i, gGt_i, gGe_i, gEq_i, gNe_i, frIx0, frIx1, List.length_cons, List.length_nil, List.map_cons, List.map_nil, List.cons_append, List.nil_append, List.append_nil, List.replicate, List.getElem?_cons_zero, List.getElem?_cons_succ, List.set_cons_zero, List.set_cons_succ, if_true, if_false, Nat.reduceAdd, Nat.reduceSub, Bool.and_true, Bool.true_and, Bool.not_true, Bool.not_false, gMul_i h1, gMul_i h3, h4, c_lowest _ _ (Nat.mul_ne_zero p.den_nz q.den_nz) h5 l]
  rw [Rat.mul_def]
theorem c_below {r s : Bool} {p q : Rat} {a b : Nat} (h : Sz a p) (k : Sz b q) (l : a + b ≤ 8000) (M : MS) : f_is_below [.d r (fr p), .d s (fr q)] M = some (.d true (.bool (decide (p < q))), M) := by
  have h1 : CMulE p.num q.den := mulE h.1 (by exact k.2) (by omega)
  have h2 : CMulE q.num p.den := mulE k.1 (by exact h.2) (by omega)
  unfold f_is_below
  simp only [ev_var, ev_D, ev_bin, ev_un, ev_args0, ev_args, ev_fn, ev_call, ev_callK, ev_if, ev_B1, asB_d, ev_and, ev_or, ev_not, ev_mand, ev_mor, ev_true, ev_chain, ev_tup, ev_lst, ev_old, ev_new, ev_items, ev_lc, ev_seq, seq_nx, seq_rt, seq_bk, seq_ct, ev_next, ev_break, ev_ret, fz_d, ev_retW, ev_drop, ev_sif, ev_set, ev_par, par_2, ev_for, ev_sem, ev_semFz, fzP_0, fzP_d, fzP_s, fzP_l, ob_some, ob_none, oif_true, oif_false, mkT2, mkT3, mkL0, mkL1, mkL2, gSub_i, gAdd_i, gLt_i, gLe_i, gGt_i, gGe_i, gEq_i, gNe_i, frIx0, frIx1, List.length_cons, List.length_nil, List.map_cons, List.map_nil, List.cons_append, List.nil_append, List.append_nil, List.replicate, List.getElem?_cons_zero, List.getElem?_cons_succ, List.set_cons_zero, List.set_cons_succ, if_true, if_false, Nat.reduceAdd, Nat.reduceSub, Bool.and_true, Bool.true_and, Bool.not_true, Bool.not_false, gMul_i h1, gMul_i h2]
  simp only [Rat.lt_iff]
theorem fr_0 : PyData.tuple [.int 0, .int 1] = fr 0 := rfl
theorem fr_1 : PyData.tuple [.int 1, .int 1] = fr 1 := rfl
theorem c_total {r : Bool} {b n : Nat} {qs : List Rat} (h : ∀ q, q ∈ qs → Sz b q) (hn : qs.length ≤ n) (l : 1 + (n + 1) * (b + 1) ≤ 8000) (M : MS) : f_total [.d r (.list (qs.map fr))] M = some (.d (!qs.isEmpty) (fr qs.sum), M) := by
  have hf := for_inv (t := r) (g := gNm 2) (b := (sSeq (sSet 1 (mCall 2 f_add (mArgs [(mVar 1), (mVar 2)]))) sNext)) (enc := fr)
    (fun done Δ M' => M' = M ∧ ∃ o, Δ = [some (.d r (.list (qs.map fr))), some (.d (!done.isEmpty) (fr done.sum)), o]) qs (by
      intro done a rest e Δ M' hP
      obtain ⟨rfl, o, rfl⟩ := hP
      refine ⟨_, tg_nm, ?_⟩
      have h1 : Sz (1 + done.length * (b + 1)) done.sum := sum_sz fun q hq => h q (by rw [e]; exact List.mem_append_left _ hq)
      have h2 : Sz b a := h a (by rw [e]; simp)
      have h3 : done.length + 1 ≤ n := by rw [e] at hn; simp at hn; omega
      have h4 : done.length * (b + 1) + (b + 1) ≤ (n + 1) * (b + 1) := by
        rw [← Nat.succ_mul]
        exact Nat.mul_le_mul_right _ (by omega)
      simp only [ev_var, ev_D, ev_bin, ev_un, ev_args0, ev_args, ev_fn, ev_call, ev_callK, ev_if, ev_B1, asB_d, ev_and, ev_or, ev_not, ev_mand, ev_mor, ev_true, ev_chain, ev_tup, ev_lst, ev_old, ev_new, ev_items, ev_lc, ev_seq, seq_nx, seq_rt, seq_bk, seq_ct, ev_next, ev_break, ev_ret, fz_d, ev_retW, ev_drop, ev_sif, ev_set, ev_par, par_2, ev_for, ev_sem, ev_semFz, fzP_0, fzP_d, fzP_s, fzP_l, ob_some, ob_none, oif_true, oif_false, mkT2, mkT3, mkL0, mkL1, mkL2, gSub_i, gAdd_i, gLt_i, gLe_i, gGt_i, gGe_i, gEq_i, gNe_i, frIx0, frIx1, List.length_cons, List.length_nil, List.map_cons, List.map_nil, List.cons_append, List.nil_append, List.append_nil, List.replicate, List.getElem?_cons_zero, List.getElem?_cons_succ, List.set_cons_zero, List.set_cons_succ, if_true, if_false, Nat.reduceAdd, Nat.reduceSub, Bool.and_true, Bool.true_and, Bool.not_true, Bool.not_false, nf_fr, c_add h1 h2 (by omega)]
      refine ⟨_, _, rfl, rfl, some (.d r (fr a)), ?_⟩
      rw [sum_snoc]
      simp) [some (.d r (.list (qs.map fr))), some (.d false (fr 0)), none] M ⟨rfl, none, by simp⟩
  obtain ⟨Δ', M', h1, rfl, o, rfl⟩ := hf
  unfold f_total
  simp only [ev_var, ev_D, ev_bin, ev_un, ev_args0, ev_args, ev_fn, ev_call, ev_callK, ev_if, ev_B1, asB_d, ev_and, ev_or, ev_not, ev_mand, ev_mor, ev_true, ev_chain, ev_tup, ev_lst, ev_old, ev_new, ev_items, ev_lc, ev_seq, seq_nx, seq_rt, seq_bk, seq_ct, ev_next, ev_break, ev_ret, fz_d, ev_retW, ev_drop, ev_sif, ev_set, ev_par, par_2, ev_for, ev_sem, ev_semFz, fzP_0, fzP_d, fzP_s, fzP_l, ob_some, ob_none, oif_true, oif_false, mkT2, mkT3, mkL0, mkL1, mkL2, gSub_i, gAdd_i, gLt_i, gLe_i, gGt_i, gGe_i, gEq_i, gNe_i, frIx0, frIx1, List.length_cons, List.length_nil, List.map_cons, List.map_nil, List.cons_append, List.nil_append, List.append_nil, List.replicate, List.getElem?_cons_zero, List.getElem?_cons_succ, List.set_cons_zero, List.set_cons_succ, if_true, if_false, Nat.reduceAdd, Nat.reduceSub, Bool.and_true, Bool.true_and, Bool.not_true, Bool.not_false, fr_0, fzQ_l, h1]
theorem c_between0 {r s u : Bool} {n : Int} {M : MS} : f_is_between [.d r (.int n), .d s .none, .d u .none] M = some (.d true (.bool true), M) := by
  unfold f_is_between
  simp only [ev_var, ev_D, ev_bin, ev_un, ev_args0, ev_args, ev_fn, ev_call, ev_callK, ev_if, ev_B1, asB_d, ev_and, ev_or, ev_not, ev_mand, ev_mor, ev_true, ev_chain, ev_tup, ev_lst, ev_old, ev_new, ev_items, ev_lc, ev_seq, seq_nx, seq_rt, seq_bk, seq_ct, ev_next, ev_break, ev_ret, fz_d, ev_retW, ev_drop, ev_sif, ev_set, ev_par, par_2, ev_for, ev_sem, ev_semFz, fzP_0, fzP_d, fzP_s, fzP_l, ob_some, ob_none, oif_true, oif_false, mkT2, mkT3, mkL0, mkL1, mkL2, gSub_i, gAdd_i, gLt_i, gLe_i, gGt_i, gGe_i, gEq_i, gNe_i, frIx0, frIx1, List.length_cons, List.length_nil, List.map_cons, List.map_nil, List.cons_append, List.nil_append, List.append_nil, List.replicate, List.getElem?_cons_zero, List.getElem?_cons_succ, List.set_cons_zero, List.set_cons_succ, if_true, if_false, Nat.reduceAdd, Nat.reduceSub, Bool.and_true, Bool.true_and, Bool.not_true, Bool.not_false, isi_ii, isi_bi, gIs_n]
theorem c_between1 {r s u : Bool} {n m : Int} {M : MS} : f_is_between [.d r (.int n), .d s (.int m), .d u .none] M = some (.d true (.bool (decide (m ≤ n))), M) := by
  unfold f_is_between
  simp only [ev_var, ev_D, ev_bin, ev_un, ev_args0, ev_args, ev_fn, ev_call, ev_callK, ev_if, ev_B1, asB_d, ev_and, ev_or, ev_not, ev_mand, ev_mor, ev_true, ev_chain, ev_tup, ev_lst, ev_old, ev_new, ev_items, ev_lc, ev_seq, seq_nx, seq_rt, seq_bk, seq_ct, ev_next, ev_break, ev_ret, fz_d, ev_retW, ev_drop, ev_sif, ev_set, ev_par, par_2, ev_for, ev_sem, ev_semFz, fzP_0, fzP_d, fzP_s, fzP_l, ob_some, ob_none, oif_true, oif_false, mkT2, mkT3, mkL0, mkL1, mkL2, gSub_i, gAdd_i, gLt_i, gLe_i, gGt_i, gGe_i, gEq_i, gNe_i, frIx0, frIx1, List.length_cons, List.length_nil, List.map_cons, List.map_nil, List.cons_append, List.nil_append, List.append_nil, List.replicate, List.getElem?_cons_zero, List.getElem?_cons_succ, List.set_cons_zero, List.set_cons_succ, if_true, if_false, Nat.reduceAdd, Nat.reduceSub, Bool.and_true, Bool.true_and, Bool.not_true, Bool.not_false, isi_ii, isi_bi, gIs_n, gIs_i]
  by_cases h : m ≤ n
  · simp only [h, decide_true]
    simp only [ev_var, ev_D, ev_bin, ev_un, ev_args0, ev_args, ev_fn, ev_call, ev_callK, ev_if, ev_B1, asB_d, ev_and, ev_or, ev_not, ev_mand, ev_mor, ev_true, ev_chain, ev_tup, ev_lst, ev_old, ev_new, ev_items, ev_lc, ev_seq, seq_nx, seq_rt, seq_bk, seq_ct, ev_next, ev_break, ev_ret, fz_d, ev_retW, ev_drop, ev_sif, ev_set, ev_par, par_2, ev_for, ev_sem, ev_semFz, fzP_0, fzP_d, fzP_s, fzP_l, ob_some, ob_none, oif_true, oif_false, mkT2, mkT3, mkL0, mkL1, mkL2, gSub_i, gAdd_i, gLt_i, gLe_i, gGt_i, gGe_i, gEq_i, gNe_i, frIx0, frIx1, List.length_cons, List.length_nil, List.map_cons, List.map_nil, List.cons_append, List.nil_append, List.append_nil, List.replicate, List.getElem?_cons_zero, List.getElem?_cons_succ, List.set_cons_zero, List.set_cons_succ, if_true, if_false, Nat.reduceAdd, Nat.reduceSub, Bool.and_true, Bool.true_and, Bool.not_true, Bool.not_false, gIs_n]
  · simp only [h, decide_false]
    simp only [ev_var, ev_D, ev_bin, ev_un, ev_args0, ev_args, ev_fn, ev_call, ev_callK, ev_if, ev_B1, asB_d, ev_and, ev_or, ev_not, ev_mand, ev_mor, ev_true, ev_chain, ev_tup, ev_lst, ev_old, ev_new, ev_items, ev_lc, ev_seq, seq_nx, seq_rt, seq_bk, seq_ct, ev_next, ev_break, ev_ret, fz_d, ev_retW, ev_drop, ev_sif, ev_set, ev_par, par_2, ev_for, ev_sem, ev_semFz, fzP_0, fzP_d, fzP_s, fzP_l, ob_some, ob_none, oif_true, oif_false, mkT2, mkT3, mkL0, mkL1, mkL2, gSub_i, gAdd_i, gLt_i, gLe_i, gGt_i, gGe_i, gEq_i, gNe_i, frIx0, frIx1, List.length_cons, List.length_nil, List.map_cons, List.map_nil, List.cons_append, List.nil_append, List.append_nil, List.replicate, List.getElem?_cons_zero, List.getElem?_cons_succ, List.set_cons_zero, List.set_cons_succ, if_true, if_false, Nat.reduceAdd, Nat.reduceSub, Bool.and_true, Bool.true_and, Bool.not_true, Bool.not_false, gIs_n]
theorem c_between2 {r s u : Bool} {n m k : Int} {M : MS} : f_is_between [.d r (.int n), .d s (.int m), .d u (.int k)] M = some (.d true (.bool (decide (m ≤ n) && decide (n ≤ k))), M) := by
  unfold f_is_between
  simp only [ev_var, ev_D, ev_bin, ev_un, ev_args0, ev_args, ev_fn, ev_call, ev_callK, ev_if, ev_B1, asB_d, ev_and, ev_or, ev_not, ev_mand, ev_mor, ev_true, ev_chain, ev_tup, ev_lst, ev_old, ev_new, ev_items, ev_lc, ev_seq, seq_nx, seq_rt, seq_bk, seq_ct, ev_next, ev_break, ev_ret, fz_d, ev_retW, ev_drop, ev_sif, ev_set, ev_par, par_2, ev_for, ev_sem, ev_semFz, fzP_0, fzP_d, fzP_s, fzP_l, ob_some, ob_none, oif_true, oif_false, mkT2, mkT3, mkL0, mkL1, mkL2, gSub_i, gAdd_i, gLt_i, gLe_i, gGt_i, gGe_i, gEq_i, gNe_i, frIx0, frIx1, List.length_cons, List.length_nil, List.map_cons, List.map_nil, List.cons_append, List.nil_append, List.append_nil, List.replicate, List.getElem?_cons_zero, List.getElem?_cons_succ, List.set_cons_zero, List.set_cons_succ, if_true, if_false, Nat.reduceAdd, Nat.reduceSub, Bool.and_true, Bool.true_and, Bool.not_true, Bool.not_false, isi_ii, isi_bi, gIs_n, gIs_i]
  by_cases h : m ≤ n
  · simp only [h, decide_true, Bool.true_and]
    simp only [ev_var, ev_D, ev_bin, ev_un, ev_args0, ev_args, ev_fn, ev_call, ev_callK, ev_if, ev_B1, asB_d, ev_and, ev_or, ev_not, ev_mand, ev_mor, ev_true, ev_chain, ev_tup, ev_lst, ev_old, ev_new, ev_items, ev_lc, ev_seq, seq_nx, seq_rt, seq_bk, seq_ct, ev_next, ev_break, ev_ret, fz_d, ev_retW, ev_drop, ev_sif, ev_set, ev_par, par_2, ev_for, ev_sem, ev_semFz, fzP_0, fzP_d, fzP_s, fzP_l, ob_some, ob_none, oif_true, oif_false, mkT2, mkT3, mkL0, mkL1, mkL2, gSub_i, gAdd_i, gLt_i, gLe_i, gGt_i, gGe_i, gEq_i, gNe_i, frIx0, frIx1, List.length_cons, List.length_nil, List.map_cons, List.map_nil, List.cons_append, List.nil_append, List.append_nil, List.replicate, List.getElem?_cons_zero, List.getElem?_cons_succ, List.set_cons_zero, List.set_cons_succ, if_true, if_false, Nat.reduceAdd, Nat.reduceSub, Bool.and_true, Bool.true_and, Bool.not_true, Bool.not_false, gIs_i]
  · simp only [h, decide_false, Bool.false_and]
    simp only [ev_var, ev_D, ev_bin, ev_un, ev_args0, ev_args, ev_fn, ev_call, ev_callK, ev_if, ev_B1, asB_d, ev_and, ev_or, ev_not, ev_mand, ev_mor, ev_true, ev_chain, ev_tup, ev_lst, ev_old, ev_new, ev_items, ev_lc, ev_seq, seq_nx, seq_rt, seq_bk, seq_ct, ev_next, ev_break, ev_ret, fz_d, ev_retW, ev_drop, ev_sif, ev_set, ev_par, par_2, ev_for, ev_sem, ev_semFz, fzP_0, fzP_d, fzP_s, fzP_l, ob_some, ob_none, oif_true, oif_false, mkT2, mkT3, mkL0, mkL1, mkL2, gSub_i, gAdd_i, gLt_i, gLe_i, gGt_i, gGe_i, gEq_i, gNe_i, frIx0, frIx1, List.length_cons, List.length_nil, List.map_cons, List.map_nil, List.cons_append, List.nil_append, List.append_nil, List.replicate, List.getElem?_cons_zero, List.getElem?_cons_succ, List.set_cons_zero, List.set_cons_succ, if_true, if_false, Nat.reduceAdd, Nat.reduceSub, Bool.and_true, Bool.true_and, Bool.not_true, Bool.not_false, gIs_i]
theorem isi_fr {r : Bool} {q : Rat} {M : MS} : gIsi "tuple" (.d r (fr q)) M = some (.d true (.bool true), M) := isi_tt
theorem len_fr {r : Bool} {q : Rat} {M : MS} : bLen [.d r (fr q)] M = some (.d true (.int 2), M) := bLen_t
theorem c_fraction {r : Bool} {q : Rat} {M : MS} : f_is_fraction [.d r (fr q)] M = some (.d true (.bool true), M) := by
  have h : decide ((1 : Int) ≤ (q.den : Int)) = true := by have := q.den_pos; simp; omega
  have h2 : q.num.natAbs.gcd q.den = 1 := q.reduced
  unfold f_is_fraction
  simp only [ev_var, ev_D, ev_bin, ev_un, ev_args0, ev_args, ev_fn, ev_call, ev_callK, ev_if, ev_B1, asB_d, ev_and, ev_or, ev_not, ev_mand, ev_mor, ev_true, ev_chain, ev_tup, ev_lst, ev_old, ev_new, ev_items, ev_lc, ev_seq, seq_nx, seq_rt, seq_bk, seq_ct, ev_next, ev_break, ev_ret, fz_d, ev_retW, ev_drop, ev_sif, ev_set, ev_par, par_2, ev_for, ev_sem, ev_semFz, fzP_0, fzP_d, fzP_s, fzP_l, ob_some, ob_none, oif_true, oif_false, mkT2, mkT3, mkL0, mkL1, mkL2, gSub_i, gAdd_i, gLt_i, gLe_i, gGt_i, gGe_i, gEq_i, gNe_i, frIx0, frIx1, List.length_cons, List.length_nil, List.map_cons, List.map_nil, List.cons_append, List.nil_append, List.append_nil, List.replicate, List.getElem?_cons_zero, List.getElem?_cons_succ, List.set_cons_zero, List.set_cons_succ, if_true, if_false, Nat.reduceAdd, Nat.reduceSub, Bool.and_true, Bool.true_and, Bool.not_true, Bool.not_false, isi_fr, len_fr, c_between0, c_between1, h, decide_true, c_common, h2]
  rfl
theorem c_chance {r : Bool} {q : Rat} {M : MS} (h : 0 ≤ q) (h1 : q ≤ 1) : f_is_chance [.d r (fr q)] M = some (.d true (.bool true), M) := by
  have h3 : (0 : Int) ≤ q.num := Rat.num_nonneg.mpr h
  have h4 : q.num ≤ (q.den : Int) := by
    have := (Rat.le_iff _ _).mp h1
    simpa using this
  unfold f_is_chance
  simp only [ev_var, ev_D, ev_bin, ev_un, ev_args0, ev_args, ev_fn, ev_call, ev_callK, ev_if, ev_B1, asB_d, ev_and, ev_or, ev_not, ev_mand, ev_mor, ev_true, ev_chain, ev_tup, ev_lst, ev_old, ev_new, ev_items, ev_lc, ev_seq, seq_nx, seq_rt, seq_bk, seq_ct, ev_next, ev_break, ev_ret, fz_d, ev_retW, ev_drop, ev_sif, ev_set, ev_par, par_2, ev_for, ev_sem, ev_semFz, fzP_0, fzP_d, fzP_s, fzP_l, ob_some, ob_none, oif_true, oif_false, mkT2, mkT3, mkL0, mkL1, mkL2, gSub_i, gAdd_i, gLt_i, gLe_i, gGt_i, gGe_i, gEq_i, gNe_i, frIx0, frIx1, List.length_cons, List.length_nil, List.map_cons, List.map_nil, List.cons_append, List.nil_append, List.append_nil, List.replicate, List.getElem?_cons_zero, List.getElem?_cons_succ, List.set_cons_zero, List.set_cons_succ, if_true, if_false, Nat.reduceAdd, Nat.reduceSub, Bool.and_true, Bool.true_and, Bool.not_true, Bool.not_false, c_fraction, h3, h4, decide_true]
/-- a draw as data -/
def pr (z : Rat × Rat) : PD := .tuple [fr z.1, fr z.2]
def dw (d : List (Rat × Rat)) : PD := .tuple (d.map pr)
theorem isi_pr {r : Bool} {z : Rat × Rat} {M : MS} : gIsi "tuple" (.d r (pr z)) M = some (.d true (.bool true), M) := isi_tt
theorem len_pr {r : Bool} {z : Rat × Rat} {M : MS} : bLen [.d r (pr z)] M = some (.d true (.int 2), M) := bLen_t
theorem prIx0 {r s : Bool} {z : Rat × Rat} {M : MS} : gIx (.d r (pr z)) (.d s (.int 0)) M = some (.d r (fr z.1), M) := gIx_0
theorem prIx1 {r s : Bool} {z : Rat × Rat} {M : MS} : gIx (.d r (pr z)) (.d s (.int 1)) M = some (.d r (fr z.2), M) := gIx_1
theorem nf_pr {r : Bool} {z : Rat × Rat} : nf r (pr z) = r := nf_t
theorem c_pair {r : Bool} {z : Rat × Rat} {M : MS} (h : 0 < z.2) (h1 : z.2 ≤ 1) : f_is_pair [.d r (pr z)] M = some (.d true (.bool true), M) := by
  have h0 : (0 : Rat) ≤ z.2 := Rat.le_of_lt h
  have h3 : (0 : Int) < z.2.num := by
    have := (Rat.lt_iff _ _).mp h
    simpa using this
  unfold f_is_pair
  simp only [ev_var, ev_D, ev_bin, ev_un, ev_args0, ev_args, ev_fn, ev_call, ev_callK, ev_if, ev_B1, asB_d, ev_and, ev_or, ev_not, ev_mand, ev_mor, ev_true, ev_chain, ev_tup, ev_lst, ev_old, ev_new, ev_items, ev_lc, ev_seq, seq_nx, seq_rt, seq_bk, seq_ct, ev_next, ev_break, ev_ret, fz_d, ev_retW, ev_drop, ev_sif, ev_set, ev_par, par_2, ev_for, ev_sem, ev_semFz, fzP_0, fzP_d, fzP_s, fzP_l, ob_some, ob_none, oif_true, oif_false, mkT2, mkT3, mkL0, mkL1, mkL2, gSub_i, gAdd_i, gLt_i, gLe_i, gGt_i, gGe_i, gEq_i, gNe_i, frIx0, frIx1, List.length_cons, List.length_nil, List.map_cons, List.map_nil, List.cons_append, List.nil_append, List.append_nil, List.replicate, List.getElem?_cons_zero, List.getElem?_cons_succ, List.set_cons_zero, List.set_cons_succ, if_true, if_false, Nat.reduceAdd, Nat.reduceSub, Bool.and_true, Bool.true_and, Bool.not_true, Bool.not_false, isi_pr, len_pr, prIx0, prIx1, c_fraction, c_chance h0 h1, h3, decide_true]

/-- a draw: some pairs, up to n, of fractions of up to b bits -/
structure Dr (b n : Nat) (d : List (Rat × Rat)) : Prop where
  ne : d ≠ []
  len : d.length ≤ n
  sz : ∀ z, z ∈ d → Sz b z.1 ∧ Sz b z.2
  pos : ∀ z, z ∈ d → 0 < z.2
  le1 : ∀ z, z ∈ d → z.2 ≤ 1
  rise : ∀ i (h : i + 1 < d.length), (d[i]).1 < (d[i + 1]).1
  sum : (d.map (·.2)).sum = 1
theorem len1 {α : Type} {l : List α} (h : l ≠ []) : ((l.length : Nat) : Int) - 1 = ((l.length - 1 : Nat) : Int) := by
  have := List.length_pos_iff.mpr h
  omega
theorem c_rising {r : Bool} {b : Nat} {qs : List Rat} (h : ∀ q, q ∈ qs → Sz b q) (h0 : qs ≠ []) (hl : qs.length ≤ 1000) (hb : b ≤ 4000) (hr : ∀ i (h : i + 1 < qs.length), qs[i] < qs[i + 1]) (M : MS) : f_are_rising [.d r (.list (qs.map fr))] M = some (.d true (.bool true), M) := by
  have hx : lcGo true (gNm 1) tTrue (mCall 2 f_is_below (mArgs [(mBin gIx (mVar 0) (mVar 1)), (mBin gIx (mVar 0) (mBin gAdd (mVar 1) (mD true (.int 1))))])) [some (.d r (.list (qs.map fr))), none] ((List.range (qs.length - 1)).map nE) M = _ :=
    lc_map (fun i => .bool true) (fun _ => true) _ fun i hi => by
      refine ⟨_, tg_nm, ?_⟩
      have h1 : i < qs.length - 1 := List.mem_range.mp hi
      have h2 : i < qs.length := by omega
      have h3 : i + 1 < qs.length := by omega
      have h4 : ((i : Int) + 1) = ((i + 1 : Nat) : Int) := by simp
      have h5 := c_below (r := r) (s := r) (h _ (List.getElem_mem h2)) (h _ (List.getElem_mem h3)) (by omega) M
      simp only [ev_var, ev_D, ev_bin, ev_un, ev_args0, ev_args, ev_fn, ev_call, ev_callK, ev_if, ev_B1, asB_d, ev_and, ev_or, ev_not, ev_mand, ev_mor, ev_true, ev_chain, ev_tup, ev_lst, ev_old, ev_new, ev_items, ev_lc, ev_seq, seq_nx, seq_rt, seq_bk, seq_ct, ev_next, ev_break, ev_ret, fz_d, ev_retW, ev_drop, ev_sif, ev_set, ev_par, par_2, ev_for, ev_sem, ev_semFz, fzP_0, fzP_d, fzP_s, fzP_l, ob_some, ob_none, oif_true, oif_false, mkT2, mkT3, mkL0, mkL1, mkL2, gSub_i, gAdd_i, gLt_i, gLe_i, gGt_i, gGe_i, gEq_i, gNe_i, frIx0, frIx1, List.length_cons, List.length_nil, List.map_cons, List.map_nil, List.cons_append, List.nil_append, List.append_nil, List.replicate, List.getElem?_cons_zero, List.getElem?_cons_succ, List.set_cons_zero, List.set_cons_succ, if_true, if_false, Nat.reduceAdd, Nat.reduceSub, Bool.and_true, Bool.true_and, Bool.not_true, Bool.not_false, nf_nE, nf_fr, gIx_at (r := r) rfl h2, gIx_at (r := r) h4 h3, nE, h5, hr i h3, decide_true]
  have e1 : (List.map fr qs).length = qs.length := by simp
  have e2 : (List.range (qs.length - 1)).length ≤ 100000 := by simp; omega
  unfold f_are_rising
  simp only [ev_var, ev_D, ev_bin, ev_un, ev_args0, ev_args, ev_fn, ev_call, ev_callK, ev_if, ev_B1, asB_d, ev_and, ev_or, ev_not, ev_mand, ev_mor, ev_true, ev_chain, ev_tup, ev_lst, ev_old, ev_new, ev_items, ev_lc, ev_seq, seq_nx, seq_rt, seq_bk, seq_ct, ev_next, ev_break, ev_ret, fz_d, ev_retW, ev_drop, ev_sif, ev_set, ev_par, par_2, ev_for, ev_sem, ev_semFz, fzP_0, fzP_d, fzP_s, fzP_l, ob_some, ob_none, oif_true, oif_false, mkT2, mkT3, mkL0, mkL1, mkL2, gSub_i, gAdd_i, gLt_i, gLe_i, gGt_i, gGe_i, gEq_i, gNe_i, frIx0, frIx1, List.length_cons, List.length_nil, List.map_cons, List.map_nil, List.cons_append, List.nil_append, List.append_nil, List.replicate, List.getElem?_cons_zero, List.getElem?_cons_succ, List.set_cons_zero, List.set_cons_succ, if_true, if_false, Nat.reduceAdd, Nat.reduceSub, Bool.and_true, Bool.true_and, Bool.not_true, Bool.not_false, bLen_l, e1, ev_rg, rgK_o (qs.length - 1) (len1 h0) (by omega), List.length_map, e2, wipeD, hx, bAll_map]
  simp
theorem isi_dw {r : Bool} {d : List (Rat × Rat)} {M : MS} : gIsi "tuple" (.d r (dw d)) M = some (.d true (.bool true), M) := isi_tt
theorem len_dw {r : Bool} {d : List (Rat × Rat)} {M : MS} : bLen [.d r (dw d)] M = some (.d true (.int d.length), M) := by
  unfold dw
  rw [bLen_t, List.length_map]
theorem fzQ_dw {r : Bool} {d : List (Rat × Rat)} {M : MS} : fzQ (.d r (dw d)) M = some ((r, d.map pr), M) := fzQ_t
theorem nf_dw {r : Bool} {d : List (Rat × Rat)} : nf r (dw d) = r := nf_t
theorem tg_pr {i j : Nat} {r : Bool} {z : Rat × Rat} {Δ : Sl} : gTp (gsCons (gNm i) (gsCons (gNm j) gsNil)) r (pr z) Δ = some ((Δ.set i (some (.d r (fr z.1)))).set j (some (.d r (fr z.2)))) := tg_2
theorem all_c {α : Type} {l : List α} (h : l ≠ []) (r : Bool) : (l.all fun _ => r) = r := by
  cases l with
  | nil => exact absurd rfl h
  | cons a l => cases r <;> simp
theorem map_mem_1 {b n : Nat} {d : List (Rat × Rat)} (D : Dr b n d) : ∀ q, q ∈ d.map (fun z : Rat × Rat => z.1) → Sz b q := by
  intro q hq
  obtain ⟨z, hz, rfl⟩ := List.mem_map.mp hq
  exact (D.sz z hz).1
theorem map_mem_2 {b n : Nat} {d : List (Rat × Rat)} (D : Dr b n d) : ∀ q, q ∈ d.map (fun z : Rat × Rat => z.2) → Sz b q := by
  intro q hq
  obtain ⟨z, hz, rfl⟩ := List.mem_map.mp hq
  exact (D.sz z hz).2
theorem c_draw {r : Bool} {b n : Nat} {d : List (Rat × Rat)} (D : Dr b n d) (hn : n ≤ 64) (hb : (n + 1) * (b + 1) ≤ 7900) (M : MS) : f_is_draw [.d r (dw d)] M = some (.d true (.bool true), M) := by
  have g1 := List.length_pos_iff.mpr D.ne
  have g2 := D.len
  have g3 : (1 : Int) ≤ (d.length : Int) := by omega
  have g4 : (d.length : Int) ≤ 64 := by omega
  have g5 : d.length ≤ 100000 := by omega
  have g6 : b ≤ 4000 := by
    have : 2 * (b + 1) ≤ (n + 1) * (b + 1) := Nat.mul_le_mul_right _ (by omega)
    omega
  have x1 : lcGo r (gNm 1) tTrue (mCall 1 f_is_pair (mArgs [(mVar 1)])) [some (.d r (dw d)), none] (d.map pr) M = _ :=
    lc_map (fun i => .bool true) (fun _ => true) _ fun z hz => by
      refine ⟨_, tg_nm, ?_⟩
      simp only [ev_var, ev_D, ev_bin, ev_un, ev_args0, ev_args, ev_fn, ev_call, ev_callK, ev_if, ev_B1, asB_d, ev_and, ev_or, ev_not, ev_mand, ev_mor, ev_true, ev_chain, ev_tup, ev_lst, ev_old, ev_new, ev_items, ev_lc, ev_seq, seq_nx, seq_rt, seq_bk, seq_ct, ev_next, ev_break, ev_ret, fz_d, ev_retW, ev_drop, ev_sif, ev_set, ev_par, par_2, ev_for, ev_sem, ev_semFz, fzP_0, fzP_d, fzP_s, fzP_l, ob_some, ob_none, oif_true, oif_false, mkT2, mkT3, mkL0, mkL1, mkL2, gSub_i, gAdd_i, gLt_i, gLe_i, gGt_i, gGe_i, gEq_i, gNe_i, frIx0, frIx1, List.length_cons, List.length_nil, List.map_cons, List.map_nil, List.cons_append, List.nil_append, List.append_nil, List.replicate, List.getElem?_cons_zero, List.getElem?_cons_succ, List.set_cons_zero, List.set_cons_succ, if_true, if_false, Nat.reduceAdd, Nat.reduceSub, Bool.and_true, Bool.true_and, Bool.not_true, Bool.not_false, nf_pr, c_pair (r := r) (M := M) (D.pos z hz) (D.le1 z hz)]
  have x2 : lcGo r (gNm 1) tTrue (mBin gIx (mVar 1) (mD true (.int 0))) [some (.d r (dw d)), none] (d.map pr) M = _ :=
    lc_map (fun z : Rat × Rat => fr z.1) (fun _ => r) _ fun z hz => by
      refine ⟨_, tg_nm, ?_⟩
      simp only [ev_var, ev_D, ev_bin, ev_un, ev_args0, ev_args, ev_fn, ev_call, ev_callK, ev_if, ev_B1, asB_d, ev_and, ev_or, ev_not, ev_mand, ev_mor, ev_true, ev_chain, ev_tup, ev_lst, ev_old, ev_new, ev_items, ev_lc, ev_seq, seq_nx, seq_rt, seq_bk, seq_ct, ev_next, ev_break, ev_ret, fz_d, ev_retW, ev_drop, ev_sif, ev_set, ev_par, par_2, ev_for, ev_sem, ev_semFz, fzP_0, fzP_d, fzP_s, fzP_l, ob_some, ob_none, oif_true, oif_false, mkT2, mkT3, mkL0, mkL1, mkL2, gSub_i, gAdd_i, gLt_i, gLe_i, gGt_i, gGe_i, gEq_i, gNe_i, frIx0, frIx1, List.length_cons, List.length_nil, List.map_cons, List.map_nil, List.cons_append, List.nil_append, List.append_nil, List.replicate, List.getElem?_cons_zero, List.getElem?_cons_succ, List.set_cons_zero, List.set_cons_succ, if_true, if_false, Nat.reduceAdd, Nat.reduceSub, Bool.and_true, Bool.true_and, Bool.not_true, Bool.not_false, nf_pr, prIx0]
  have x3 : lcGo r (gNm 1) tTrue (mBin gIx (mVar 1) (mD true (.int 1))) [some (.d r (dw d)), none] (d.map pr) M = _ :=
    lc_map (fun z : Rat × Rat => fr z.2) (fun _ => r) _ fun z hz => by
      refine ⟨_, tg_nm, ?_⟩
      simp only [ev_var, ev_D, ev_bin, ev_un, ev_args0, ev_args, ev_fn, ev_call, ev_callK, ev_if, ev_B1, asB_d, ev_and, ev_or, ev_not, ev_mand, ev_mor, ev_true, ev_chain, ev_tup, ev_lst, ev_old, ev_new, ev_items, ev_lc, ev_seq, seq_nx, seq_rt, seq_bk, seq_ct, ev_next, ev_break, ev_ret, fz_d, ev_retW, ev_drop, ev_sif, ev_set, ev_par, par_2, ev_for, ev_sem, ev_semFz, fzP_0, fzP_d, fzP_s, fzP_l, ob_some, ob_none, oif_true, oif_false, mkT2, mkT3, mkL0, mkL1, mkL2, gSub_i, gAdd_i, gLt_i, gLe_i, gGt_i, gGe_i, gEq_i, gNe_i, frIx0, frIx1, List.length_cons, List.length_nil, List.map_cons, List.map_nil, List.cons_append, List.nil_append, List.append_nil, List.replicate, List.getElem?_cons_zero, List.getElem?_cons_succ, List.set_cons_zero, List.set_cons_succ, if_true, if_false, Nat.reduceAdd, Nat.reduceSub, Bool.and_true, Bool.true_and, Bool.not_true, Bool.not_false, nf_pr, prIx1]
  have e1 : (d.map fun z : Rat × Rat => fr z.1) = (d.map (·.1)).map fr := by simp
  have e2 : (d.map fun z : Rat × Rat => fr z.2) = (d.map (·.2)).map fr := by simp
  have y1 := c_rising (r := r) (qs := d.map (·.1)) (map_mem_1 D) (by simpa using D.ne) (by simp; omega) g6 (by
    intro i hi
    simp at hi
    simpa using D.rise i hi) M
  have y2 := c_total (r := r) (n := n) (map_mem_2 D) (by simpa using g2) (by omega) M
  unfold f_is_draw
  simp only [ev_var, ev_D, ev_bin, ev_un, ev_args0, ev_args, ev_fn, ev_call, ev_callK, ev_if, ev_B1, asB_d, ev_and, ev_or, ev_not, ev_mand, ev_mor, ev_true, ev_chain, ev_tup, ev_lst, ev_old, ev_new, ev_items, ev_lc, ev_seq, seq_nx, seq_rt, seq_bk, seq_ct, ev_next, ev_break, ev_ret, fz_d, ev_retW, ev_drop, ev_sif, ev_set, ev_par, par_2, ev_for, ev_sem, ev_semFz, fzP_0, fzP_d, fzP_s, fzP_l, ob_some, ob_none, oif_true, oif_false, mkT2, mkT3, mkL0, mkL1, mkL2, gSub_i, gAdd_i, gLt_i, gLe_i, gGt_i, gGe_i, gEq_i, gNe_i, frIx0, frIx1, List.length_cons, List.length_nil, List.map_cons, List.map_nil, List.cons_append, List.nil_append, List.append_nil, List.replicate, List.getElem?_cons_zero, List.getElem?_cons_succ, List.set_cons_zero, List.set_cons_succ, if_true, if_false, Nat.reduceAdd, Nat.reduceSub, Bool.and_true, Bool.true_and, Bool.not_true, Bool.not_false, isi_dw, len_dw, g3, g4, decide_true, fzQ_dw, List.length_map, g5, wipeD, x1, x2, x3, bAll_map, all_c D.ne, e1, e2, y1, y2, fr_1, gEq_fr]
  simp [D.sum]
theorem c_check_draw {r : Bool} {b n : Nat} {d : List (Rat × Rat)} (D : Dr b n d) (hn : n ≤ 64) (hb : (n + 1) * (b + 1) ≤ 7900) (M : MS) : f_check_draw [.d r (dw d)] M = some (.d true .none, M) := by
  unfold f_check_draw
  simp only [ev_var, ev_D, ev_bin, ev_un, ev_args0, ev_args, ev_fn, ev_call, ev_callK, ev_if, ev_B1, asB_d, ev_and, ev_or, ev_not, ev_mand, ev_mor, ev_true, ev_chain, ev_tup, ev_lst, ev_old, ev_new, ev_items, ev_lc, ev_seq, seq_nx, seq_rt, seq_bk, seq_ct, ev_next, ev_break, ev_ret, fz_d, ev_retW, ev_drop, ev_sif, ev_set, ev_par, par_2, ev_for, ev_sem, ev_semFz, fzP_0, fzP_d, fzP_s, fzP_l, ob_some, ob_none, oif_true, oif_false, mkT2, mkT3, mkL0, mkL1, mkL2, gSub_i, gAdd_i, gLt_i, gLe_i, gGt_i, gGe_i, gEq_i, gNe_i, frIx0, frIx1, List.length_cons, List.length_nil, List.map_cons, List.map_nil, List.cons_append, List.nil_append, List.append_nil, List.replicate, List.getElem?_cons_zero, List.getElem?_cons_succ, List.set_cons_zero, List.set_cons_succ, if_true, if_false, Nat.reduceAdd, Nat.reduceSub, Bool.and_true, Bool.true_and, Bool.not_true, Bool.not_false, c_draw D hn hb]
theorem c_check_number {r : Bool} {q : Rat} (M : MS) : f_check_number [.d r (fr q)] M = some (.d true .none, M) := by
  unfold f_check_number
  simp only [ev_var, ev_D, ev_bin, ev_un, ev_args0, ev_args, ev_fn, ev_call, ev_callK, ev_if, ev_B1, asB_d, ev_and, ev_or, ev_not, ev_mand, ev_mor, ev_true, ev_chain, ev_tup, ev_lst, ev_old, ev_new, ev_items, ev_lc, ev_seq, seq_nx, seq_rt, seq_bk, seq_ct, ev_next, ev_break, ev_ret, fz_d, ev_retW, ev_drop, ev_sif, ev_set, ev_par, par_2, ev_for, ev_sem, ev_semFz, fzP_0, fzP_d, fzP_s, fzP_l, ob_some, ob_none, oif_true, oif_false, mkT2, mkT3, mkL0, mkL1, mkL2, gSub_i, gAdd_i, gLt_i, gLe_i, gGt_i, gGe_i, gEq_i, gNe_i, frIx0, frIx1, List.length_cons, List.length_nil, List.map_cons, List.map_nil, List.cons_append, List.nil_append, List.append_nil, List.replicate, List.getElem?_cons_zero, List.getElem?_cons_succ, List.set_cons_zero, List.set_cons_succ, if_true, if_false, Nat.reduceAdd, Nat.reduceSub, Bool.and_true, Bool.true_and, Bool.not_true, Bool.not_false, c_fraction]
/-- a row of draws -/
def rw' (l : List (List (Rat × Rat))) : PD := .tuple (l.map dw)
structure Rw (b n m : Nat) (l : List (List (Rat × Rat))) : Prop where
  ne : l ≠ []
  len : l.length ≤ m
  dr : ∀ d, d ∈ l → Dr b n d
theorem isi_rw {r : Bool} {l : List (List (Rat × Rat))} {M : MS} : gIsi "tuple" (.d r (rw' l)) M = some (.d true (.bool true), M) := isi_tt
theorem len_rw {r : Bool} {l : List (List (Rat × Rat))} {M : MS} : bLen [.d r (rw' l)] M = some (.d true (.int l.length), M) := by
  unfold rw'
  rw [bLen_t, List.length_map]
theorem fzQ_rw {r : Bool} {l : List (List (Rat × Rat))} {M : MS} : fzQ (.d r (rw' l)) M = some ((r, l.map dw), M) := fzQ_t
theorem gMul_l {r s : Bool} {x y : Int} {M : MS} (h1 : -18446744073709551616 < x) (h2 : x < 18446744073709551616) : gMul (.d r (.int x)) (.d s (.int y)) M = some (.d true (.int (x * y)), M) := gMul_i (.inl (.inl ⟨h1, h2⟩))
theorem gMul_r {r s : Bool} {x y : Int} {M : MS} (h1 : -18446744073709551616 < y) (h2 : y < 18446744073709551616) : gMul (.d r (.int x)) (.d s (.int y)) M = some (.d true (.int (x * y)), M) := gMul_i (.inl (.inr ⟨h1, h2⟩))
theorem gFdiv_l {r s : Bool} {x y : Int} {M : MS} (h1 : 0 < y) (h2 : y < 18446744073709551616) : gFdiv (.d r (.int x)) (.d s (.int y)) M = some (.d true (.int (x / y)), M) := gFdiv_i (divE (b := 64) h1 (by omega) (by decide))
theorem set_get {M : MS} {j : Nat} {o o' : MO} (h : M[j]? = some o') : (M.set j o)[j]? = some o := by
  have : j < M.length := by
    rcases Nat.lt_or_ge j M.length with h1 | h1
    · exact h1
    · rw [List.getElem?_eq_none h1] at h; cases h
  simp [this]
theorem loc_ix {M : MS} {j : Nat} {t s : Bool} {xs : List PD} {k : Int} {y : PD} (h : M[j]? = some (.lst t xs)) (e : atI xs k = some y) : gIx (.loc j) (.d s (.int k)) M = some (.d (nf t y) y, M) := by
  rw [gIx_int]
  show (match (match M[j]? with
    | some (.lst t xs) => some (t, xs)
    | some (.fzn t xs) => some (t, xs)
    | _ => none) with
    | some (t, xs) => (match atI xs k with
      | some y => some (W.d (nf t y) y, M)
      | none => none)
    | none => none) = _
  rw [h]
  simp only [e]
theorem sub_at {M M1 : MS} {Δ : Sl} {o i e : Sm W} {s t u : Bool} {x : PD} {n j : Nat} {k : Int} {xs : List PD} (he : e Δ M = some (.d s x, M1)) (ho : o Δ M1 = some (.loc n, M1)) (hi : i Δ M1 = some (.d u (.int k), M1)) (hM : M1[n]? = some (.lst t xs)) (hj : ixN xs.length k = some j) :
    sSub o i e Δ M = some (.nx, Δ, M1.set n (.lst (t && s) (xs.set j x))) := by
  have hp : sPutD o i e Δ M = none := by
    unfold sPutD
    rw [he]
    simp only [fz1]
    rw [ho]
    simp only []
    rw [hi]
    simp only [Ek.putAt, hM]
  unfold sSub
  rw [hp]
  unfold sSub0
  rw [he]
  simp only [fz1]
  rw [ho]
  simp only []
  rw [hi]
  simp only [setAt, hM, hj]
theorem subnm_at {M M1 : MS} {Δ : Sl} {o i e : Sm W} {s t u : Bool} {x y : PD} {n j l : Nat} {k : Int} {xs : List PD} (he : e Δ M = some (.d s (.tuple [x, y]), M1)) (ho : o Δ M1 = some (.loc n, M1)) (hi : i Δ M1 = some (.d u (.int k), M1)) (hM : M1[n]? = some (.lst t xs)) (hj : ixN xs.length k = some j) :
    sSubNm o i l e Δ M = some (.nx, Δ.set l (some (.d (nf s y) y)), M1.set n (.lst (t && s) (xs.set j x))) := by
  unfold sSubNm
  rw [he]
  simp only []
  rw [ho]
  simp only []
  rw [hi]
  simp only [setAt, hM, hj]
theorem divm_i {r s : Bool} {x y : Int} {M : MS} (h : 0 < y) (h2 : y < 1073741824) : bDivmod [.d r (.int x), .d s (.int y)] M = some (.d true (.tuple [.int (x / y), .int (x % y)]), M) := if_pos ⟨h, h2⟩
theorem bLen_s {xs : List PD} {M : MS} : bLen [.s xs] M = some (.d true (.int xs.length), M) := eq_of_heq HEq.rfl
theorem ix_s {ns : List Int} {s : Bool} {n : Nat} {M : MS} (h : n < ns.length) : gIx (.s (ns.map PyData.int)) (.d s (.int n)) M = some (.d true (.int ns[n]), M) := by
  show (match atI (ns.map PyData.int) (n : Int) with | some y => some (W.d (nf true y) y, M) | none => none) = _
  rw [atI_nat (j := n) (v := PyData.int ns[n]) (by simp [h])]
  rfl
theorem sl_s {ns : List Int} {Δ : Sl} {M : MS} (h : Δ[0]? = some (some (.s (ns.map PyData.int)))) : ∃ l : List Int, mSl (mVar 0) (mPart none) (mPart (some (mD true (.int 6)))) Δ M = some (.d true (.list (l.map PyData.int)), M) := by
  refine ⟨(ns.drop (HT.sIx (ns.map PyData.int).length 0 none)).take (HT.sIx (ns.map PyData.int).length (ns.map PyData.int).length (some 6) - HT.sIx (ns.map PyData.int).length 0 none), ?_⟩
  rw [List.map_take, List.map_drop]
  unfold mSl mVar
  rw [h]
  rfl
theorem k_add (p q : Rat) (h : Sm2 p q) : FnC f_add [.d (fr p), .d (fr q)] (fr (p + q)) := fnc2 fun r s M => ex0 (c_add h.1 h.2 (by decide) M)
theorem k_less (p q : Rat) (h : Sm2 p q) : FnC f_less [.d (fr p), .d (fr q)] (fr (p - q)) := fnc2 fun r s M => ex0 (c_less h.1 h.2 (by decide) M)
theorem k_times (p q : Rat) (h : Sm2 p q) : FnC f_times [.d (fr p), .d (fr q)] (fr (p * q)) := fnc2 fun r s M => ex0 (c_times h.1 h.2 (by decide) M)
theorem k_below (p q : Rat) (h : Sm2 p q) : FnC f_is_below [.d (fr p), .d (fr q)] (eB (decide (p < q))) := fnc2 fun r s M => ex0 (c_below h.1 h.2 (by decide) M)
def LowOk (b : Int) : Prop := 0 < b ∧ b.natAbs < 2 ^ 900
def lowQ (a b : Int) : Rat := mkRat a b.toNat
theorem k_check_number (q : Rat) : FnC f_check_number [.d (fr q)] .none := fnc1 fun r M => ex0 (c_check_number M)
theorem k_between2 (n m k : Int) : FnC f_is_between [.d (eI n), .d (eI m), .d (eI k)] (eB (decide (m ≤ n) && decide (n ≤ k))) := fnc3 fun r s u M => ex0 c_between2
theorem stepW_set {j : Nat} {M M' : MS} (F : Fk j M') (h : ∃ o, M' = M.set j o) : StepW j M M' := by
  obtain ⟨o, rfl⟩ := h
  exact ⟨by simp, fun k o hk e => by rw [List.getElem?_set, if_neg (Ne.symm hk)]; exact e, F⟩
theorem dw_e (d : List (Rat × Rat)) : eT (eP fr fr) d = dw d := rfl
theorem rw_e (l : List (List (Rat × Rat))) : eT (eT (eP fr fr)) l = rw' l := rfl
def OkRow (l : List (List (Rat × Rat))) : Prop := Rw 4 3 6 l
def OkDr (d : List (Rat × Rat)) : Prop := Dr 100 64 d
def OkRw (l : List (List (Rat × Rat))) : Prop := Rw 100 64 6 l
theorem k_check_draw (d : List (Rat × Rat)) (h : OkDr d) : FnC f_check_draw [.d (eT (eP fr fr) d)] .none := fnc1 fun r M => ex0 (c_check_draw h (by decide) (by decide) M)
/-! the chest family -/
theorem c_grab {r : Bool} {j top : Nat} {M : MS} (F : Fk j M) (h0 : 0 < top) (h1 : top < 1000) : ∃ v : Nat, v < top ∧ ∃ M', f__law_grab [.loc j, .d r (.int top)] M = some (.d true (.int v), M') ∧ Fk j M' ∧ ∃ o, M' = M.set j o := by
  obtain ⟨a, i, c, hM⟩ := F
  have t0 : (0 : Int) < (top : Int) := by omega
  have t1 : (top : Int) < 1073741824 := by omega
  have hb0 := loc_ix hM (s := true) (k := 0) (y := .int a) rfl
  by_cases hc : 0 < a
  · have x3 : sSubNm (mVar 0) (mD true (.int 0)) 2 (mFn bDivmod (mArgs [(mBin gIx (mVar 0) (mD true (.int 0))), (mVar 1)])) [some (.loc j), some (.d r (.int top)), none, none] M = _ :=
      subnm_at (t := true) (u := true) (s := true) (x := .int (a / top)) (y := .int (a % top)) (n := j) (j := 0) (k := 0) (xs := [.int a, .int i, .int c]) (by simp only [ev_var, ev_D, ev_bin, ev_un, ev_args0, ev_args, ev_fn, ev_call, ev_callK, ev_if, ev_B1, asB_d, ev_and, ev_or, ev_not, ev_mand, ev_mor, ev_true, ev_chain, ev_tup, ev_lst, ev_old, ev_new, ev_items, ev_lc, ev_seq, seq_nx, seq_rt, seq_bk, seq_ct, ev_next, ev_break, ev_ret, fz_d, ev_retW, ev_drop, ev_sif, ev_set, ev_par, par_2, ev_for, ev_sem, ev_semFz, fzP_0, fzP_d, fzP_s, fzP_l, ob_some, ob_none, oif_true, oif_false, mkT2, mkT3, mkL0, mkL1, mkL2, gSub_i, gAdd_i, gLt_i, gLe_i, gGt_i, gGe_i, gEq_i, gNe_i, frIx0, frIx1, List.length_cons, List.length_nil, List.map_cons, List.map_nil, List.cons_append, List.nil_append, List.append_nil, List.replicate, List.getElem?_cons_zero, List.getElem?_cons_succ, List.set_cons_zero, List.set_cons_succ, if_true, if_false, Nat.reduceAdd, Nat.reduceSub, Bool.and_true, Bool.true_and, Bool.not_true, Bool.not_false, hb0, nf_i, divm_i t0 t1]) (by simp only [ev_var, ev_D, ev_bin, ev_un, ev_args0, ev_args, ev_fn, ev_call, ev_callK, ev_if, ev_B1, asB_d, ev_and, ev_or, ev_not, ev_mand, ev_mor, ev_true, ev_chain, ev_tup, ev_lst, ev_old, ev_new, ev_items, ev_lc, ev_seq, seq_nx, seq_rt, seq_bk, seq_ct, ev_next, ev_break, ev_ret, fz_d, ev_retW, ev_drop, ev_sif, ev_set, ev_par, par_2, ev_for, ev_sem, ev_semFz, fzP_0, fzP_d, fzP_s, fzP_l, ob_some, ob_none, oif_true, oif_false, mkT2, mkT3, mkL0, mkL1, mkL2, gSub_i, gAdd_i, gLt_i, gLe_i, gGt_i, gGe_i, gEq_i, gNe_i, frIx0, frIx1, List.length_cons, List.length_nil, List.map_cons, List.map_nil, List.cons_append, List.nil_append, List.append_nil, List.replicate, List.getElem?_cons_zero, List.getElem?_cons_succ, List.set_cons_zero, List.set_cons_succ, if_true, if_false, Nat.reduceAdd, Nat.reduceSub, Bool.and_true, Bool.true_and, Bool.not_true, Bool.not_false]) (by simp only [ev_var, ev_D, ev_bin, ev_un, ev_args0, ev_args, ev_fn, ev_call, ev_callK, ev_if, ev_B1, asB_d, ev_and, ev_or, ev_not, ev_mand, ev_mor, ev_true, ev_chain, ev_tup, ev_lst, ev_old, ev_new, ev_items, ev_lc, ev_seq, seq_nx, seq_rt, seq_bk, seq_ct, ev_next, ev_break, ev_ret, fz_d, ev_retW, ev_drop, ev_sif, ev_set, ev_par, par_2, ev_for, ev_sem, ev_semFz, fzP_0, fzP_d, fzP_s, fzP_l, ob_some, ob_none, oif_true, oif_false, mkT2, mkT3, mkL0, mkL1, mkL2, gSub_i, gAdd_i, gLt_i, gLe_i, gGt_i, gGe_i, gEq_i, gNe_i, frIx0, frIx1, List.length_cons, List.length_nil, List.map_cons, List.map_nil, List.cons_append, List.nil_append, List.append_nil, List.replicate, List.getElem?_cons_zero, List.getElem?_cons_succ, List.set_cons_zero, List.set_cons_succ, if_true, if_false, Nat.reduceAdd, Nat.reduceSub, Bool.and_true, Bool.true_and, Bool.not_true, Bool.not_false]) hM rfl
    refine ⟨(a % top).toNat, ?_, ?_⟩
    · have := Int.emod_lt_of_pos a t0
      omega
    have hv : (((a % top).toNat : Nat) : Int) = a % top := Int.toNat_of_nonneg (Int.emod_nonneg _ (by omega))
    refine ⟨_, ?_, ⟨a / top, i, c, set_get hM⟩, ⟨_, rfl⟩⟩
    unfold f__law_grab
    simp only [ev_var, ev_D, ev_bin, ev_un, ev_args0, ev_args, ev_fn, ev_call, ev_callK, ev_if, ev_B1, asB_d, ev_and, ev_or, ev_not, ev_mand, ev_mor, ev_true, ev_chain, ev_tup, ev_lst, ev_old, ev_new, ev_items, ev_lc, ev_seq, seq_nx, seq_rt, seq_bk, seq_ct, ev_next, ev_break, ev_ret, fz_d, ev_retW, ev_drop, ev_sif, ev_set, ev_par, par_2, ev_for, ev_sem, ev_semFz, fzP_0, fzP_d, fzP_s, fzP_l, ob_some, ob_none, oif_true, oif_false, mkT2, mkT3, mkL0, mkL1, mkL2, gSub_i, gAdd_i, gLt_i, gLe_i, gGt_i, gGe_i, gEq_i, gNe_i, frIx0, frIx1, List.length_cons, List.length_nil, List.map_cons, List.map_nil, List.cons_append, List.nil_append, List.append_nil, List.replicate, List.getElem?_cons_zero, List.getElem?_cons_succ, List.set_cons_zero, List.set_cons_succ, if_true, if_false, Nat.reduceAdd, Nat.reduceSub, Bool.and_true, Bool.true_and, Bool.not_true, Bool.not_false, hb0, nf_i, hc, decide_true, x3, hv]
  · have x1 : sSub (mVar 0) (mD true (.int 2)) (mBin gAdd (mBin gIx (mVar 0) (mD true (.int 2))) (mD true (.int 1))) [some (.loc j), some (.d r (.int top)), none, none] M = some (.nx, [some (.loc j), some (.d r (.int top)), none, none], M.set j (.lst true [.int a, .int i, .int (c + 1)])) :=
      sub_at (t := true) (u := true) (s := true) (x := .int (c + 1)) (n := j) (j := 2) (k := 2) (xs := [.int a, .int i, .int c]) (by simp only [ev_var, ev_D, ev_bin, ev_un, ev_args0, ev_args, ev_fn, ev_call, ev_callK, ev_if, ev_B1, asB_d, ev_and, ev_or, ev_not, ev_mand, ev_mor, ev_true, ev_chain, ev_tup, ev_lst, ev_old, ev_new, ev_items, ev_lc, ev_seq, seq_nx, seq_rt, seq_bk, seq_ct, ev_next, ev_break, ev_ret, fz_d, ev_retW, ev_drop, ev_sif, ev_set, ev_par, par_2, ev_for, ev_sem, ev_semFz, fzP_0, fzP_d, fzP_s, fzP_l, ob_some, ob_none, oif_true, oif_false, mkT2, mkT3, mkL0, mkL1, mkL2, gSub_i, gAdd_i, gLt_i, gLe_i, gGt_i, gGe_i, gEq_i, gNe_i, frIx0, frIx1, List.length_cons, List.length_nil, List.map_cons, List.map_nil, List.cons_append, List.nil_append, List.append_nil, List.replicate, List.getElem?_cons_zero, List.getElem?_cons_succ, List.set_cons_zero, List.set_cons_succ, if_true, if_false, Nat.reduceAdd, Nat.reduceSub, Bool.and_true, Bool.true_and, Bool.not_true, Bool.not_false, loc_ix hM (k := 2) (y := .int c) rfl, nf_i]) (by simp only [ev_var, ev_D, ev_bin, ev_un, ev_args0, ev_args, ev_fn, ev_call, ev_callK, ev_if, ev_B1, asB_d, ev_and, ev_or, ev_not, ev_mand, ev_mor, ev_true, ev_chain, ev_tup, ev_lst, ev_old, ev_new, ev_items, ev_lc, ev_seq, seq_nx, seq_rt, seq_bk, seq_ct, ev_next, ev_break, ev_ret, fz_d, ev_retW, ev_drop, ev_sif, ev_set, ev_par, par_2, ev_for, ev_sem, ev_semFz, fzP_0, fzP_d, fzP_s, fzP_l, ob_some, ob_none, oif_true, oif_false, mkT2, mkT3, mkL0, mkL1, mkL2, gSub_i, gAdd_i, gLt_i, gLe_i, gGt_i, gGe_i, gEq_i, gNe_i, frIx0, frIx1, List.length_cons, List.length_nil, List.map_cons, List.map_nil, List.cons_append, List.nil_append, List.append_nil, List.replicate, List.getElem?_cons_zero, List.getElem?_cons_succ, List.set_cons_zero, List.set_cons_succ, if_true, if_false, Nat.reduceAdd, Nat.reduceSub, Bool.and_true, Bool.true_and, Bool.not_true, Bool.not_false]) (by simp only [ev_var, ev_D, ev_bin, ev_un, ev_args0, ev_args, ev_fn, ev_call, ev_callK, ev_if, ev_B1, asB_d, ev_and, ev_or, ev_not, ev_mand, ev_mor, ev_true, ev_chain, ev_tup, ev_lst, ev_old, ev_new, ev_items, ev_lc, ev_seq, seq_nx, seq_rt, seq_bk, seq_ct, ev_next, ev_break, ev_ret, fz_d, ev_retW, ev_drop, ev_sif, ev_set, ev_par, par_2, ev_for, ev_sem, ev_semFz, fzP_0, fzP_d, fzP_s, fzP_l, ob_some, ob_none, oif_true, oif_false, mkT2, mkT3, mkL0, mkL1, mkL2, gSub_i, gAdd_i, gLt_i, gLe_i, gGt_i, gGe_i, gEq_i, gNe_i, frIx0, frIx1, List.length_cons, List.length_nil, List.map_cons, List.map_nil, List.cons_append, List.nil_append, List.append_nil, List.replicate, List.getElem?_cons_zero, List.getElem?_cons_succ, List.set_cons_zero, List.set_cons_succ, if_true, if_false, Nat.reduceAdd, Nat.reduceSub, Bool.and_true, Bool.true_and, Bool.not_true, Bool.not_false]) hM rfl
    have hM1 := set_get (o := .lst true [.int a, .int i, .int (c + 1)]) hM
    generalize hN : M.set j (.lst true [.int a, .int i, .int (c + 1)]) = M1 at x1 hM1
    have hm0 : 0 ≤ i / 8 % 41011 := Int.emod_nonneg _ (by decide)
    have hm1 : i / 8 % 41011 < 41011 := Int.emod_lt_of_pos _ (by decide)
    have hmul : CMulE i (i / 8 % 41011 + 79) := cmul_r (by omega)
    have x2 : sSet 3 (mBin gMul (mBin gIx (mVar 0) (mD true (.int 1))) (mBin gAdd (mBin gMod (mFn bInt (mArgs [(mBin gFdiv (mBin gIx (mVar 0) (mD true (.int 1))) (mD true (.int 8)))])) (mD true (.int 41011))) (mD true (.int 79)))) [some (.loc j), some (.d r (.int top)), none, none] M1 = some (.nx, [some (.loc j), some (.d r (.int top)), none, some (.d true (.int (i * (i / 8 % 41011 + 79))))], M1) := by
      simp only [ev_var, ev_D, ev_bin, ev_un, ev_args0, ev_args, ev_fn, ev_call, ev_callK, ev_if, ev_B1, asB_d, ev_and, ev_or, ev_not, ev_mand, ev_mor, ev_true, ev_chain, ev_tup, ev_lst, ev_old, ev_new, ev_items, ev_lc, ev_seq, seq_nx, seq_rt, seq_bk, seq_ct, ev_next, ev_break, ev_ret, fz_d, ev_retW, ev_drop, ev_sif, ev_set, ev_par, par_2, ev_for, ev_sem, ev_semFz, fzP_0, fzP_d, fzP_s, fzP_l, ob_some, ob_none, oif_true, oif_false, mkT2, mkT3, mkL0, mkL1, mkL2, gSub_i, gAdd_i, gLt_i, gLe_i, gGt_i, gGe_i, gEq_i, gNe_i, frIx0, frIx1, List.length_cons, List.length_nil, List.map_cons, List.map_nil, List.cons_append, List.nil_append, List.append_nil, List.replicate, List.getElem?_cons_zero, List.getElem?_cons_succ, List.set_cons_zero, List.set_cons_succ, if_true, if_false, Nat.reduceAdd, Nat.reduceSub, Bool.and_true, Bool.true_and, Bool.not_true, Bool.not_false, loc_ix hM1 (k := 1) (y := .int i) rfl, nf_i, gFdiv_l (y := 8) (by decide) (by decide), bInt_i, gMod_i (y := 41011) (by decide), gMul_i hmul]
    have x4 : sSub (mVar 0) (mD true (.int 1)) (mBin gMod (mFn bInt (mArgs [(mBin gAdd (mBin gAdd (mVar 3) (mBin gMul (mD true (.int 10079)) (mBin gIx (mVar 0) (mD true (.int 2))))) (mD true (.int 43)))])) (mD true (.int 2147482817))) [some (.loc j), some (.d r (.int top)), none, some (.d true (.int (i * (i / 8 % 41011 + 79))))] M1 = some (.nx, [some (.loc j), some (.d r (.int top)), none, some (.d true (.int (i * (i / 8 % 41011 + 79))))], M1.set j (.lst true [.int a, .int ((i * (i / 8 % 41011 + 79) + 10079 * (c + 1) + 43) % 2147482817), .int (c + 1)])) :=
      sub_at (t := true) (u := true) (s := true) (x := .int ((i * (i / 8 % 41011 + 79) + 10079 * (c + 1) + 43) % 2147482817)) (n := j) (j := 1) (k := 1) (xs := [.int a, .int i, .int (c + 1)]) (by simp only [ev_var, ev_D, ev_bin, ev_un, ev_args0, ev_args, ev_fn, ev_call, ev_callK, ev_if, ev_B1, asB_d, ev_and, ev_or, ev_not, ev_mand, ev_mor, ev_true, ev_chain, ev_tup, ev_lst, ev_old, ev_new, ev_items, ev_lc, ev_seq, seq_nx, seq_rt, seq_bk, seq_ct, ev_next, ev_break, ev_ret, fz_d, ev_retW, ev_drop, ev_sif, ev_set, ev_par, par_2, ev_for, ev_sem, ev_semFz, fzP_0, fzP_d, fzP_s, fzP_l, ob_some, ob_none, oif_true, oif_false, mkT2, mkT3, mkL0, mkL1, mkL2, gSub_i, gAdd_i, gLt_i, gLe_i, gGt_i, gGe_i, gEq_i, gNe_i, frIx0, frIx1, List.length_cons, List.length_nil, List.map_cons, List.map_nil, List.cons_append, List.nil_append, List.append_nil, List.replicate, List.getElem?_cons_zero, List.getElem?_cons_succ, List.set_cons_zero, List.set_cons_succ, if_true, if_false, Nat.reduceAdd, Nat.reduceSub, Bool.and_true, Bool.true_and, Bool.not_true, Bool.not_false, loc_ix hM1 (k := 2) (y := .int (c + 1)) rfl, nf_i, gMul_l (x := 10079) (by decide) (by decide), bInt_i, gMod_i (y := 2147482817) (by decide)]) (by simp only [ev_var, ev_D, ev_bin, ev_un, ev_args0, ev_args, ev_fn, ev_call, ev_callK, ev_if, ev_B1, asB_d, ev_and, ev_or, ev_not, ev_mand, ev_mor, ev_true, ev_chain, ev_tup, ev_lst, ev_old, ev_new, ev_items, ev_lc, ev_seq, seq_nx, seq_rt, seq_bk, seq_ct, ev_next, ev_break, ev_ret, fz_d, ev_retW, ev_drop, ev_sif, ev_set, ev_par, par_2, ev_for, ev_sem, ev_semFz, fzP_0, fzP_d, fzP_s, fzP_l, ob_some, ob_none, oif_true, oif_false, mkT2, mkT3, mkL0, mkL1, mkL2, gSub_i, gAdd_i, gLt_i, gLe_i, gGt_i, gGe_i, gEq_i, gNe_i, frIx0, frIx1, List.length_cons, List.length_nil, List.map_cons, List.map_nil, List.cons_append, List.nil_append, List.append_nil, List.replicate, List.getElem?_cons_zero, List.getElem?_cons_succ, List.set_cons_zero, List.set_cons_succ, if_true, if_false, Nat.reduceAdd, Nat.reduceSub, Bool.and_true, Bool.true_and, Bool.not_true, Bool.not_false]) (by simp only [ev_var, ev_D, ev_bin, ev_un, ev_args0, ev_args, ev_fn, ev_call, ev_callK, ev_if, ev_B1, asB_d, ev_and, ev_or, ev_not, ev_mand, ev_mor, ev_true, ev_chain, ev_tup, ev_lst, ev_old, ev_new, ev_items, ev_lc, ev_seq, seq_nx, seq_rt, seq_bk, seq_ct, ev_next, ev_break, ev_ret, fz_d, ev_retW, ev_drop, ev_sif, ev_set, ev_par, par_2, ev_for, ev_sem, ev_semFz, fzP_0, fzP_d, fzP_s, fzP_l, ob_some, ob_none, oif_true, oif_false, mkT2, mkT3, mkL0, mkL1, mkL2, gSub_i, gAdd_i, gLt_i, gLe_i, gGt_i, gGe_i, gEq_i, gNe_i, frIx0, frIx1, List.length_cons, List.length_nil, List.map_cons, List.map_nil, List.cons_append, List.nil_append, List.append_nil, List.replicate, List.getElem?_cons_zero, List.getElem?_cons_succ, List.set_cons_zero, List.set_cons_succ, if_true, if_false, Nat.reduceAdd, Nat.reduceSub, Bool.and_true, Bool.true_and, Bool.not_true, Bool.not_false]) hM1 rfl
    generalize (i * (i / 8 % 41011 + 79) + 10079 * (c + 1) + 43) % 2147482817 = B at x4
    have hM2 := set_get (o := .lst true [.int a, .int B, .int (c + 1)]) hM1
    generalize hP : M1.set j (.lst true [.int a, .int B, .int (c + 1)]) = M2 at x4 hM2
    have hb1 := loc_ix hM2 (s := true) (k := 1) (y := .int B) rfl
    refine ⟨((B / 8192) % top).toNat, ?_, ?_⟩
    · have := Int.emod_lt_of_pos (B / 8192) t0
      omega
    have hv : ((((B / 8192) % top).toNat : Nat) : Int) = (B / 8192) % top := Int.toNat_of_nonneg (Int.emod_nonneg _ (by omega))
    refine ⟨M2, ?_, ⟨a, B, c + 1, hM2⟩, ⟨.lst true [.int a, .int B, .int (c + 1)], by rw [← hP, ← hN, List.set_set]⟩⟩
    unfold f__law_grab
    simp only [ev_var, ev_D, ev_bin, ev_un, ev_args0, ev_args, ev_fn, ev_call, ev_callK, ev_if, ev_B1, asB_d, ev_and, ev_or, ev_not, ev_mand, ev_mor, ev_true, ev_chain, ev_tup, ev_lst, ev_old, ev_new, ev_items, ev_lc, ev_seq, seq_nx, seq_rt, seq_bk, seq_ct, ev_next, ev_break, ev_ret, fz_d, ev_retW, ev_drop, ev_sif, ev_set, ev_par, par_2, ev_for, ev_sem, ev_semFz, fzP_0, fzP_d, fzP_s, fzP_l, ob_some, ob_none, oif_true, oif_false, mkT2, mkT3, mkL0, mkL1, mkL2, gSub_i, gAdd_i, gLt_i, gLe_i, gGt_i, gGe_i, gEq_i, gNe_i, frIx0, frIx1, List.length_cons, List.length_nil, List.map_cons, List.map_nil, List.cons_append, List.nil_append, List.append_nil, List.replicate, List.getElem?_cons_zero, List.getElem?_cons_succ, List.set_cons_zero, List.set_cons_succ, if_true, if_false, Nat.reduceAdd, Nat.reduceSub, Bool.and_true, Bool.true_and, Bool.not_true, Bool.not_false, hb0, nf_i, hc, decide_false, x1, ↓x2, x4, hb1, gFdiv_l (y := 8192) (by decide) (by decide), bInt_i, gMod_i t0, hv]
theorem c_oneg {r : Bool} {α : Type} {enc : α → PD} {l : List α} {j : Nat} {M : MS} (F : Fk j M) (h0 : l ≠ []) (h1 : l.length < 1000) : ∃ z, z ∈ l ∧ ∃ M', f__law_one [.loc j, .d r (.list (l.map enc))] M = some (.d (nf r (enc z)) (enc z), M') ∧ Fk j M' ∧ ∃ o, M' = M.set j o := by
  obtain ⟨v, hv, M', e, F'⟩ := c_grab (r := true) F (List.length_pos_iff.mpr h0) h1
  refine ⟨l[v], List.getElem_mem hv, M', ?_, F'⟩
  unfold f__law_one
  simp only [ev_var, ev_D, ev_bin, ev_un, ev_args0, ev_args, ev_fn, ev_call, ev_callK, ev_if, ev_B1, asB_d, ev_and, ev_or, ev_not, ev_mand, ev_mor, ev_true, ev_chain, ev_tup, ev_lst, ev_old, ev_new, ev_items, ev_lc, ev_seq, seq_nx, seq_rt, seq_bk, seq_ct, ev_next, ev_break, ev_ret, fz_d, ev_retW, ev_drop, ev_sif, ev_set, ev_par, par_2, ev_for, ev_sem, ev_semFz, fzP_0, fzP_d, fzP_s, fzP_l, ob_some, ob_none, oif_true, oif_false, mkT2, mkT3, mkL0, mkL1, mkL2, gSub_i, gAdd_i, gLt_i, gLe_i, gGt_i, gGe_i, gEq_i, gNe_i, frIx0, frIx1, List.length_cons, List.length_nil, List.map_cons, List.map_nil, List.cons_append, List.nil_append, List.append_nil, List.replicate, List.getElem?_cons_zero, List.getElem?_cons_succ, List.set_cons_zero, List.set_cons_succ, if_true, if_false, Nat.reduceAdd, Nat.reduceSub, Bool.and_true, Bool.true_and, Bool.not_true, Bool.not_false, bLen_l, List.length_map, e, gIx_at rfl hv]
theorem c_onegT {r : Bool} {α : Type} {enc : α → PD} {l : List α} {j : Nat} {M : MS} (F : Fk j M) (h0 : l ≠ []) (h1 : l.length < 1000) : ∃ z, z ∈ l ∧ ∃ M', f__law_one [.loc j, .d r (.tuple (l.map enc))] M = some (.d (nf r (enc z)) (enc z), M') ∧ Fk j M' ∧ ∃ o, M' = M.set j o := by
  obtain ⟨v, hv, M', e, F'⟩ := c_grab (r := true) F (List.length_pos_iff.mpr h0) h1
  refine ⟨l[v], List.getElem_mem hv, M', ?_, F'⟩
  unfold f__law_one
  simp only [ev_var, ev_D, ev_bin, ev_un, ev_args0, ev_args, ev_fn, ev_call, ev_callK, ev_if, ev_B1, asB_d, ev_and, ev_or, ev_not, ev_mand, ev_mor, ev_true, ev_chain, ev_tup, ev_lst, ev_old, ev_new, ev_items, ev_lc, ev_seq, seq_nx, seq_rt, seq_bk, seq_ct, ev_next, ev_break, ev_ret, fz_d, ev_retW, ev_drop, ev_sif, ev_set, ev_par, par_2, ev_for, ev_sem, ev_semFz, fzP_0, fzP_d, fzP_s, fzP_l, ob_some, ob_none, oif_true, oif_false, mkT2, mkT3, mkL0, mkL1, mkL2, gSub_i, gAdd_i, gLt_i, gLe_i, gGt_i, gGe_i, gEq_i, gNe_i, frIx0, frIx1, List.length_cons, List.length_nil, List.map_cons, List.map_nil, List.cons_append, List.nil_append, List.append_nil, List.replicate, List.getElem?_cons_zero, List.getElem?_cons_succ, List.set_cons_zero, List.set_cons_succ, if_true, if_false, Nat.reduceAdd, Nat.reduceSub, Bool.and_true, Bool.true_and, Bool.not_true, Bool.not_false, bLen_t, List.length_map, e, gIxT_at rfl hv]
theorem w_frac {o0 o1 : Option W} : ∀ (b a : Nat) (x y : Bool) (M : MS), ∃ n x' y', whileN (tB1 (mBin gGt (mVar 3) (mD true (.int 0)))) (sSeq (sPar 2 3 (mArgs [(mVar 3), (mBin gMod (mFn bInt (mArgs [(mVar 2)])) (mVar 3))])) sNext) n [o0, o1, some (.d x (.int a)), some (.d y (.int b))] M
    = some (.nx, [o0, o1, some (.d x' (.int (a.gcd b : Nat))), some (.d y' (.int 0))], M) := by
  intro b
  induction b using Nat.strongRecOn with
  | _ b ih =>
    intro a x y M
    by_cases h : b = 0
    · subst h
      refine ⟨1, x, y, ?_⟩
      simp [whileN, tB1, mBin, mVar, mD, gGt, gI]
    · have hb : 0 < b := Nat.pos_of_ne_zero h
      obtain ⟨n, x', y', hn⟩ := ih (a % b) (Nat.mod_lt _ hb) b y true M
      refine ⟨n + 1, x', y', ?_⟩
      rw [gcd_step hb]
      rw [← hn]
      have h1 : decide ((0 : Int) < (b : Int)) = true := by simp; omega
      simp only [whileN, tB1, mBin, mVar, mD, gGt, gI, mArgs, mFn, bInt, gMod, gIC, sSeq, sPar, sNext, List.getElem?_cons_zero, List.getElem?_cons_succ, h1]
      have h2 : (0 : Int) < (b : Int) := by omega
      simp only [h2, if_true]
      rfl
theorem c_frac {c : Nat} {r s : Bool} (a : Int) (b : Nat) (h : b ≠ 0) (z : b < 2 ^ c) (l : c ≤ 8000) (M : MS) : f__law_frac [.d r (.int a), .d s (.int (b : Int))] M = some (.d true (fr (Rat.normalize a b h)), M) := by
  have g0 := gcd_pos (a := a.natAbs) h
  have g1 : a.natAbs.gcd b ≤ b := Nat.gcd_le_right _ (Nat.pos_of_ne_zero h)
  have g2 : ∀ i : Int, CDivW i ((a.natAbs.gcd b : Nat) : Int) := fun i => divE (b := c) (by omega) (by rw [Int.natAbs_natCast]; exact Nat.lt_of_le_of_lt g1 z) (by omega)
  obtain ⟨n, x', y', hn⟩ := w_frac (o0 := some (.d r (.int a))) (o1 := some (.d s (.int (b : Int)))) b a.natAbs true s M
  have hw := sWhile_of hn
  unfold f__law_frac
  simp only [ev_var, ev_D, ev_bin, ev_un, ev_args0, ev_args, ev_fn, ev_call, ev_callK, ev_if, ev_B1, asB_d, ev_and, ev_or, ev_not, ev_mand, ev_mor, ev_true, ev_chain, ev_tup, ev_lst, ev_old, ev_new, ev_items, ev_lc, ev_seq, seq_nx, seq_rt, seq_bk, seq_ct, ev_next, ev_break, ev_ret, fz_d, ev_retW, ev_drop, ev_sif, ev_set, ev_par, par_2, ev_for, ev_sem, ev_semFz, fzP_0, fzP_d, fzP_s, fzP_l, ob_some, ob_none, oif_true, oif_false, mkT2, mkT3, mkL0, mkL1, mkL2, gSub_i, gAdd_i, gLt_i, gLe_i, gGt_i, gGe_i, gEq_i, gNe_i, frIx0, frIx1, List.length_cons, List.length_nil, List.map_cons, List.map_nil, List.cons_append, List.nil_append, List.append_nil, List.replicate, List.getElem?_cons_zero, List.getElem?_cons_succ, List.set_cons_zero, List.set_cons_succ, if_true, if_false, Nat.reduceAdd, Nat.reduceSub, Bool.and_true, Bool.true_and, Bool.not_true, Bool.not_false, bAbs_i, hw, gFdiv_i (g2 _)]
  unfold fr
  rw [norm_num, norm_den]
  simp
theorem c_fplus {r s : Bool} {p q : Rat} {a b : Nat} (h : Sz a p) (k : Sz b q) (l : a + b ≤ 990) (M : MS) : f__law_plus [.d r (fr p), .d s (fr q)] M = some (.d true (fr (p + q)), M) := by
  have h1 : CMulE p.num q.den := mulE h.1 (by exact k.2) (by omega)
  have h2 : CMulE q.num p.den := mulE k.1 (by exact h.2) (by omega)
  have h3 : CMulE (p.den : Int) (q.den : Int) := mulE (by exact h.2) (by exact k.2) (by omega)
  have h4 : ((p.den : Int) * (q.den : Int)) = ((p.den * q.den : Nat) : Int) := by simp
  have h5 : p.den * q.den < 2 ^ (a + b) := lt2_mul h.2 k.2
  unfold f__law_plus
  simp only [ev_var, ev_D, ev_bin, ev_un, ev_args0, ev_args, ev_fn, ev_call, ev_callK, ev_if, ev_B1, asB_d, ev_and, ev_or, ev_not, ev_mand, ev_mor, ev_true, ev_chain, ev_tup, ev_lst, ev_old, ev_new, ev_items, ev_lc, ev_seq, seq_nx, seq_rt, seq_bk, seq_ct, ev_next, ev_break, ev_ret, fz_d, ev_retW, ev_drop, ev_sif, ev_set, ev_par, par_2, ev_for, ev_sem, ev_semFz, fzP_0, fzP_d, fzP_s, fzP_l, ob_some, ob_none, oif_true, oif_false, mkT2, mkT3, mkL0, mkL1, mkL2, gSub_i, gAdd_i, gLt_i, gLe_i, gGt_i, gGe_i, gEq_i, gNe_i, frIx0, frIx1, List.length_cons, List.length_nil, List.map_cons, List.map_nil, List.cons_append, List.nil_append, List.append_nil, List.replicate, List.getElem?_cons_zero, List.getElem?_cons_succ, List.set_cons_zero, List.set_cons_succ, if_true, if_false, Nat.reduceAdd, Nat.reduceSub, Bool.and_true, Bool.true_and, Bool.not_true, Bool.not_false, gMul_i h1, gMul_i h2, gMul_i h3, h4, c_frac _ _ (Nat.mul_ne_zero p.den_nz q.den_nz) h5 (by omega)]
  rw [Rat.add_def]
theorem c_fminus {r s : Bool} {p q : Rat} {a b : Nat} (h : Sz a p) (k : Sz b q) (l : a + b ≤ 990) (M : MS) : f__law_minus [.d r (fr p), .d s (fr q)] M = some (.d true (fr (p - q)), M) := by
  have h1 : CMulE p.num q.den := mulE h.1 (by exact k.2) (by omega)
  have h2 : CMulE q.num p.den := mulE k.1 (by exact h.2) (by omega)
  have h3 : CMulE (p.den : Int) (q.den : Int) := mulE (by exact h.2) (by exact k.2) (by omega)
  have h4 : ((p.den : Int) * (q.den : Int)) = ((p.den * q.den : Nat) : Int) := by simp
  have h5 : p.den * q.den < 2 ^ (a + b) := lt2_mul h.2 k.2
  unfold f__law_minus
  simp only [ev_var, ev_D, ev_bin, ev_un, ev_args0, ev_args, ev_fn, ev_call, ev_callK, ev_if, ev_B1, asB_d, ev_and, ev_or, ev_not, ev_mand, ev_mor, ev_true, ev_chain, ev_tup, ev_lst, ev_old, ev_new, ev_items, ev_lc, ev_seq, seq_nx, seq_rt, seq_bk, seq_ct, ev_next, ev_break, ev_ret, fz_d, ev_retW, ev_drop, ev_sif, ev_set, ev_par, par_2, ev_for, ev_sem, ev_semFz, fzP_0, fzP_d, fzP_s, fzP_l, ob_some, ob_none, oif_true, oif_false, mkT2, mkT3, mkL0, mkL1, mkL2, gSub_i, gAdd_i, gLt_i, gLe_i, gGt_i, gGe_i, gEq_i, gNe_i, frIx0, frIx1, List.length_cons, List.length_nil, List.map_cons, List.map_nil, List.cons_append, List.nil_append, List.append_nil, List.replicate, List.getElem?_cons_zero, List.getElem?_cons_succ, List.set_cons_zero, List.set_cons_succ, if_true, if_false, Nat.reduceAdd, Nat.reduceSub, Bool.and_true, Bool.true_and, Bool.not_true, Bool.not_false, gMul_i h1, gMul_i h2, gMul_i h3, h4, c_frac _ _ (Nat.mul_ne_zero p.den_nz q.den_nz) h5 (by omega)]
  rw [Rat.sub_def]
theorem c_fby {r s : Bool} {p q : Rat} {a b : Nat} (h : Sz a p) (k : Sz b q) (l : a + b ≤ 990) (M : MS) : f__law_by [.d r (fr p), .d s (fr q)] M = some (.d true (fr (p * q)), M) := by
  have h1 : CMulE p.num q.num := mulE h.1 k.1 (by omega)
  have h3 : CMulE (p.den : Int) (q.den : Int) := mulE (by exact h.2) (by exact k.2) (by omega)
  have h4 : ((p.den : Int) * (q.den : Int)) = ((p.den * q.den : Nat) : Int) := by simp
  have h5 : p.den * q.den < 2 ^ (a + b) := lt2_mul h.2 k.2
  unfold f__law_by
  simp only [ev_var, ev_D, ev_bin, ev_un, ev_args0, ev_args, ev_fn, ev_call, ev_callK, ev_if, ev_B1, asB_d, ev_and, ev_or, ev_not, ev_mand, ev_mor, ev_true, ev_chain, ev_tup, ev_lst, ev_old, ev_new, ev_items, ev_lc, ev_seq, seq_nx, seq_rt, seq_bk, seq_ct, ev_next, ev_break, ev_ret, fz_d, ev_retW, ev_drop, ev_sif, ev_set, ev_par, par_2, ev_for, ev_sem, ev_semFz, fzP_0, fzP_d, fzP_s, fzP_l, ob_some, ob_none, oif_true, oif_false, mkT2, mkT3, mkL0, mkL1, mkL2, gSub_i, gAdd_i, gLt_i, gLe_i, gGt_i, gGe_i, gEq_i, gNe_i, frIx0, frIx1, List.length_cons, List.length_nil, List.map_cons, List.map_nil, List.cons_append, List.nil_append, List.append_nil, List.replicate, List.getElem?_cons_zero, List.getElem?_cons_succ, List.set_cons_zero, List.set_cons_succ, if_true, if_false, Nat.reduceAdd, Nat.reduceSub, Bool.and_true, Bool.true_and, Bool.not_true, Bool.not_false, gMul_i h1, gMul_i h3, h4, c_frac _ _ (Nat.mul_ne_zero p.den_nz q.den_nz) h5 (by omega)]
  rw [Rat.mul_def]
theorem c_funder {r s : Bool} {p q : Rat} {a b : Nat} (h : Sz a p) (k : Sz b q) (l : a + b ≤ 990) (M : MS) : f__law_under [.d r (fr p), .d s (fr q)] M = some (.d true (.bool (decide (p < q))), M) := by
  have h1 : CMulE p.num q.den := mulE h.1 (by exact k.2) (by omega)
  have h2 : CMulE q.num p.den := mulE k.1 (by exact h.2) (by omega)
  unfold f__law_under
  simp only [ev_var, ev_D, ev_bin, ev_un, ev_args0, ev_args, ev_fn, ev_call, ev_callK, ev_if, ev_B1, asB_d, ev_and, ev_or, ev_not, ev_mand, ev_mor, ev_true, ev_chain, ev_tup, ev_lst, ev_old, ev_new, ev_items, ev_lc, ev_seq, seq_nx, seq_rt, seq_bk, seq_ct, ev_next, ev_break, ev_ret, fz_d, ev_retW, ev_drop, ev_sif, ev_set, ev_par, par_2, ev_for, ev_sem, ev_semFz, fzP_0, fzP_d, fzP_s, fzP_l, ob_some, ob_none, oif_true, oif_false, mkT2, mkT3, mkL0, mkL1, mkL2, gSub_i, gAdd_i, gLt_i, gLe_i, gGt_i, gGe_i, gEq_i, gNe_i, frIx0, frIx1, List.length_cons, List.length_nil, List.map_cons, List.map_nil, List.cons_append, List.nil_append, List.append_nil, List.replicate, List.getElem?_cons_zero, List.getElem?_cons_succ, List.set_cons_zero, List.set_cons_succ, if_true, if_false, Nat.reduceAdd, Nat.reduceSub, Bool.and_true, Bool.true_and, Bool.not_true, Bool.not_false, gMul_i h1, gMul_i h2]
  simp only [Rat.lt_iff]
theorem k_fplus (p q : Rat) (h : Sm2 p q) : FnC f__law_plus [.d (fr p), .d (fr q)] (fr (p + q)) := fnc2 fun r s M => ex0 (c_fplus h.1 h.2 (by decide) M)
theorem k_fminus (p q : Rat) (h : Sm2 p q) : FnC f__law_minus [.d (fr p), .d (fr q)] (fr (p - q)) := fnc2 fun r s M => ex0 (c_fminus h.1 h.2 (by decide) M)
theorem k_fby (p q : Rat) (h : Sm2 p q) : FnC f__law_by [.d (fr p), .d (fr q)] (fr (p * q)) := fnc2 fun r s M => ex0 (c_fby h.1 h.2 (by decide) M)
theorem k_funder (p q : Rat) (h : Sm2 p q) : FnC f__law_under [.d (fr p), .d (fr q)] (eB (decide (p < q))) := fnc2 fun r s M => ex0 (c_funder h.1 h.2 (by decide) M)
theorem k_frac (a b : Int) (h : LowOk b) : FnC f__law_frac [.d (eI a), .d (eI b)] (fr (lowQ a b)) := fnc2 fun r s M => by
  obtain ⟨h1, h2⟩ := h
  have e : b = ((b.toNat : Nat) : Int) := by omega
  have h3 : b.toNat ≠ 0 := by omega
  have h4 := c_frac (r := r) (s := s) (c := 900) a b.toNat h3 (by omega) (by decide) M
  rw [← e] at h4
  unfold lowQ
  rw [← Rat.normalize_eq_mkRat h3]
  exact ex0 h4
theorem k_grab (j : Nat) (n : Int) (h : 0 < n ∧ n < 1000) : FnW j f__law_grab [.loc j, .d (eI n)] fun x => ∃ v : Int, (0 ≤ v ∧ v < n) ∧ x = eI v := fun ws M hd F => by
  cases hd with
  | l hd =>
    cases hd with
    | @d r _ _ _ hd =>
      cases hd
      obtain ⟨v, hv, M', e, F', o⟩ := c_grab (r := r) (top := n.toNat) F (by omega) (by omega)
      refine ⟨true, eI v, M', ?_, ⟨v, ⟨by omega, by omega⟩, rfl⟩, stepW_set F' o⟩
      have en : ((n.toNat : Nat) : Int) = n := by omega
      rw [en] at e
      exact e
theorem k_gL {j : Nat} {α : Type} (enc : α → PD) (l : List α) (h : l ≠ [] ∧ l.length < 1000) : FnW j f__law_one [.loc j, .d (eL enc l)] fun x => ∃ v, v ∈ l ∧ x = enc v := fun ws M hd F => by
  cases hd with
  | l hd =>
    cases hd with
    | @d r _ _ _ hd =>
      cases hd
      obtain ⟨z, hz, M', e, F', o⟩ := c_oneg (r := r) (enc := enc) F h.1 h.2
      exact ⟨_, _, M', e, ⟨z, hz, rfl⟩, stepW_set F' o⟩
theorem k_gT {j : Nat} {α : Type} (enc : α → PD) (l : List α) (h : l ≠ [] ∧ l.length < 1000) : FnW j f__law_one [.loc j, .d (eT enc l)] fun x => ∃ v, v ∈ l ∧ x = enc v := fun ws M hd F => by
  cases hd with
  | l hd =>
    cases hd with
    | @d r _ _ _ hd =>
      cases hd
      obtain ⟨z, hz, M', e, F', o⟩ := c_onegT (r := r) (enc := enc) F h.1 h.2
      exact ⟨_, _, M', e, ⟨z, hz, rfl⟩, stepW_set F' o⟩
theorem c_chest {ns : List Int} {k : Nat} (hk : k < 1000) (M : MS) : ∃ a c : Int, f__law_chest [.s (ns.map PyData.int), .d true (.int k)] M = some (.loc M.length, M ++ [.lst true [.int a, .int c, .int 1]]) := by
  obtain ⟨own, ho⟩ : ∃ own : Int, mIf (tB1 (mBin gLt (mVar 1) (mFn bLen (mArgs [(mVar 0)])))) (mBin gIx (mVar 0) (mVar 1)) (mD true (.int 0)) [some (.s (ns.map PyData.int)), some (.d true (.int k)), none, none, none] M = some (.d true (.int own), M) := by
    by_cases h : k < ns.length
    · refine ⟨ns[k], ?_⟩
      have h1 : (k : Int) < (ns.length : Int) := by omega
      simp only [ev_var, ev_D, ev_bin, ev_un, ev_args0, ev_args, ev_fn, ev_call, ev_callK, ev_if, ev_B1, asB_d, ev_and, ev_or, ev_not, ev_mand, ev_mor, ev_true, ev_chain, ev_tup, ev_lst, ev_old, ev_new, ev_items, ev_lc, ev_seq, seq_nx, seq_rt, seq_bk, seq_ct, ev_next, ev_break, ev_ret, fz_d, ev_retW, ev_drop, ev_sif, ev_set, ev_par, par_2, ev_for, ev_sem, ev_semFz, fzP_0, fzP_d, fzP_s, fzP_l, ob_some, ob_none, oif_true, oif_false, mkT2, mkT3, mkL0, mkL1, mkL2, gSub_i, gAdd_i, gLt_i, gLe_i, gGt_i, gGe_i, gEq_i, gNe_i, frIx0, frIx1, List.length_cons, List.length_nil, List.map_cons, List.map_nil, List.cons_append, List.nil_append, List.append_nil, List.replicate, List.getElem?_cons_zero, List.getElem?_cons_succ, List.set_cons_zero, List.set_cons_succ, if_true, if_false, Nat.reduceAdd, Nat.reduceSub, Bool.and_true, Bool.true_and, Bool.not_true, Bool.not_false, bLen_s, List.length_map, h1, decide_true, ix_s h]
    · refine ⟨0, ?_⟩
      have h1 : ¬((k : Int) < (ns.length : Int)) := by omega
      simp only [ev_var, ev_D, ev_bin, ev_un, ev_args0, ev_args, ev_fn, ev_call, ev_callK, ev_if, ev_B1, asB_d, ev_and, ev_or, ev_not, ev_mand, ev_mor, ev_true, ev_chain, ev_tup, ev_lst, ev_old, ev_new, ev_items, ev_lc, ev_seq, seq_nx, seq_rt, seq_bk, seq_ct, ev_next, ev_break, ev_ret, fz_d, ev_retW, ev_drop, ev_sif, ev_set, ev_par, par_2, ev_for, ev_sem, ev_semFz, fzP_0, fzP_d, fzP_s, fzP_l, ob_some, ob_none, oif_true, oif_false, mkT2, mkT3, mkL0, mkL1, mkL2, gSub_i, gAdd_i, gLt_i, gLe_i, gGt_i, gGe_i, gEq_i, gNe_i, frIx0, frIx1, List.length_cons, List.length_nil, List.map_cons, List.map_nil, List.cons_append, List.nil_append, List.append_nil, List.replicate, List.getElem?_cons_zero, List.getElem?_cons_succ, List.set_cons_zero, List.set_cons_succ, if_true, if_false, Nat.reduceAdd, Nat.reduceSub, Bool.and_true, Bool.true_and, Bool.not_true, Bool.not_false, bLen_s, List.length_map, h1, decide_false]
  obtain ⟨n, hn8, hn, hnv⟩ : ∃ n : Nat, n ≤ 8 ∧ n ≤ ns.length ∧ (n : Int) = min ((ns.length : Nat) : Int) 8 := ⟨min ns.length 8, by omega, by omega, by omega⟩
  have hmin : bMin [.d true (.int ((ns.length : Nat) : Int)), .d true (.int 8)] M = some (.d true (.int (n : Int)), M) := by
    show some (W.d true (PyData.int (if (8 : Int) < ((ns.length : Nat) : Int) then 8 else ((ns.length : Nat) : Int))), M) = _
    have : (if (8 : Int) < ((ns.length : Nat) : Int) then 8 else ((ns.length : Nat) : Int)) = (n : Int) := by rw [hnv]; split <;> omega
    rw [this]
  have hr : rgK ([.d true (.int (n : Int))], M) = some ((true, (List.range n).map nE), M) := rgK_n (by omega)
  have hf := for_inv (t := true) (g := gNm 4) (b := (sSeq (sSet 3 (mBin gMod (mFn bInt (mArgs [(mBin gAdd (mBin gAdd (mBin gMul (mVar 3) (mBin gAdd (mD true (.int 30211)) (mBin gMul (mD true (.int 30)) (mVar 4)))) (mBin gMul (mD true (.int 67)) (mBin gIx (mVar 0) (mVar 4)))) (mD true (.int 21011)))])) (mD true (.int 2147482817)))) sNext)) (enc := nE)
    (fun done Δ M' => M' = M ∧ ∃ (m : Int) (o : Option W), Δ = [some (.s (ns.map PyData.int)), some (.d true (.int k)), some (.d true (.int own)), some (.d true (.int m)), o]) (List.range n) (by
      intro done a rest e Δ M' hP
      obtain ⟨rfl, m, o, rfl⟩ := hP
      have ha : a < n := List.mem_range.mp (by rw [e]; simp)
      have hc : CMulE m (30211 + 30 * (a : Int)) := cmul_r (by omega)
      refine ⟨_, tg_nm, ?_⟩
      simp only [ev_var, ev_D, ev_bin, ev_un, ev_args0, ev_args, ev_fn, ev_call, ev_callK, ev_if, ev_B1, asB_d, ev_and, ev_or, ev_not, ev_mand, ev_mor, ev_true, ev_chain, ev_tup, ev_lst, ev_old, ev_new, ev_items, ev_lc, ev_seq, seq_nx, seq_rt, seq_bk, seq_ct, ev_next, ev_break, ev_ret, fz_d, ev_retW, ev_drop, ev_sif, ev_set, ev_par, par_2, ev_for, ev_sem, ev_semFz, fzP_0, fzP_d, fzP_s, fzP_l, ob_some, ob_none, oif_true, oif_false, mkT2, mkT3, mkL0, mkL1, mkL2, gSub_i, gAdd_i, gLt_i, gLe_i, gGt_i, gGe_i, gEq_i, gNe_i, frIx0, frIx1, List.length_cons, List.length_nil, List.map_cons, List.map_nil, List.cons_append, List.nil_append, List.append_nil, List.replicate, List.getElem?_cons_zero, List.getElem?_cons_succ, List.set_cons_zero, List.set_cons_succ, if_true, if_false, Nat.reduceAdd, Nat.reduceSub, Bool.and_true, Bool.true_and, Bool.not_true, Bool.not_false, nf_nE]
      unfold nE
      simp only [ev_var, ev_D, ev_bin, ev_un, ev_args0, ev_args, ev_fn, ev_call, ev_callK, ev_if, ev_B1, asB_d, ev_and, ev_or, ev_not, ev_mand, ev_mor, ev_true, ev_chain, ev_tup, ev_lst, ev_old, ev_new, ev_items, ev_lc, ev_seq, seq_nx, seq_rt, seq_bk, seq_ct, ev_next, ev_break, ev_ret, fz_d, ev_retW, ev_drop, ev_sif, ev_set, ev_par, par_2, ev_for, ev_sem, ev_semFz, fzP_0, fzP_d, fzP_s, fzP_l, ob_some, ob_none, oif_true, oif_false, mkT2, mkT3, mkL0, mkL1, mkL2, gSub_i, gAdd_i, gLt_i, gLe_i, gGt_i, gGe_i, gEq_i, gNe_i, frIx0, frIx1, List.length_cons, List.length_nil, List.map_cons, List.map_nil, List.cons_append, List.nil_append, List.append_nil, List.replicate, List.getElem?_cons_zero, List.getElem?_cons_succ, List.set_cons_zero, List.set_cons_succ, if_true, if_false, Nat.reduceAdd, Nat.reduceSub, Bool.and_true, Bool.true_and, Bool.not_true, Bool.not_false, nf_i, gMul_l (x := 30) (by decide) (by decide), gMul_i hc, ix_s (show a < ns.length by omega), gMul_l (x := 67) (by decide) (by decide), bInt_i, gMod_i (y := 2147482817) (by decide)]
      exact ⟨_, _, rfl, rfl, _, _, rfl⟩) [some (.s (ns.map PyData.int)), some (.d true (.int k)), some (.d true (.int own)), some (.d true (.int (271829 + 21001 * k))), none] M ⟨rfl, _, _, rfl⟩
  obtain ⟨Δ', M', h1, rfl, m, o, rfl⟩ := hf
  obtain ⟨c, hc⟩ : ∃ c : Int, mIf (tOr' (tB1 (mBin gLt (mVar 2) (mD true (.int 0)))) (tB1 (mBin gGe (mVar 2) (mBin gPow (mD true (.int 10)) (mD true (.int 18)))))) (mFn bAbs (mArgs [(mVar 2)])) (mD true (.int 0)) [some (.s (ns.map PyData.int)), some (.d true (.int k)), some (.d true (.int own)), some (.d true (.int m)), o] M' = some (.d true (.int c), M') := by
    have hp : ∀ M : MS, gPow (.d true (.int 10)) (.d true (.int 18)) M = some (.d true (.int (10 ^ 18)), M) := fun M => by
      have h : CPow 10 18 := ⟨by decide, by decide, by decide⟩
      show (if CPow 10 18 then some (W.d true (PyData.int ((10 : Int) ^ (18 : Int).toNat)), M) else none) = _
      rw [if_pos h]
      rfl
    by_cases h : own < 0
    · refine ⟨(own.natAbs : Nat), ?_⟩
      simp only [ev_var, ev_D, ev_bin, ev_un, ev_args0, ev_args, ev_fn, ev_call, ev_callK, ev_if, ev_B1, asB_d, ev_and, ev_or, ev_not, ev_mand, ev_mor, ev_true, ev_chain, ev_tup, ev_lst, ev_old, ev_new, ev_items, ev_lc, ev_seq, seq_nx, seq_rt, seq_bk, seq_ct, ev_next, ev_break, ev_ret, fz_d, ev_retW, ev_drop, ev_sif, ev_set, ev_par, par_2, ev_for, ev_sem, ev_semFz, fzP_0, fzP_d, fzP_s, fzP_l, ob_some, ob_none, oif_true, oif_false, mkT2, mkT3, mkL0, mkL1, mkL2, gSub_i, gAdd_i, gLt_i, gLe_i, gGt_i, gGe_i, gEq_i, gNe_i, frIx0, frIx1, List.length_cons, List.length_nil, List.map_cons, List.map_nil, List.cons_append, List.nil_append, List.append_nil, List.replicate, List.getElem?_cons_zero, List.getElem?_cons_succ, List.set_cons_zero, List.set_cons_succ, if_true, if_false, Nat.reduceAdd, Nat.reduceSub, Bool.and_true, Bool.true_and, Bool.not_true, Bool.not_false, h, decide_true, bAbs_i]
    · by_cases h2 : (10 : Int) ^ 18 ≤ own
      · refine ⟨(own.natAbs : Nat), ?_⟩
        simp only [ev_var, ev_D, ev_bin, ev_un, ev_args0, ev_args, ev_fn, ev_call, ev_callK, ev_if, ev_B1, asB_d, ev_and, ev_or, ev_not, ev_mand, ev_mor, ev_true, ev_chain, ev_tup, ev_lst, ev_old, ev_new, ev_items, ev_lc, ev_seq, seq_nx, seq_rt, seq_bk, seq_ct, ev_next, ev_break, ev_ret, fz_d, ev_retW, ev_drop, ev_sif, ev_set, ev_par, par_2, ev_for, ev_sem, ev_semFz, fzP_0, fzP_d, fzP_s, fzP_l, ob_some, ob_none, oif_true, oif_false, mkT2, mkT3, mkL0, mkL1, mkL2, gSub_i, gAdd_i, gLt_i, gLe_i, gGt_i, gGe_i, gEq_i, gNe_i, frIx0, frIx1, List.length_cons, List.length_nil, List.map_cons, List.map_nil, List.cons_append, List.nil_append, List.append_nil, List.replicate, List.getElem?_cons_zero, List.getElem?_cons_succ, List.set_cons_zero, List.set_cons_succ, if_true, if_false, Nat.reduceAdd, Nat.reduceSub, Bool.and_true, Bool.true_and, Bool.not_true, Bool.not_false, h, h2, hp, decide_true, decide_false, bAbs_i]
      · refine ⟨0, ?_⟩
        simp only [ev_var, ev_D, ev_bin, ev_un, ev_args0, ev_args, ev_fn, ev_call, ev_callK, ev_if, ev_B1, asB_d, ev_and, ev_or, ev_not, ev_mand, ev_mor, ev_true, ev_chain, ev_tup, ev_lst, ev_old, ev_new, ev_items, ev_lc, ev_seq, seq_nx, seq_rt, seq_bk, seq_ct, ev_next, ev_break, ev_ret, fz_d, ev_retW, ev_drop, ev_sif, ev_set, ev_par, par_2, ev_for, ev_sem, ev_semFz, fzP_0, fzP_d, fzP_s, fzP_l, ob_some, ob_none, oif_true, oif_false, mkT2, mkT3, mkL0, mkL1, mkL2, gSub_i, gAdd_i, gLt_i, gLe_i, gGt_i, gGe_i, gEq_i, gNe_i, frIx0, frIx1, List.length_cons, List.length_nil, List.map_cons, List.map_nil, List.cons_append, List.nil_append, List.append_nil, List.replicate, List.getElem?_cons_zero, List.getElem?_cons_succ, List.set_cons_zero, List.set_cons_succ, if_true, if_false, Nat.reduceAdd, Nat.reduceSub, Bool.and_true, Bool.true_and, Bool.not_true, Bool.not_false, h, h2, hp, decide_true, decide_false, bAbs_i]
  refine ⟨c, (m * 41 + own * 947) % 2147482817, ?_⟩
  have mk3 : ∀ (x y z : PD) (M : MS), mkL [.d true x, .d true y, .d true z] M = some ((true, [x, y, z]), M) := fun x y z M => by simp [mkL, fzAll, fz1, ob]
  unfold f__law_chest
  simp only [ev_var, ev_D, ev_bin, ev_un, ev_args0, ev_args, ev_fn, ev_call, ev_callK, ev_if, ev_B1, asB_d, ev_and, ev_or, ev_not, ev_mand, ev_mor, ev_true, ev_chain, ev_tup, ev_lst, ev_old, ev_new, ev_items, ev_lc, ev_seq, seq_nx, seq_rt, seq_bk, seq_ct, ev_next, ev_break, ev_ret, fz_d, ev_retW, ev_drop, ev_sif, ev_set, ev_par, par_2, ev_for, ev_sem, ev_semFz, fzP_0, fzP_d, fzP_s, fzP_l, ob_some, ob_none, oif_true, oif_false, mkT2, mkT3, mkL0, mkL1, mkL2, gSub_i, gAdd_i, gLt_i, gLe_i, gGt_i, gGe_i, gEq_i, gNe_i, frIx0, frIx1, List.length_cons, List.length_nil, List.map_cons, List.map_nil, List.cons_append, List.nil_append, List.append_nil, List.replicate, List.getElem?_cons_zero, List.getElem?_cons_succ, List.set_cons_zero, List.set_cons_succ, if_true, if_false, Nat.reduceAdd, Nat.reduceSub, Bool.and_true, Bool.true_and, Bool.not_true, Bool.not_false, ↓ho, gMul_l (x := 21001) (by decide) (by decide), bLen_s, List.length_map, hmin, ev_rg, hr, h1, ↓hc, gMul_r (y := 41) (by decide) (by decide), gMul_r (y := 947) (by decide) (by decide), bInt_i, gMod_i (y := 2147482817) (by decide), mk3]
theorem k_gM {j : Nat} {α : Type} (enc : α → PD) {l : List α} (h : l ≠ [] ∧ l.length < 1000) : ∀ k M, Fk j M → j ≠ k → (∃ t, M[k]? = some (.lst t (l.map enc)) ∨ M[k]? = some (.fzn t (l.map enc))) → ∃ z, z ∈ l ∧ ∃ s M', f__law_one [.loc j, .loc k] M = some (.d s (enc z), M') ∧ StepW j M M' := by
  intro k M F hjk ⟨t, hk⟩
  obtain ⟨v, hv, M', e, F', o⟩ := c_grab (r := true) F (List.length_pos_iff.mpr h.1) h.2
  have st := stepW_set F' o
  have hk' : M'[k]? = some (.lst t (l.map enc)) ∨ M'[k]? = some (.fzn t (l.map enc)) := hk.imp (st.at_ k _ (Ne.symm hjk)) (st.at_ k _ (Ne.symm hjk))
  have h1 : bLen [.loc k] M = some (.d true (.int l.length), M) := by
    show (match rdQ (.loc k) M with | some (_, xs) => some (W.d true (.int xs.length), M) | none => none) = _
    rw [rdQ_at hk]
    simp
  have h2 : gIx (.loc k) (.d true (.int (v : Int))) M' = some (.d (nf t (enc l[v])) (enc l[v]), M') := by
    rw [gIx_int]
    show (match rdQ (.loc k) M' with | some (t, xs) => (match atI xs (v : Int) with | some y => some (W.d (nf t y) y, M') | none => none) | none => none) = _
    rw [rdQ_at hk']
    simp only []
    rw [atI_nat (j := v) (v := enc l[v]) (by simp [hv])]
  refine ⟨l[v], List.getElem_mem hv, nf t (enc l[v]), M', ?_, st⟩
  unfold f__law_one
  simp only [ev_var, ev_D, ev_bin, ev_un, ev_args0, ev_args, ev_fn, ev_call, ev_callK, ev_if, ev_B1, asB_d, ev_and, ev_or, ev_not, ev_mand, ev_mor, ev_true, ev_chain, ev_tup, ev_lst, ev_old, ev_new, ev_items, ev_lc, ev_seq, seq_nx, seq_rt, seq_bk, seq_ct, ev_next, ev_break, ev_ret, fz_d, ev_retW, ev_drop, ev_sif, ev_set, ev_par, par_2, ev_for, ev_sem, ev_semFz, fzP_0, fzP_d, fzP_s, fzP_l, ob_some, ob_none, oif_true, oif_false, mkT2, mkT3, mkL0, mkL1, mkL2, gSub_i, gAdd_i, gLt_i, gLe_i, gGt_i, gGe_i, gEq_i, gNe_i, frIx0, frIx1, List.length_cons, List.length_nil, List.map_cons, List.map_nil, List.cons_append, List.nil_append, List.append_nil, List.replicate, List.getElem?_cons_zero, List.getElem?_cons_succ, List.set_cons_zero, List.set_cons_succ, if_true, if_false, Nat.reduceAdd, Nat.reduceSub, Bool.and_true, Bool.true_and, Bool.not_true, Bool.not_false, h1, e, h2]

/-! fractions, each once, ascending -/
theorem put_b {M : MS} {k : Nat} {s : Bool} {o0 o1 o4 : Option W} {kvs : List (Rat × Bool)} {q : Rat} (h : M[k]? = some (.dT (kvs.map (eD fr eB)))) (hl : kvs.length ≤ 10000) :
    sSub (mVar 2) (mVar 3) (mD true (.bool true)) [o0, o1, some (.loc k), some (.d s (fr q)), o4] M = some (.nx, [o0, o1, some (.loc k), some (.d s (fr q)), o4], M.set k (.dT ((dput kvs q true).map (eD fr eB)))) := by
  obtain ⟨K, hK, hK2⟩ := dKey_enc key_fr q s
  have e1 : mVar 2 [o0, o1, some (.loc k), some (.d s (fr q)), o4] M = some (.loc k, M) := rfl
  have e2 : mVar 3 [o0, o1, some (.loc k), some (.d s (fr q)), o4] M = some (.d s (fr q), M) := rfl
  have e3 : mD true (.bool true) [o0, o1, some (.loc k), some (.d s (fr q)), o4] M = some (.d true (.bool true), M) := rfl
  unfold sSub sPutD
  rw [e3]
  simp only [fz1, e1]
  rw [e2]
  simp only [Ek.putAt, h, hK, List.length_map]
  rw [if_pos (by omega)]
  have := put_enc (ev := eB) (v := true) key_fr hK2 kvs
  rw [← this]
  rfl
def OkRise (l : List Rat) : Prop := l.length ≤ 64 ∧ ∀ q, q ∈ l → Sz 100 q
theorem fr_nf (t : Bool) (q : Rat) : nf t (fr q) = t := rfl
theorem c_lrise {r : Bool} {l : List Rat} (h : OkRise l) (M : MS) : ∃ t N, f__law_rising [.d r (.list (l.map fr))] M = some (.d t (.list ((inO l).map fr)), M ++ N) := by
  obtain ⟨hl, hs⟩ := h
  have hM : ∀ o : MO, (M ++ [o])[M.length]? = some o := fun o => by simp
  have hset : ∀ o o' : MO, (M ++ [o]).set M.length o' = M ++ [o'] := fun o o' => by simp
  -- all are put in
  have l1 := for_inv (t := r) (g := gNm 3) (b := (sSeq (sSub (mVar 2) (mVar 3) (mD true (.bool true))) sNext)) (enc := fr)
    (fun done Δ M' => M' = M ++ [.dT ((kset done).map (eD fr eB))] ∧ ∃ o, Δ = [some (.d r (.list (l.map fr))), some (.d true (.int 1)), some (.loc M.length), o, none]) l (by
      intro done a rest e Δ M' hP
      obtain ⟨rfl, o, rfl⟩ := hP
      refine ⟨_, tg_nm, ?_⟩
      have hk := kset_len done
      have hd : done.length ≤ l.length := by rw [e]; simp
      refine ⟨[some (.d r (.list (l.map fr))), some (.d true (.int 1)), some (.loc M.length), some (.d r (fr a)), none], M ++ [.dT ((dput (kset done) a true).map (eD fr eB))], ?_, ?_, _, rfl⟩
      · show sSeq _ sNext [some (.d r (.list (l.map fr))), some (.d true (.int 1)), some (.loc M.length), some (.d r (fr a)), none] _ = _
        unfold sSeq
        rw [put_b (hM _) (by omega), hset]
        rfl
      · unfold kset
        rw [List.foldl_append]
        rfl) [some (.d r (.list (l.map fr))), some (.d true (.int 1)), some (.loc M.length), none, none] (M ++ [.dT []]) ⟨rfl, _, rfl⟩
  obtain ⟨Δ1, M1, h1, rfl, o1, rfl⟩ := l1
  -- the product of bottoms
  obtain ⟨ks, hks⟩ : ∃ ks, (kset l).map (·.1) = ks := ⟨_, rfl⟩
  have hkl : ks.length ≤ 64 := by
    have := kset_len l
    rw [← hks, List.length_map]
    omega
  have hkm : ∀ q, q ∈ ks → q ∈ l := fun q hq => kset_mem.mp (hks ▸ hq)
  have hkd : ∀ q, q ∈ ks → q.den < 2 ^ 100 := fun q hq => (hs q (hkm q hq)).2
  have eks : ((kset l).map (eD fr eB)).map Prod.fst = ks.map fr := by
    rw [List.map_map, ← hks, List.map_map]
    rfl
  have hz1 : fzQ (.loc M.length) (M ++ [.dT ((kset l).map (eD fr eB))]) = some ((false, ks.map fr), M ++ [.fdT ((kset l).map (eD fr eB))]) := by
    simp only [fzQ, hM, eks, hset]
  have hz2 : fzQ (.loc M.length) (M ++ [.fdT ((kset l).map (eD fr eB))]) = some ((false, ks.map fr), M ++ [.fdT ((kset l).map (eD fr eB))]) := by
    simp only [fzQ, hM, eks]
  have l2 := for_inv (t := false) (g := gNm 3) (b := (sSeq (sSet 1 (mBin gMul (mVar 1) (mBin gIx (mVar 3) (mD true (.int 1))))) sNext)) (enc := fr)
    (fun done Δ M' => M' = M ++ [.fdT ((kset l).map (eD fr eB))] ∧ ∃ o, Δ = [some (.d r (.list (l.map fr))), some (.d true (.int (dprod done : Nat))), some (.loc M.length), o, none]) ks (by
      intro done a rest e Δ M' hP
      obtain ⟨rfl, o, rfl⟩ := hP
      refine ⟨_, tg_nm, ?_⟩
      have hdn : ∀ q, q ∈ done → q.den < 2 ^ 100 := fun q hq => hkd q (by rw [e]; exact List.mem_append_left _ hq)
      have hdl : done.length ≤ 64 := by rw [e] at hkl; simp at hkl; omega
      have hb : dprod done < 2 ^ 6500 := Nat.lt_of_le_of_lt (dprod_lt hdn) (Nat.pow_lt_pow_right (by decide) (by omega))
      have hc : CMulE ((dprod done : Nat) : Int) ((a.den : Nat) : Int) := mulE (a := 6500) (b := 100) hb (hkd a (by rw [e]; simp)) (by decide)
      have hx : ∀ M : MS, gIx (.d false (fr a)) (.d true (.int 1)) M = some (.d true (.int ((a.den : Nat) : Int)), M) := fun M => rfl
      simp only [ev_var, ev_D, ev_bin, ev_un, ev_args0, ev_args, ev_fn, ev_call, ev_callK, ev_if, ev_B1, asB_d, ev_and, ev_or, ev_not, ev_mand, ev_mor, ev_true, ev_chain, ev_tup, ev_lst, ev_old, ev_new, ev_items, ev_lc, ev_seq, seq_nx, seq_rt, seq_bk, seq_ct, ev_next, ev_break, ev_ret, fz_d, ev_retW, ev_drop, ev_sif, ev_set, ev_par, par_2, ev_for, ev_sem, ev_semFz, fzP_0, fzP_d, fzP_s, fzP_l, ob_some, ob_none, oif_true, oif_false, mkT2, mkT3, mkL0, mkL1, mkL2, gSub_i, gAdd_i, gLt_i, gLe_i, gGt_i, gGe_i, gEq_i, gNe_i, frIx0, frIx1, List.length_cons, List.length_nil, List.map_cons, List.map_nil, List.cons_append, List.nil_append, List.append_nil, List.replicate, List.getElem?_cons_zero, List.getElem?_cons_succ, List.set_cons_zero, List.set_cons_succ, if_true, if_false, Nat.reduceAdd, Nat.reduceSub, Bool.and_true, Bool.true_and, Bool.not_true, Bool.not_false, fr_nf, hx, gMul_i hc]
      have : dprod (done ++ [a]) = dprod done * a.den := by unfold dprod; rw [List.foldl_append]; rfl
      rw [this, Int.natCast_mul]
      exact ⟨_, _, rfl, rfl, _, rfl⟩) [some (.d r (.list (l.map fr))), some (.d true (.int 1)), some (.loc M.length), o1, none] (M ++ [.fdT ((kset l).map (eD fr eB))]) ⟨rfl, _, rfl⟩
  obtain ⟨Δ2, M2, h2, rfl, o2, rfl⟩ := l2
  have hW := dprod_pos ks
  have hWb : dprod ks < 2 ^ 6500 := Nat.lt_of_le_of_lt (dprod_lt hkd) (Nat.pow_lt_pow_right (by decide) (by omega))
  have hdv : ∀ q, q ∈ l → q.den ∣ dprod ks := fun q hq => dprod_dvd (by rw [← hks]; exact kset_mem.mpr hq)
  have he := rise_eq hW hdv
  rw [hks] at he
  -- pairs
  have l3 : lcGo false (gNm 3) tTrue (mTup (mArgs [(mBin gMul (mBin gIx (mVar 3) (mD true (.int 0))) (mBin gFdiv (mVar 1) (mBin gIx (mVar 3) (mD true (.int 1))))), (mVar 3)])) [some (.d r (.list (l.map fr))), some (.d true (.int (dprod ks : Nat))), some (.loc M.length), none, none] (ks.map fr) (M ++ [.fdT ((kset l).map (eD fr eB))]) = some ((ks.all fun _ => false, ks.map fun q => PyData.tuple [.int (over_ (dprod ks : Nat) q), fr q]), M ++ [.fdT ((kset l).map (eD fr eB))]) :=
    lc_map (fun q : Rat => PyData.tuple [.int (over_ (dprod ks : Nat) q), fr q]) (fun _ => false) _ fun q hq => by
      refine ⟨_, tg_nm, ?_⟩
      have hx0 : ∀ M : MS, gIx (.d false (fr q)) (.d true (.int 0)) M = some (.d true (.int q.num), M) := fun M => rfl
      have hx1 : ∀ M : MS, gIx (.d false (fr q)) (.d true (.int 1)) M = some (.d true (.int ((q.den : Nat) : Int)), M) := fun M => rfl
      have hdp := q.den_pos
      have hdiv : CDivW ((dprod ks : Nat) : Int) ((q.den : Nat) : Int) := divE (b := 100) (by omega) (hkd q hq) (by decide)
      have hle : ((dprod ks : Nat) : Int) / ((q.den : Nat) : Int) = ((dprod ks / q.den : Nat) : Int) := by simp
      have hmul : CMulE q.num (((dprod ks : Nat) : Int) / ((q.den : Nat) : Int)) := by
        rw [hle]
        exact mulE (a := 100) (b := 6500) (hs q (hkm q hq)).1 (Nat.lt_of_le_of_lt (Nat.div_le_self _ _) hWb) (by decide)
      simp only [ev_var, ev_D, ev_bin, ev_un, ev_args0, ev_args, ev_fn, ev_call, ev_callK, ev_if, ev_B1, asB_d, ev_and, ev_or, ev_not, ev_mand, ev_mor, ev_true, ev_chain, ev_tup, ev_lst, ev_old, ev_new, ev_items, ev_lc, ev_seq, seq_nx, seq_rt, seq_bk, seq_ct, ev_next, ev_break, ev_ret, fz_d, ev_retW, ev_drop, ev_sif, ev_set, ev_par, par_2, ev_for, ev_sem, ev_semFz, fzP_0, fzP_d, fzP_s, fzP_l, ob_some, ob_none, oif_true, oif_false, mkT2, mkT3, mkL0, mkL1, mkL2, gSub_i, gAdd_i, gLt_i, gLe_i, gGt_i, gGe_i, gEq_i, gNe_i, frIx0, frIx1, List.length_cons, List.length_nil, List.map_cons, List.map_nil, List.cons_append, List.nil_append, List.append_nil, List.replicate, List.getElem?_cons_zero, List.getElem?_cons_succ, List.set_cons_zero, List.set_cons_succ, if_true, if_false, Nat.reduceAdd, Nat.reduceSub, Bool.and_true, Bool.true_and, Bool.not_true, Bool.not_false, fr_nf, hx0, hx1, gFdiv_i hdiv, gMul_i hmul]
      rfl
  have hky : (ks.map fun q => PyData.tuple [.int (over_ (dprod ks : Nat) q), fr q]).map kyD = ks.map (over_ (dprod ks : Nat)) := by
    rw [List.map_map]
    rfl
  have hso : ∀ (t : Bool) (M : MS), bSorted [.d t (.list (ks.map fun q => PyData.tuple [.int (over_ (dprod ks : Nat) q), fr q]))] M = some (.d t (.list ((inO l).map fun q => PyData.tuple [.int (over_ (dprod ks : Nat) q), fr q])), M) := fun t M => by
    have e1 : rdL (.d t (.list (ks.map fun q => PyData.tuple [.int (over_ (dprod ks : Nat) q), fr q]))) M = some (t, ks.map fun q => PyData.tuple [.int (over_ (dprod ks : Nat) q), fr q]) := rfl
    unfold bSorted
    simp only [e1]
    have e2 : (ks.map fun q => PyData.tuple [.int (over_ (dprod ks : Nat) q), fr q]).all isKy = true := by
      rw [List.all_eq_true]
      intro x hx
      obtain ⟨q, hq, rfl⟩ := List.mem_map.mp hx
      rfl
    have nd : (ks.map (over_ (dprod ks : Nat))).Nodup := over_nd hW (by rw [← hks]; exact kset_nd l) fun q hq => hdv q (hkm q hq)
    rw [if_pos ⟨e2, by rw [hky]; exact nd⟩, sortBy_map]
    have e3 : (fun q : Rat => kyD (PyData.tuple [.int (over_ (dprod ks : Nat) q), fr q])) = over_ ((dprod ks : Nat) : Int) := rfl
    rw [e3, he]
  have l4 : ∀ t : Bool, lcGo t (gNm 4) tTrue (mBin gIx (mVar 4) (mD true (.int 1))) [some (.d r (.list (l.map fr))), some (.d true (.int (dprod ks : Nat))), some (.loc M.length), o2, none] ((inO l).map fun q => PyData.tuple [.int (over_ (dprod ks : Nat) q), fr q]) (M ++ [.fdT ((kset l).map (eD fr eB))]) = some (((inO l).all fun _ => t, (inO l).map fr), M ++ [.fdT ((kset l).map (eD fr eB))]) := fun t =>
    lc_map (enc := fun q => PyData.tuple [.int (over_ (dprod ks : Nat) q), fr q]) fr (fun _ => t) _ fun q hq => by
      refine ⟨_, tg_nm, ?_⟩
      have hx : ∀ M : MS, gIx (.d (nf t (PyData.tuple [.int (over_ (dprod ks : Nat) q), fr q])) (PyData.tuple [.int (over_ (dprod ks : Nat) q), fr q])) (.d true (.int 1)) M = some (.d t (fr q), M) := fun M => rfl
      simp only [ev_var, ev_D, ev_bin, ev_un, ev_args0, ev_args, ev_fn, ev_call, ev_callK, ev_if, ev_B1, asB_d, ev_and, ev_or, ev_not, ev_mand, ev_mor, ev_true, ev_chain, ev_tup, ev_lst, ev_old, ev_new, ev_items, ev_lc, ev_seq, seq_nx, seq_rt, seq_bk, seq_ct, ev_next, ev_break, ev_ret, fz_d, ev_retW, ev_drop, ev_sif, ev_set, ev_par, par_2, ev_for, ev_sem, ev_semFz, fzP_0, fzP_d, fzP_s, fzP_l, ob_some, ob_none, oif_true, oif_false, mkT2, mkT3, mkL0, mkL1, mkL2, gSub_i, gAdd_i, gLt_i, gLe_i, gGt_i, gGe_i, gEq_i, gNe_i, frIx0, frIx1, List.length_cons, List.length_nil, List.map_cons, List.map_nil, List.cons_append, List.nil_append, List.append_nil, List.replicate, List.getElem?_cons_zero, List.getElem?_cons_succ, List.set_cons_zero, List.set_cons_succ, if_true, if_false, Nat.reduceAdd, Nat.reduceSub, Bool.and_true, Bool.true_and, Bool.not_true, Bool.not_false, hx]
  have hn : ∀ (Δ : Sl) (M : MS), mNewD Δ M = some (.loc M.length, M ++ [.dT []]) := fun Δ M => rfl
  have g1 : (ks.map fr).length ≤ 100000 := by rw [List.length_map]; omega
  have g0 : ks.length ≤ 100000 := by omega
  have hio : (inO l).length ≤ l.length := nodup_len (up_nodup (inO_up l)) fun x hx => inO_mem.mp hx
  have g2 : (inO l).length ≤ 100000 := by omega
  refine ⟨(inO l).all fun _ => (ks.all fun _ => false), [.fdT ((kset l).map (eD fr eB))], ?_⟩
  unfold f__law_rising
  simp only [ev_var, ev_D, ev_bin, ev_un, ev_args0, ev_args, ev_fn, ev_call, ev_callK, ev_if, ev_B1, asB_d, ev_and, ev_or, ev_not, ev_mand, ev_mor, ev_true, ev_chain, ev_tup, ev_lst, ev_old, ev_new, ev_items, ev_lc, ev_seq, seq_nx, seq_rt, seq_bk, seq_ct, ev_next, ev_break, ev_ret, fz_d, ev_retW, ev_drop, ev_sif, ev_set, ev_par, par_2, ev_for, ev_sem, ev_semFz, fzP_0, fzP_d, fzP_s, fzP_l, ob_some, ob_none, oif_true, oif_false, mkT2, mkT3, mkL0, mkL1, mkL2, gSub_i, gAdd_i, gLt_i, gLe_i, gGt_i, gGe_i, gEq_i, gNe_i, frIx0, frIx1, List.length_cons, List.length_nil, List.map_cons, List.map_nil, List.cons_append, List.nil_append, List.append_nil, List.replicate, List.getElem?_cons_zero, List.getElem?_cons_succ, List.set_cons_zero, List.set_cons_succ, if_true, if_false, Nat.reduceAdd, Nat.reduceSub, Bool.and_true, Bool.true_and, Bool.not_true, Bool.not_false, hn, fzQ_l, h1, hz1, h2, hz2, List.length_map, g0, g1, g2, wipeD, l3, hso, l4]
theorem k_rise (l : List Rat) (h : OkRise l) : FnC f__law_rising [.d (eL fr l)] (eL fr (inO l)) := fncL fun r M => by
  obtain ⟨t, N, hN⟩ := c_lrise (r := r) h M
  exact ⟨t, N, hN⟩
theorem chest_fk {ns : List Int} {k : Nat} (hk : k < 1000) (M : MS) : ∃ M', f__law_chest [.s (ns.map PyData.int), .d true (.int k)] M = some (.loc M.length, M') ∧ Fk M.length M' := by
  obtain ⟨a, c, h⟩ := c_chest (ns := ns) hk M
  exact ⟨_, h, a, c, 1, by simp⟩


def p_lesser (a0 : Rat) (a1 : Rat) : Rat := (if decide (a1 < a0) = true then a1 else a0)
def ok_lesser (a0 : Rat) (a1 : Rat) : Prop := (Sm2 a1 a0)
theorem k_lesser (a0 : Rat) (a1 : Rat) (h : ok_lesser a0 a1) : FnC f_lesser [.d (fr a0), .d (fr a1)] (fr (p_lesser a0 a1)) := by
  unfold ok_lesser at h
  unfold f_lesser p_lesser
  exact fn_c rfl (fun B => (s_ret (e_if fr (t_b (e_call (k_below a1 a0 (h)) (a_cons (e_var rfl) (a_cons (e_var rfl) a_nil)) rfl)) (fun hk2 => (e_var rfl)) (fun hk2 => (e_var rfl)))))

def p_greater (a0 : Rat) (a1 : Rat) : Rat := (if decide (a0 < a1) = true then a1 else a0)
def ok_greater (a0 : Rat) (a1 : Rat) : Prop := (Sm2 a0 a1)
theorem k_greater (a0 : Rat) (a1 : Rat) (h : ok_greater a0 a1) : FnC f_greater [.d (fr a0), .d (fr a1)] (fr (p_greater a0 a1)) := by
  unfold ok_greater at h
  unfold f_greater p_greater
  exact fn_c rfl (fun B => (s_ret (e_if fr (t_b (e_call (k_below a0 a1 (h)) (a_cons (e_var rfl) (a_cons (e_var rfl) a_nil)) rfl)) (fun hk4 => (e_var rfl)) (fun hk4 => (e_var rfl)))))

def p_total (a0 : (List Rat)) : Rat := (List.foldl (fun (s6 : Rat) (z5 : Rat) => (s6 + z5)) (0 : Rat) a0)
def ok_total (a0 : (List Rat)) : Prop := (∀ (dn8 : List Rat) (z5 : Rat) (rs9 : List Rat), a0 = dn8 ++ z5 :: rs9 → ∀ (s6 : Rat), s6 = List.foldl (fun (s6 : Rat) (z5 : Rat) => (s6 + z5)) (0 : Rat) dn8 → ((Sm2 s6 z5)))
theorem k_total (a0 : (List Rat)) (h : ok_total a0) : FnC f_total [.d ((eL fr) a0)] (fr (p_total a0)) := by
  unfold ok_total at h
  unfold f_total p_total
  exact fn_c rfl (fun B => (s_set (q_cst (q := (0 : Rat)) (by decide +kernel)) (s_for fr a0 (fun (s6 : Rat) => ([some (.d ((eL fr) a0)), some (.d (fr s6)), none] : AE)) (fun (s6 : Rat) (z5 : Rat) => (s6 + z5)) (0 : Rat) (itL (ea := fr) (e_var rfl)) (.k (.k (.n .nil))) (fun dn8 z5 rs9 hdn8 s6 hs6 => ⟨_, g_nm, (s_set (e_call (k_add s6 z5 ((h) dn8 z5 rs9 hdn8 s6 hs6)) (a_cons (e_var rfl) (a_cons (e_var rfl) a_nil)) rfl) (s_next (.k (.k (.n .nil)))))⟩) (s_ret (e_var rfl)))))

def p_mean_of (a0 : (List (Rat × Rat))) : Rat := (p_total (List.map (fun (z12 : (Rat × Rat)) => (z12.1 * z12.2)) a0))
def ok_mean_of (a0 : (List (Rat × Rat))) : Prop := (List.length a0 ≤ 100000) ∧ (∀ (z12 : (Rat × Rat)), z12 ∈ a0 → ((Sm2 z12.1 z12.2))) ∧ (ok_total (List.map (fun (z12 : (Rat × Rat)) => (z12.1 * z12.2)) a0))
theorem k_mean_of (a0 : (List (Rat × Rat))) (h : ok_mean_of a0) : FnC f_mean_of [.d ((eT (eP fr fr)) a0)] (fr (p_mean_of a0)) := by
  unfold ok_mean_of at h
  unfold f_mean_of p_mean_of
  exact fn_c rfl (fun B => (s_ret (e_call (k_total (List.map (fun (z12 : (Rat × Rat)) => (z12.1 * z12.2)) a0) (h).2.2) (a_cons (oldL (l_lcm (eP fr fr) fr (fun (z12 : (Rat × Rat)) => (z12.1 * z12.2)) (itT (ea := (eP fr fr)) (e_var rfl)) (h).1 (fun z12 hz12 => ⟨_, (g_pp g_nm g_nm), (e_call (k_times z12.1 z12.2 ((h).2.1 z12 hz12)) (a_cons (e_var rfl) (a_cons (e_var rfl) a_nil)) rfl)⟩))) a_nil) rfl)))

def p_capped_of (a0 : (List (Rat × Rat))) (a1 : Rat) : Rat := (p_total (List.map (fun (z17 : (Rat × Rat)) => ((p_lesser z17.1 a1) * z17.2)) a0))
def ok_capped_of (a0 : (List (Rat × Rat))) (a1 : Rat) : Prop := (List.length a0 ≤ 100000) ∧ (∀ (z17 : (Rat × Rat)), z17 ∈ a0 → ((ok_lesser z17.1 a1) ∧ (Sm2 (p_lesser z17.1 a1) z17.2))) ∧ (ok_total (List.map (fun (z17 : (Rat × Rat)) => ((p_lesser z17.1 a1) * z17.2)) a0))
theorem k_capped_of (a0 : (List (Rat × Rat))) (a1 : Rat) (h : ok_capped_of a0 a1) : FnC f_capped_of [.d ((eT (eP fr fr)) a0), .d (fr a1)] (fr (p_capped_of a0 a1)) := by
  unfold ok_capped_of at h
  unfold f_capped_of p_capped_of
  exact fn_c rfl (fun B => (s_ret (e_call (k_total (List.map (fun (z17 : (Rat × Rat)) => ((p_lesser z17.1 a1) * z17.2)) a0) (h).2.2) (a_cons (oldL (l_lcm (eP fr fr) fr (fun (z17 : (Rat × Rat)) => ((p_lesser z17.1 a1) * z17.2)) (itT (ea := (eP fr fr)) (e_var rfl)) (h).1 (fun z17 hz17 => ⟨_, (g_pp g_nm g_nm), (e_call (k_times (p_lesser z17.1 a1) z17.2 ((h).2.1 z17 hz17).2) (a_cons (e_call (k_lesser z17.1 a1 ((h).2.1 z17 hz17).1) (a_cons (e_var rfl) (a_cons (e_var rfl) a_nil)) rfl) (a_cons (e_var rfl) a_nil)) rfl)⟩))) a_nil) rfl)))

def p_excess_of (a0 : (List (Rat × Rat))) (a1 : Rat) : Rat := (p_total (List.map (fun (z23 : (Rat × Rat)) => ((p_greater (z23.1 - a1) (0 : Rat)) * z23.2)) a0))
def ok_excess_of (a0 : (List (Rat × Rat))) (a1 : Rat) : Prop := (List.length a0 ≤ 100000) ∧ (∀ (z23 : (Rat × Rat)), z23 ∈ a0 → ((Sm2 z23.1 a1) ∧ (ok_greater (z23.1 - a1) (0 : Rat)) ∧ (Sm2 (p_greater (z23.1 - a1) (0 : Rat)) z23.2))) ∧ (ok_total (List.map (fun (z23 : (Rat × Rat)) => ((p_greater (z23.1 - a1) (0 : Rat)) * z23.2)) a0))
theorem k_excess_of (a0 : (List (Rat × Rat))) (a1 : Rat) (h : ok_excess_of a0 a1) : FnC f_excess_of [.d ((eT (eP fr fr)) a0), .d (fr a1)] (fr (p_excess_of a0 a1)) := by
  unfold ok_excess_of at h
  unfold f_excess_of p_excess_of
  exact fn_c rfl (fun B => (s_ret (e_call (k_total (List.map (fun (z23 : (Rat × Rat)) => ((p_greater (z23.1 - a1) (0 : Rat)) * z23.2)) a0) (h).2.2) (a_cons (oldL (l_lcm (eP fr fr) fr (fun (z23 : (Rat × Rat)) => ((p_greater (z23.1 - a1) (0 : Rat)) * z23.2)) (itT (ea := (eP fr fr)) (e_var rfl)) (h).1 (fun z23 hz23 => ⟨_, (g_pp g_nm g_nm), (e_call (k_times (p_greater (z23.1 - a1) (0 : Rat)) z23.2 ((h).2.1 z23 hz23).2.2) (a_cons (e_call (k_greater (z23.1 - a1) (0 : Rat) ((h).2.1 z23 hz23).2.1) (a_cons (e_call (k_less z23.1 a1 ((h).2.1 z23 hz23).1) (a_cons (e_var rfl) (a_cons (e_var rfl) a_nil)) rfl) (a_cons (q_cst (q := (0 : Rat)) (by decide +kernel)) a_nil)) rfl) (a_cons (e_var rfl) a_nil)) rfl)⟩))) a_nil) rfl)))

def p_chance_over (a0 : (List (Rat × Rat))) (a1 : Rat) : Rat := (p_total (List.map (fun (z30 : (Rat × Rat)) => z30.2) (List.filter (fun (z30 : (Rat × Rat)) => decide (a1 < z30.1)) a0)))
def ok_chance_over (a0 : (List (Rat × Rat))) (a1 : Rat) : Prop := (List.length a0 ≤ 100000) ∧ (∀ (z30 : (Rat × Rat)), z30 ∈ a0 → ((Sm2 a1 z30.1))) ∧ (ok_total (List.map (fun (z30 : (Rat × Rat)) => z30.2) (List.filter (fun (z30 : (Rat × Rat)) => decide (a1 < z30.1)) a0)))
theorem k_chance_over (a0 : (List (Rat × Rat))) (a1 : Rat) (h : ok_chance_over a0 a1) : FnC f_chance_over [.d ((eT (eP fr fr)) a0), .d (fr a1)] (fr (p_chance_over a0 a1)) := by
  unfold ok_chance_over at h
  unfold f_chance_over p_chance_over
  exact fn_c rfl (fun B => (s_ret (e_call (k_total (List.map (fun (z30 : (Rat × Rat)) => z30.2) (List.filter (fun (z30 : (Rat × Rat)) => decide (a1 < z30.1)) a0)) (h).2.2) (a_cons (oldL (l_lcf (eP fr fr) fr (fun (z30 : (Rat × Rat)) => decide (a1 < z30.1)) (fun (z30 : (Rat × Rat)) => z30.2) (itT (ea := (eP fr fr)) (e_var rfl)) (h).1 (fun z30 hz30 => ⟨_, (g_pp g_nm g_nm), (t_b (e_call (k_below a1 z30.1 ((h).2.1 z30 hz30)) (a_cons (e_var rfl) (a_cons (e_var rfl) a_nil)) rfl)), fun hk33 => (e_var rfl)⟩))) a_nil) rfl)))

def p_mean (a0 : (List (Rat × Rat))) : Rat := (p_mean_of a0)
def ok_mean (a0 : (List (Rat × Rat))) : Prop := (OkDr a0) ∧ (ok_mean_of a0)
theorem k_mean (a0 : (List (Rat × Rat))) (h : ok_mean a0) : FnC f_mean [.d ((eT (eP fr fr)) a0)] (fr (p_mean a0)) := by
  unfold ok_mean at h
  unfold f_mean p_mean
  exact fn_c rfl (fun B => (s_drop (e_call (k_check_draw a0 (h).1) (a_cons (e_var rfl) a_nil) rfl) (s_ret (e_call (k_mean_of a0 (h).2) (a_cons (e_var rfl) a_nil) rfl))))

def p_capped (a0 : (List (Rat × Rat))) (a1 : Rat) : Rat := (p_capped_of a0 a1)
def ok_capped (a0 : (List (Rat × Rat))) (a1 : Rat) : Prop := (OkDr a0) ∧ (ok_capped_of a0 a1)
theorem k_capped (a0 : (List (Rat × Rat))) (a1 : Rat) (h : ok_capped a0 a1) : FnC f_capped [.d ((eT (eP fr fr)) a0), .d (fr a1)] (fr (p_capped a0 a1)) := by
  unfold ok_capped at h
  unfold f_capped p_capped
  exact fn_c rfl (fun B => (s_drop (e_call (k_check_draw a0 (h).1) (a_cons (e_var rfl) a_nil) rfl) (s_drop (e_call (k_check_number a1) (a_cons (e_var rfl) a_nil) rfl) (s_ret (e_call (k_capped_of a0 a1 (h).2) (a_cons (e_var rfl) (a_cons (e_var rfl) a_nil)) rfl)))))

def p_excess (a0 : (List (Rat × Rat))) (a1 : Rat) : Rat := (p_excess_of a0 a1)
def ok_excess (a0 : (List (Rat × Rat))) (a1 : Rat) : Prop := (OkDr a0) ∧ (ok_excess_of a0 a1)
theorem k_excess (a0 : (List (Rat × Rat))) (a1 : Rat) (h : ok_excess a0 a1) : FnC f_excess [.d ((eT (eP fr fr)) a0), .d (fr a1)] (fr (p_excess a0 a1)) := by
  unfold ok_excess at h
  unfold f_excess p_excess
  exact fn_c rfl (fun B => (s_drop (e_call (k_check_draw a0 (h).1) (a_cons (e_var rfl) a_nil) rfl) (s_drop (e_call (k_check_number a1) (a_cons (e_var rfl) a_nil) rfl) (s_ret (e_call (k_excess_of a0 a1 (h).2) (a_cons (e_var rfl) (a_cons (e_var rfl) a_nil)) rfl)))))

def p_chance_above (a0 : (List (Rat × Rat))) (a1 : Rat) : Rat := (p_chance_over a0 a1)
def ok_chance_above (a0 : (List (Rat × Rat))) (a1 : Rat) : Prop := (OkDr a0) ∧ (ok_chance_over a0 a1)
theorem k_chance_above (a0 : (List (Rat × Rat))) (a1 : Rat) (h : ok_chance_above a0 a1) : FnC f_chance_above [.d ((eT (eP fr fr)) a0), .d (fr a1)] (fr (p_chance_above a0 a1)) := by
  unfold ok_chance_above at h
  unfold f_chance_above p_chance_above
  exact fn_c rfl (fun B => (s_drop (e_call (k_check_draw a0 (h).1) (a_cons (e_var rfl) a_nil) rfl) (s_drop (e_call (k_check_number a1) (a_cons (e_var rfl) a_nil) rfl) (s_ret (e_call (k_chance_over a0 a1 (h).2) (a_cons (e_var rfl) (a_cons (e_var rfl) a_nil)) rfl)))))

def p_chance_of (a0 : (List (Rat × Rat))) (a1 : Rat) : Rat := (p_total (List.map (fun (z45 : (Rat × Rat)) => z45.2) (List.filter (fun (z45 : (Rat × Rat)) => decide (z45.1 = a1)) a0)))
def ok_chance_of (a0 : (List (Rat × Rat))) (a1 : Rat) : Prop := (OkDr a0) ∧ (List.length a0 ≤ 100000) ∧ (ok_total (List.map (fun (z45 : (Rat × Rat)) => z45.2) (List.filter (fun (z45 : (Rat × Rat)) => decide (z45.1 = a1)) a0)))
theorem k_chance_of (a0 : (List (Rat × Rat))) (a1 : Rat) (h : ok_chance_of a0 a1) : FnC f_chance_of [.d ((eT (eP fr fr)) a0), .d (fr a1)] (fr (p_chance_of a0 a1)) := by
  unfold ok_chance_of at h
  unfold f_chance_of p_chance_of
  exact fn_c rfl (fun B => (s_drop (e_call (k_check_draw a0 (h).1) (a_cons (e_var rfl) a_nil) rfl) (s_drop (e_call (k_check_number a1) (a_cons (e_var rfl) a_nil) rfl) (s_ret (e_call (k_total (List.map (fun (z45 : (Rat × Rat)) => z45.2) (List.filter (fun (z45 : (Rat × Rat)) => decide (z45.1 = a1)) a0)) (h).2.2) (a_cons (oldL (l_lcf (eP fr fr) fr (fun (z45 : (Rat × Rat)) => decide (z45.1 = a1)) (fun (z45 : (Rat × Rat)) => z45.2) (itT (ea := (eP fr fr)) (e_var rfl)) (h).2.1 (fun z45 hz45 => ⟨_, (g_pp g_nm g_nm), (t_b (y_eq eq_fr (e_var rfl) (e_var rfl))), fun hk47 => (e_var rfl)⟩))) a_nil) rfl)))))

def p_law_sum (a0 : (List Rat)) : Rat := (List.foldl (fun (s50 : Rat) (z49 : Rat) => (s50 + z49)) (0 : Rat) a0)
def ok_law_sum (a0 : (List Rat)) : Prop := (∀ (dn52 : List Rat) (z49 : Rat) (rs53 : List Rat), a0 = dn52 ++ z49 :: rs53 → ∀ (s50 : Rat), s50 = List.foldl (fun (s50 : Rat) (z49 : Rat) => (s50 + z49)) (0 : Rat) dn52 → ((Sm2 s50 z49)))
theorem k_law_sum (a0 : (List Rat)) (h : ok_law_sum a0) : FnC f__law_sum [.d ((eL fr) a0)] (fr (p_law_sum a0)) := by
  unfold ok_law_sum at h
  unfold f__law_sum p_law_sum
  exact fn_c rfl (fun B => (s_set (q_lit (q := (0 : Rat)) i_lit i_lit (by decide +kernel)) (s_for fr a0 (fun (s50 : Rat) => ([some (.d ((eL fr) a0)), some (.d (fr s50)), none] : AE)) (fun (s50 : Rat) (z49 : Rat) => (s50 + z49)) (0 : Rat) (itL (ea := fr) (e_var rfl)) (.k (.k (.n .nil))) (fun dn52 z49 rs53 hdn52 s50 hs50 => ⟨_, g_nm, (s_set (e_call (k_fplus s50 z49 ((h) dn52 z49 rs53 hdn52 s50 hs50)) (a_cons (e_var rfl) (a_cons (e_var rfl) a_nil)) rfl) (s_next (.k (.k (.n .nil)))))⟩) (s_ret (e_var rfl)))))

def p_law_gather (a0 : (List (Rat × Rat))) : (List (Rat × Rat)) := (List.map (fun (z66 : Rat) => (z66, (Option.getD (dval (List.foldl (fun (s58 : (List (Rat × Rat))) (z57 : (Rat × Rat)) => (dput s58 z57.1 ((Option.getD (dval s58 z57.1) (0 : Rat)) + z57.2))) ([] : List (Rat × Rat)) a0) z66) default))) (List.filter (fun (z66 : Rat) => decide ((0 : Int) < (Option.getD (dval (List.foldl (fun (s58 : (List (Rat × Rat))) (z57 : (Rat × Rat)) => (dput s58 z57.1 ((Option.getD (dval s58 z57.1) (0 : Rat)) + z57.2))) ([] : List (Rat × Rat)) a0) z66) default).num)) (inO (List.map (fun x => x.1) (List.foldl (fun (s58 : (List (Rat × Rat))) (z57 : (Rat × Rat)) => (dput s58 z57.1 ((Option.getD (dval s58 z57.1) (0 : Rat)) + z57.2))) ([] : List (Rat × Rat)) a0)))))
def ok_law_gather (a0 : (List (Rat × Rat))) : Prop := (∀ (dn60 : List (Rat × Rat)) (z57 : (Rat × Rat)) (rs61 : List (Rat × Rat)), a0 = dn60 ++ z57 :: rs61 → ∀ (s58 : (List (Rat × Rat))), s58 = List.foldl (fun (s58 : (List (Rat × Rat))) (z57 : (Rat × Rat)) => (dput s58 z57.1 ((Option.getD (dval s58 z57.1) (0 : Rat)) + z57.2))) ([] : List (Rat × Rat)) dn60 → ((Sm2 (Option.getD (dval s58 z57.1) (0 : Rat)) z57.2) ∧ (List.length s58 ≤ 10000))) ∧ (OkRise (List.map (fun x => x.1) (List.foldl (fun (s58 : (List (Rat × Rat))) (z57 : (Rat × Rat)) => (dput s58 z57.1 ((Option.getD (dval s58 z57.1) (0 : Rat)) + z57.2))) ([] : List (Rat × Rat)) a0))) ∧ (List.length (inO (List.map (fun x => x.1) (List.foldl (fun (s58 : (List (Rat × Rat))) (z57 : (Rat × Rat)) => (dput s58 z57.1 ((Option.getD (dval s58 z57.1) (0 : Rat)) + z57.2))) ([] : List (Rat × Rat)) a0))) ≤ 100000) ∧ (∀ (z66 : Rat), z66 ∈ (inO (List.map (fun x => x.1) (List.foldl (fun (s58 : (List (Rat × Rat))) (z57 : (Rat × Rat)) => (dput s58 z57.1 ((Option.getD (dval s58 z57.1) (0 : Rat)) + z57.2))) ([] : List (Rat × Rat)) a0))) → ((Option.isSome (dval (List.foldl (fun (s58 : (List (Rat × Rat))) (z57 : (Rat × Rat)) => (dput s58 z57.1 ((Option.getD (dval s58 z57.1) (0 : Rat)) + z57.2))) ([] : List (Rat × Rat)) a0) z66) = true) ∧ (decide ((0 : Int) < (Option.getD (dval (List.foldl (fun (s58 : (List (Rat × Rat))) (z57 : (Rat × Rat)) => (dput s58 z57.1 ((Option.getD (dval s58 z57.1) (0 : Rat)) + z57.2))) ([] : List (Rat × Rat)) a0) z66) default).num) = true → ((Option.isSome (dval (List.foldl (fun (s58 : (List (Rat × Rat))) (z57 : (Rat × Rat)) => (dput s58 z57.1 ((Option.getD (dval s58 z57.1) (0 : Rat)) + z57.2))) ([] : List (Rat × Rat)) a0) z66) = true)))))
theorem k_law_gather (a0 : (List (Rat × Rat))) (h : ok_law_gather a0) : FnC f__law_gather [.d ((eL (eP fr fr)) a0)] ((eT (eP fr fr)) (p_law_gather a0)) := by
  unfold ok_law_gather at h
  unfold f__law_gather p_law_gather
  exact fn_c rfl (fun B => (s_newD (fun k56 => (s_for (eP fr fr) a0 (fun (s58 : (List (Rat × Rat))) => ([some (.d ((eL (eP fr fr)) a0)), some (.md k56 (List.map (eD fr fr) s58)), none, none] : AE)) (fun (s58 : (List (Rat × Rat))) (z57 : (Rat × Rat)) => (dput s58 z57.1 ((Option.getD (dval s58 z57.1) (0 : Rat)) + z57.2))) ([] : List (Rat × Rat)) (itL (ea := (eP fr fr)) (e_var rfl)) (.k (.k (.n (.n .nil)))) (fun dn60 z57 rs61 hdn60 s58 hs58 => ⟨_, (g_pp g_nm g_nm), (s_putD (ek := fr) (ev := fr) (kvs := s58) key_fr rfl (e_call (k_fplus (Option.getD (dval s58 z57.1) (0 : Rat)) z57.2 ((h).1 dn60 z57 rs61 hdn60 s58 hs58).1) (a_cons (e_getD2 (ek := fr) (ev := fr) (kvs := s58) key_fr rfl (e_var rfl) (q_lit (q := (0 : Rat)) i_lit i_lit (by decide +kernel))) (a_cons (e_var rfl) a_nil)) rfl) (e_var rfl) ((h).1 dn60 z57 rs61 hdn60 s58 hs58).2 (s_next (.k (.k (.n (.n .nil))))))⟩) (s_ret (tupL (ea := (eP fr fr)) (oldL (l_lcf fr (eP fr fr) (fun (z66 : Rat) => decide ((0 : Int) < (Option.getD (dval (List.foldl (fun (s58 : (List (Rat × Rat))) (z57 : (Rat × Rat)) => (dput s58 z57.1 ((Option.getD (dval s58 z57.1) (0 : Rat)) + z57.2))) ([] : List (Rat × Rat)) a0) z66) default).num)) (fun (z66 : Rat) => (z66, (Option.getD (dval (List.foldl (fun (s58 : (List (Rat × Rat))) (z57 : (Rat × Rat)) => (dput s58 z57.1 ((Option.getD (dval s58 z57.1) (0 : Rat)) + z57.2))) ([] : List (Rat × Rat)) a0) z66) default))) (itL (ea := fr) (e_call (k_rise (List.map (fun x => x.1) (List.foldl (fun (s58 : (List (Rat × Rat))) (z57 : (Rat × Rat)) => (dput s58 z57.1 ((Option.getD (dval s58 z57.1) (0 : Rat)) + z57.2))) ([] : List (Rat × Rat)) a0)) (h).2.1) (a_cons (e_listD (ek := fr) (ev := fr) (kvs := (List.foldl (fun (s58 : (List (Rat × Rat))) (z57 : (Rat × Rat)) => (dput s58 z57.1 ((Option.getD (dval s58 z57.1) (0 : Rat)) + z57.2))) ([] : List (Rat × Rat)) a0)) rfl) a_nil) rfl)) (h).2.2.1 (fun z66 hz66 => ⟨_, g_nm, (t_b (i_gt (f_0 (e_ixD (ek := fr) (ev := fr) (kvs := (List.foldl (fun (s58 : (List (Rat × Rat))) (z57 : (Rat × Rat)) => (dput s58 z57.1 ((Option.getD (dval s58 z57.1) (0 : Rat)) + z57.2))) ([] : List (Rat × Rat)) a0)) key_fr rfl (e_var rfl) ((h).2.2.2 z66 hz66).1)) i_lit)), fun hk70 => (p_mk (e_var rfl) (e_ixD (ek := fr) (ev := fr) (kvs := (List.foldl (fun (s58 : (List (Rat × Rat))) (z57 : (Rat × Rat)) => (dput s58 z57.1 ((Option.getD (dval s58 z57.1) (0 : Rat)) + z57.2))) ([] : List (Rat × Rat)) a0)) key_fr rfl (e_var rfl) (((h).2.2.2 z66 hz66).2 hk70)))⟩)))))))))

def S_law_lot (a1 : Int) (r : (List (Rat × Rat))) : Prop := (∃ v81 : Int, (0 ≤ v81 ∧ v81 < a1) ∧ (∃ s76 : ((List Rat) × (List Int)), RelF (fun (s76 : ((List Rat) × (List Int))) (z75 : Int) (s77 : ((List Rat) × (List Int))) => (∃ v86 : Int, (0 ≤ v86 ∧ v86 < (13 : Int)) ∧ (∃ v88 : Int, v88 ∈ ([(1 : Int), (1 : Int), (1 : Int), (2 : Int), (3 : Int)] : List Int) ∧ (∃ v92 : Int, (0 ≤ v92 ∧ v92 < (3 : Int)) ∧ s77 = ((s76.1 ++ [(lowQ (v86 - (5 : Int)) v88)]), (s76.2 ++ [((1 : Int) + v92)])))))) (([] : List Rat), ([] : List Int)) (rng 0 ((1 : Int) + v81)) s76 ∧ r = (p_law_gather (List.map (fun (z97 : Int) => ((ix s76.1 z97), (lowQ (ix s76.2 z97) (List.sum s76.2)))) (rng 0 (List.length s76.1 : Int))))))
def ok_law_lot (a1 : Int) : Prop := (0 < a1 ∧ a1 < 1000) ∧ (∀ (v81 : Int), (0 ≤ v81 ∧ v81 < a1) → ((-(2 ^ 62) ≤ ((1 : Int) + v81) ∧ ((1 : Int) + v81) < 2 ^ 62) ∧ (∀ (dn78 : List Int) (z75 : Int) (rs79 : List Int), (rng 0 ((1 : Int) + v81)) = dn78 ++ z75 :: rs79 → ∀ (s76 : ((List Rat) × (List Int))), RelF (fun (s76 : ((List Rat) × (List Int))) (z75 : Int) (s77 : ((List Rat) × (List Int))) => (∃ v86 : Int, (0 ≤ v86 ∧ v86 < (13 : Int)) ∧ (∃ v88 : Int, v88 ∈ ([(1 : Int), (1 : Int), (1 : Int), (2 : Int), (3 : Int)] : List Int) ∧ (∃ v92 : Int, (0 ≤ v92 ∧ v92 < (3 : Int)) ∧ s77 = ((s76.1 ++ [(lowQ (v86 - (5 : Int)) v88)]), (s76.2 ++ [((1 : Int) + v92)])))))) (([] : List Rat), ([] : List Int)) dn78 s76 → ((List.length s76.1 ≤ 100000) ∧ (0 < (13 : Int) ∧ (13 : Int) < 1000) ∧ (∀ (v86 : Int), (0 ≤ v86 ∧ v86 < (13 : Int)) → ((([(1 : Int), (1 : Int), (1 : Int), (2 : Int), (3 : Int)] : List Int) ≠ [] ∧ List.length ([(1 : Int), (1 : Int), (1 : Int), (2 : Int), (3 : Int)] : List Int) < 1000) ∧ (∀ (v88 : Int), v88 ∈ ([(1 : Int), (1 : Int), (1 : Int), (2 : Int), (3 : Int)] : List Int) → ((LowOk v88) ∧ (List.length s76.2 ≤ 100000) ∧ (0 < (3 : Int) ∧ (3 : Int) < 1000))))))) ∧ (∀ (s76 : ((List Rat) × (List Int))), RelF (fun (s76 : ((List Rat) × (List Int))) (z75 : Int) (s77 : ((List Rat) × (List Int))) => (∃ v86 : Int, (0 ≤ v86 ∧ v86 < (13 : Int)) ∧ (∃ v88 : Int, v88 ∈ ([(1 : Int), (1 : Int), (1 : Int), (2 : Int), (3 : Int)] : List Int) ∧ (∃ v92 : Int, (0 ≤ v92 ∧ v92 < (3 : Int)) ∧ s77 = ((s76.1 ++ [(lowQ (v86 - (5 : Int)) v88)]), (s76.2 ++ [((1 : Int) + v92)])))))) (([] : List Rat), ([] : List Int)) (rng 0 ((1 : Int) + v81)) s76 → ((-(2 ^ 62) ≤ (List.length s76.1 : Int) ∧ (List.length s76.1 : Int) < 2 ^ 62) ∧ (List.length (rng 0 (List.length s76.1 : Int)) ≤ 100000) ∧ (∀ (z97 : Int), z97 ∈ (rng 0 (List.length s76.1 : Int)) → ((IxOk (List.length s76.1) z97) ∧ (IxOk (List.length s76.2) z97) ∧ (LowOk (List.sum s76.2)))) ∧ (ok_law_gather (List.map (fun (z97 : Int) => ((ix s76.1 z97), (lowQ (ix s76.2 z97) (List.sum s76.2)))) (rng 0 (List.length s76.1 : Int))))))))
theorem k_law_lot (j : Nat) (a1 : Int) (h : ok_law_lot a1) : FnW j f__law_lot [.loc j, .d (eI a1)] (fun x => ∃ r, S_law_lot a1 r ∧ x = (eT (eP fr fr)) r) := by
  unfold ok_law_lot at h
  unfold f__law_lot S_law_lot
  exact fn_w rfl (fun B hB => (ws_parLL (ea := fr) (eb := eI) (lst0 (ea := fr)) rfl (lst0 (ea := eI)) (fun k73 k74 => (ws_forM eI (fun (s76 : ((List Rat) × (List Int))) => ([some (.loc j), some (.d (eI a1)), some (.ml k73 (List.map fr s76.1)), some (.ml k74 (List.map eI s76.2)), none, none, none] : AE)) (fun (s76 : ((List Rat) × (List Int))) (z75 : Int) (s77 : ((List Rat) × (List Int))) => (∃ v86 : Int, (0 ≤ v86 ∧ v86 < (13 : Int)) ∧ (∃ v88 : Int, v88 ∈ ([(1 : Int), (1 : Int), (1 : Int), (2 : Int), (3 : Int)] : List Int) ∧ (∃ v92 : Int, (0 ≤ v92 ∧ v92 < (3 : Int)) ∧ s77 = ((s76.1 ++ [(lowQ (v86 - (5 : Int)) v88)]), (s76.2 ++ [((1 : Int) + v92)])))))) (([] : List Rat), ([] : List Int)) (.k (.k (.k (.k (.n (.n (.n .nil))))))) (wcL_range1 (wc_bin (wc_pure i_lit (wc_call hB (wcA_var rfl (wcA_cons (wc_pure (e_var rfl) (wcA_nil ⟨rfl, (k_grab j a1 (h).1).mono (fun x hx => by obtain ⟨v81, hv81, rfl⟩ := hx; exact ⟨_, o_add, ⟨_, rfl, ((h).2 v81 hv81).1, ⟨_, rfl, (fun dn78 z75 rs79 hdn78 s76 hs76 => ⟨_, g_nm, (wm_app (ea := fr) (l := s76.1) rfl (((h).2 v81 hv81).2.1 dn78 z75 rs79 hdn78 s76 hs76).1 (wc_callP (j := j) (wcA_cons (wc_bin (wc_call hB (wcA_var rfl (wcA_cons (wc_pure i_lit (wcA_nil ⟨rfl, (k_grab j (13 : Int) (((h).2 v81 hv81).2.1 dn78 z75 rs79 hdn78 s76 hs76).2.1).mono (fun x hx => by obtain ⟨v86, hv86, rfl⟩ := hx; exact (wc_pure i_lit ⟨_, o_sub, (wcA_cons (wc_call hB (wcA_var rfl (wcA_cons (wc_pure (oldL (lstN (ea := eI) (l := [(1 : Int), (1 : Int), (1 : Int), (2 : Int), (3 : Int)]) (a_cons i_lit (a_cons i_lit (a_cons i_lit (a_cons i_lit (a_cons i_lit a_nil))))) rfl (by simp))) (wcA_nil ⟨rfl, (k_gL eI ([(1 : Int), (1 : Int), (1 : Int), (2 : Int), (3 : Int)] : List Int) ((((h).2 v81 hv81).2.1 dn78 z75 rs79 hdn78 s76 hs76).2.2 v86 hv86).1).mono (fun x hx => by obtain ⟨v88, hv88, rfl⟩ := hx; exact (wcA_nil ⟨rfl, rfl, _, (k_frac (v86 - (5 : Int)) v88 (((((h).2 v81 hv81).2.1 dn78 z75 rs79 hdn78 s76 hs76).2.2 v86 hv86).2 v88 hv88).1), ⟨(lowQ (v86 - (5 : Int)) v88), rfl, (wm_app (ea := eI) (l := s76.2) rfl (((((h).2 v81 hv81).2.1 dn78 z75 rs79 hdn78 s76 hs76).2.2 v86 hv86).2 v88 hv88).2.1 (wc_bin (wc_pure i_lit (wc_call hB (wcA_var rfl (wcA_cons (wc_pure i_lit (wcA_nil ⟨rfl, (k_grab j (3 : Int) (((((h).2 v81 hv81).2.1 dn78 z75 rs79 hdn78 s76 hs76).2.2 v86 hv86).2 v88 hv88).2.2).mono (fun x hx => by obtain ⟨v92, hv92, rfl⟩ := hx; exact ⟨_, o_add, ⟨((1 : Int) + v92), rfl, (wm_next (u := ((s76.1 ++ [(lowQ (v86 - (5 : Int)) v88)]), (s76.2 ++ [((1 : Int) + v92)]))) (.k (.k (.k (.k (.n (.n (.n .nil))))))) ⟨v86, hv86, ⟨v88, hv88, ⟨v92, hv92, rfl⟩⟩⟩)⟩⟩)⟩))))))))⟩⟩))⟩))))))⟩))⟩)))))))))⟩), (fun s76 hs76 => (ws_wk (.k (.k (.v (.v (.k (.k (.k .nil))))))) (ws_set (wc_pure (m_sum (l := s76.2) (mr_lv rfl)) (ws_ret (wc_pure (e_call (k_law_gather (List.map (fun (z97 : Int) => ((ix s76.1 z97), (lowQ (ix s76.2 z97) (List.sum s76.2)))) (rng 0 (List.length s76.1 : Int))) (((h).2 v81 hv81).2.2 s76 hs76).2.2.2) (a_cons (oldL (l_lcm eI (eP fr fr) (fun (z97 : Int) => ((ix s76.1 z97), (lowQ (ix s76.2 z97) (List.sum s76.2)))) (rg1 (m_len (ea := fr) (l := s76.1) (mr_lv rfl)) (((h).2 v81 hv81).2.2 s76 hs76).1) (((h).2 v81 hv81).2.2 s76 hs76).2.1 (fun z97 hz97 => ⟨_, g_nm, (p_mk (m_ix (ea := fr) (l := s76.1) (mr_lv rfl) (e_var rfl) ((((h).2 v81 hv81).2.2 s76 hs76).2.2.1 z97 hz97).1) (e_call (k_frac (ix s76.2 z97) (List.sum s76.2) ((((h).2 v81 hv81).2.2 s76 hs76).2.2.1 z97 hz97).2.2) (a_cons (m_ix (ea := eI) (l := s76.2) (mr_lv rfl) (e_var rfl) ((((h).2 v81 hv81).2.2 s76 hs76).2.2.1 z97 hz97).2.1) (a_cons (e_var rfl) a_nil)) rfl))⟩))) a_nil) rfl) ⟨_, ⟨v81, hv81, ⟨s76, hs76, rfl⟩⟩, rfl⟩))))))⟩⟩⟩)⟩))))))))))))

def p_law_mean (a0 : (List (Rat × Rat))) : Rat := (p_law_sum (List.map (fun (z106 : (Rat × Rat)) => (z106.1 * z106.2)) a0))
def ok_law_mean (a0 : (List (Rat × Rat))) : Prop := (List.length a0 ≤ 100000) ∧ (∀ (z106 : (Rat × Rat)), z106 ∈ a0 → ((Sm2 z106.1 z106.2))) ∧ (ok_law_sum (List.map (fun (z106 : (Rat × Rat)) => (z106.1 * z106.2)) a0))
theorem k_law_mean (a0 : (List (Rat × Rat))) (h : ok_law_mean a0) : FnC f__law_mean [.d ((eT (eP fr fr)) a0)] (fr (p_law_mean a0)) := by
  unfold ok_law_mean at h
  unfold f__law_mean p_law_mean
  exact fn_c rfl (fun B => (s_ret (e_call (k_law_sum (List.map (fun (z106 : (Rat × Rat)) => (z106.1 * z106.2)) a0) (h).2.2) (a_cons (oldL (l_lcm (eP fr fr) fr (fun (z106 : (Rat × Rat)) => (z106.1 * z106.2)) (itT (ea := (eP fr fr)) (e_var rfl)) (h).1 (fun z106 hz106 => ⟨_, (g_pp g_nm g_nm), (e_call (k_fby z106.1 z106.2 ((h).2.1 z106 hz106)) (a_cons (e_var rfl) (a_cons (e_var rfl) a_nil)) rfl)⟩))) a_nil) rfl)))

def p_law_lesser (a0 : Rat) (a1 : Rat) : Rat := (if decide (a0 < a1) = true then a0 else a1)
def ok_law_lesser (a0 : Rat) (a1 : Rat) : Prop := (Sm2 a0 a1)
theorem k_law_lesser (a0 : Rat) (a1 : Rat) (h : ok_law_lesser a0 a1) : FnC f__law_lesser [.d (fr a0), .d (fr a1)] (fr (p_law_lesser a0 a1)) := by
  unfold ok_law_lesser at h
  unfold f__law_lesser p_law_lesser
  exact fn_c rfl (fun B => (s_ret (e_if fr (t_b (e_call (k_funder a0 a1 (h)) (a_cons (e_var rfl) (a_cons (e_var rfl) a_nil)) rfl)) (fun hk112 => (e_var rfl)) (fun hk112 => (e_var rfl)))))

def p_law_greater (a0 : Rat) (a1 : Rat) : Rat := (if decide (a0 < a1) = true then a1 else a0)
def ok_law_greater (a0 : Rat) (a1 : Rat) : Prop := (Sm2 a0 a1)
theorem k_law_greater (a0 : Rat) (a1 : Rat) (h : ok_law_greater a0 a1) : FnC f__law_greater [.d (fr a0), .d (fr a1)] (fr (p_law_greater a0 a1)) := by
  unfold ok_law_greater at h
  unfold f__law_greater p_law_greater
  exact fn_c rfl (fun B => (s_ret (e_if fr (t_b (e_call (k_funder a0 a1 (h)) (a_cons (e_var rfl) (a_cons (e_var rfl) a_nil)) rfl)) (fun hk114 => (e_var rfl)) (fun hk114 => (e_var rfl)))))

def p_law_capped (a0 : (List (Rat × Rat))) (a1 : Rat) : Rat := (p_law_sum (List.map (fun (z115 : (Rat × Rat)) => ((p_law_lesser z115.1 a1) * z115.2)) a0))
def ok_law_capped (a0 : (List (Rat × Rat))) (a1 : Rat) : Prop := (List.length a0 ≤ 100000) ∧ (∀ (z115 : (Rat × Rat)), z115 ∈ a0 → ((ok_law_lesser z115.1 a1) ∧ (Sm2 (p_law_lesser z115.1 a1) z115.2))) ∧ (ok_law_sum (List.map (fun (z115 : (Rat × Rat)) => ((p_law_lesser z115.1 a1) * z115.2)) a0))
theorem k_law_capped (a0 : (List (Rat × Rat))) (a1 : Rat) (h : ok_law_capped a0 a1) : FnC f__law_capped [.d ((eT (eP fr fr)) a0), .d (fr a1)] (fr (p_law_capped a0 a1)) := by
  unfold ok_law_capped at h
  unfold f__law_capped p_law_capped
  exact fn_c rfl (fun B => (s_ret (e_call (k_law_sum (List.map (fun (z115 : (Rat × Rat)) => ((p_law_lesser z115.1 a1) * z115.2)) a0) (h).2.2) (a_cons (oldL (l_lcm (eP fr fr) fr (fun (z115 : (Rat × Rat)) => ((p_law_lesser z115.1 a1) * z115.2)) (itT (ea := (eP fr fr)) (e_var rfl)) (h).1 (fun z115 hz115 => ⟨_, (g_pp g_nm g_nm), (e_call (k_fby (p_law_lesser z115.1 a1) z115.2 ((h).2.1 z115 hz115).2) (a_cons (e_call (k_law_lesser z115.1 a1 ((h).2.1 z115 hz115).1) (a_cons (e_var rfl) (a_cons (e_var rfl) a_nil)) rfl) (a_cons (e_var rfl) a_nil)) rfl)⟩))) a_nil) rfl)))

def p_law_excess (a0 : (List (Rat × Rat))) (a1 : Rat) : Rat := (p_law_sum (List.map (fun (z121 : (Rat × Rat)) => ((p_law_greater (z121.1 - a1) (0 : Rat)) * z121.2)) a0))
def ok_law_excess (a0 : (List (Rat × Rat))) (a1 : Rat) : Prop := (List.length a0 ≤ 100000) ∧ (∀ (z121 : (Rat × Rat)), z121 ∈ a0 → ((Sm2 z121.1 a1) ∧ (ok_law_greater (z121.1 - a1) (0 : Rat)) ∧ (Sm2 (p_law_greater (z121.1 - a1) (0 : Rat)) z121.2))) ∧ (ok_law_sum (List.map (fun (z121 : (Rat × Rat)) => ((p_law_greater (z121.1 - a1) (0 : Rat)) * z121.2)) a0))
theorem k_law_excess (a0 : (List (Rat × Rat))) (a1 : Rat) (h : ok_law_excess a0 a1) : FnC f__law_excess [.d ((eT (eP fr fr)) a0), .d (fr a1)] (fr (p_law_excess a0 a1)) := by
  unfold ok_law_excess at h
  unfold f__law_excess p_law_excess
  exact fn_c rfl (fun B => (s_ret (e_call (k_law_sum (List.map (fun (z121 : (Rat × Rat)) => ((p_law_greater (z121.1 - a1) (0 : Rat)) * z121.2)) a0) (h).2.2) (a_cons (oldL (l_lcm (eP fr fr) fr (fun (z121 : (Rat × Rat)) => ((p_law_greater (z121.1 - a1) (0 : Rat)) * z121.2)) (itT (ea := (eP fr fr)) (e_var rfl)) (h).1 (fun z121 hz121 => ⟨_, (g_pp g_nm g_nm), (e_call (k_fby (p_law_greater (z121.1 - a1) (0 : Rat)) z121.2 ((h).2.1 z121 hz121).2.2) (a_cons (e_call (k_law_greater (z121.1 - a1) (0 : Rat) ((h).2.1 z121 hz121).2.1) (a_cons (e_call (k_fminus z121.1 a1 ((h).2.1 z121 hz121).1) (a_cons (e_var rfl) (a_cons (e_var rfl) a_nil)) rfl) (a_cons (q_lit (q := (0 : Rat)) i_lit i_lit (by decide +kernel)) a_nil)) rfl) (a_cons (e_var rfl) a_nil)) rfl)⟩))) a_nil) rfl)))

def p_law_above (a0 : (List (Rat × Rat))) (a1 : Rat) : Rat := (p_law_sum (List.map (fun (z128 : (Rat × Rat)) => z128.2) (List.filter (fun (z128 : (Rat × Rat)) => decide (a1 < z128.1)) a0)))
def ok_law_above (a0 : (List (Rat × Rat))) (a1 : Rat) : Prop := (List.length a0 ≤ 100000) ∧ (∀ (z128 : (Rat × Rat)), z128 ∈ a0 → ((Sm2 a1 z128.1))) ∧ (ok_law_sum (List.map (fun (z128 : (Rat × Rat)) => z128.2) (List.filter (fun (z128 : (Rat × Rat)) => decide (a1 < z128.1)) a0)))
theorem k_law_above (a0 : (List (Rat × Rat))) (a1 : Rat) (h : ok_law_above a0 a1) : FnC f__law_above [.d ((eT (eP fr fr)) a0), .d (fr a1)] (fr (p_law_above a0 a1)) := by
  unfold ok_law_above at h
  unfold f__law_above p_law_above
  exact fn_c rfl (fun B => (s_ret (e_call (k_law_sum (List.map (fun (z128 : (Rat × Rat)) => z128.2) (List.filter (fun (z128 : (Rat × Rat)) => decide (a1 < z128.1)) a0)) (h).2.2) (a_cons (oldL (l_lcf (eP fr fr) fr (fun (z128 : (Rat × Rat)) => decide (a1 < z128.1)) (fun (z128 : (Rat × Rat)) => z128.2) (itT (ea := (eP fr fr)) (e_var rfl)) (h).1 (fun z128 hz128 => ⟨_, (g_pp g_nm g_nm), (t_b (e_call (k_funder a1 z128.1 ((h).2.1 z128 hz128)) (a_cons (e_var rfl) (a_cons (e_var rfl) a_nil)) rfl)), fun hk131 => (e_var rfl)⟩))) a_nil) rfl)))

def S_law_spots (a1 : (List (Rat × Rat))) (r : (List Rat)) : Prop := (∃ s138 : (List Rat), RelF (fun (s138 : (List Rat)) (z137 : Int) (s139 : (List Rat)) => (∃ v145 : Rat, v145 ∈ ([((1 : Rat) / 2), ((-1 : Rat) / 2), ((1 : Rat) / 3), (9 : Rat), (-20 : Rat)] : List Rat) ∧ (∃ v148 : Rat, v148 ∈ s138 ∧ s139 = (s138 ++ [(v148 + v145)])))) (List.map (fun (z134 : (Rat × Rat)) => z134.1) a1) (rng 0 (3 : Int)) s138 ∧ r = s138)
def ok_law_spots (a1 : (List (Rat × Rat))) : Prop := (List.length a1 ≤ 100000) ∧ (-(2 ^ 62) ≤ (3 : Int) ∧ (3 : Int) < 2 ^ 62) ∧ (∀ (dn140 : List Int) (z137 : Int) (rs141 : List Int), (rng 0 (3 : Int)) = dn140 ++ z137 :: rs141 → ∀ (s138 : (List Rat)), RelF (fun (s138 : (List Rat)) (z137 : Int) (s139 : (List Rat)) => (∃ v145 : Rat, v145 ∈ ([((1 : Rat) / 2), ((-1 : Rat) / 2), ((1 : Rat) / 3), (9 : Rat), (-20 : Rat)] : List Rat) ∧ (∃ v148 : Rat, v148 ∈ s138 ∧ s139 = (s138 ++ [(v148 + v145)])))) (List.map (fun (z134 : (Rat × Rat)) => z134.1) a1) dn140 s138 → ((([((1 : Rat) / 2), ((-1 : Rat) / 2), ((1 : Rat) / 3), (9 : Rat), (-20 : Rat)] : List Rat) ≠ [] ∧ List.length ([((1 : Rat) / 2), ((-1 : Rat) / 2), ((1 : Rat) / 3), (9 : Rat), (-20 : Rat)] : List Rat) < 1000) ∧ (∀ (v145 : Rat), v145 ∈ ([((1 : Rat) / 2), ((-1 : Rat) / 2), ((1 : Rat) / 3), (9 : Rat), (-20 : Rat)] : List Rat) → ((List.length s138 ≤ 100000) ∧ (s138 ≠ [] ∧ List.length s138 < 1000) ∧ (∀ (v148 : Rat), v148 ∈ s138 → ((Sm2 v148 v145)))))))
theorem k_law_spots (j : Nat) (a1 : (List (Rat × Rat))) (h : ok_law_spots a1) : FnW j f__law_spots [.loc j, .d ((eT (eP fr fr)) a1)] (fun x => ∃ r, S_law_spots a1 r ∧ x = (eL fr) r) := by
  unfold ok_law_spots at h
  unfold f__law_spots S_law_spots
  exact fn_w rfl (fun B hB => (ws_newL (ea := fr) (l_lcm (eP fr fr) fr (fun (z134 : (Rat × Rat)) => z134.1) (itT (ea := (eP fr fr)) (e_var rfl)) (h).1 (fun z134 hz134 => ⟨_, (g_pp g_nm g_nm), (e_var rfl)⟩)) (fun k136 => (ws_forM eI (fun (s138 : (List Rat)) => ([some (.loc j), some (.d ((eT (eP fr fr)) a1)), some (.ml k136 (List.map fr s138)), none, none, none, none] : AE)) (fun (s138 : (List Rat)) (z137 : Int) (s139 : (List Rat)) => (∃ v145 : Rat, v145 ∈ ([((1 : Rat) / 2), ((-1 : Rat) / 2), ((1 : Rat) / 3), (9 : Rat), (-20 : Rat)] : List Rat) ∧ (∃ v148 : Rat, v148 ∈ s138 ∧ s139 = (s138 ++ [(v148 + v145)])))) (List.map (fun (z134 : (Rat × Rat)) => z134.1) a1) (.k (.k (.k (.n (.n (.n (.n .nil))))))) (wcL_pure (rg1 i_lit (h).2.1) ⟨_, rfl, (fun dn140 z137 rs141 hdn140 s138 hs138 => ⟨_, g_nm, (wm_set (wc_call hB (wcA_var rfl (wcA_cons (wc_pure (oldL (lstN (ea := fr) (l := [((1 : Rat) / 2), ((-1 : Rat) / 2), ((1 : Rat) / 3), (9 : Rat), (-20 : Rat)]) (a_cons (q_lit (q := ((1 : Rat) / 2)) i_lit i_lit (by decide +kernel)) (a_cons (q_lit (q := ((-1 : Rat) / 2)) (i_neg i_lit) i_lit (by decide +kernel)) (a_cons (q_lit (q := ((1 : Rat) / 3)) i_lit i_lit (by decide +kernel)) (a_cons (q_lit (q := (9 : Rat)) i_lit i_lit (by decide +kernel)) (a_cons (q_lit (q := (-20 : Rat)) (i_neg i_lit) i_lit (by decide +kernel)) a_nil))))) rfl (by simp))) (wcA_nil ⟨rfl, (k_gL fr ([((1 : Rat) / 2), ((-1 : Rat) / 2), ((1 : Rat) / 3), (9 : Rat), (-20 : Rat)] : List Rat) ((h).2.2 dn140 z137 rs141 hdn140 s138 hs138).1).mono (fun x hx => by obtain ⟨v145, hv145, rfl⟩ := hx; exact (wm_app (ea := fr) (l := s138) rfl (((h).2.2 dn140 z137 rs141 hdn140 s138 hs138).2 v145 hv145).1 (wc_callP (j := j) (wcA_cons (wc_pickM (ea := fr) (l := s138) hB rfl (mr_ml rfl) (k_gM fr (((h).2.2 dn140 z137 rs141 hdn140 s138 hs138).2 v145 hv145).2.1) (fun v148 hv148 => (wcA_cons (wc_pure (e_var rfl) (wcA_nil ⟨rfl, rfl, _, (k_fplus v148 v145 ((((h).2.2 dn140 z137 rs141 hdn140 s138 hs138).2 v145 hv145).2.2 v148 hv148)), ⟨(v148 + v145), rfl, (wm_next (u := (s138 ++ [(v148 + v145)])) (.k (.k (.k (.n (.n (.n (.n .nil))))))) ⟨v145, hv145, ⟨v148, hv148, rfl⟩⟩)⟩⟩)))))))))⟩))))))⟩), (fun s138 hs138 => (ws_wk (.k (.k (.v (.k (.k (.k (.k .nil))))))) (ws_pure (s_retL (ea := fr) (l := s138) rfl) ⟨_, ⟨s138, hs138, rfl⟩, rfl⟩)))⟩)))))

def law_at_right_told (a0 : (List (Rat × Rat))) (a1 : Rat)  : (List Rat) := ([(p_capped a0 a1), (p_excess a0 a1), (p_chance_above a0 a1), (p_chance_of a0 a1)] : List Rat)
def law_at_right_told2 (a0 : (List (Rat × Rat))) (a1 : Rat)  : (List Rat) := (([(p_capped a0 a1), (p_excess a0 a1)] : List Rat) ++ ([(p_chance_above a0 a1), (p_chance_of a0 a1)] : List Rat))
def p_law_at_right (a0 : (List (Rat × Rat))) (a1 : Rat) : Bool := (if (!decide (PyData.shown ((eL fr) (law_at_right_told a0 a1 )) = PyData.shown ((eL fr) (([(p_law_capped a0 a1), (p_law_excess a0 a1), (p_law_above a0 a1)] : List Rat) ++ [(p_law_sum (List.map (fun (z157 : (Rat × Rat)) => z157.2) (List.filter (fun (z157 : (Rat × Rat)) => decide (z157.1 = a1)) a0)))])))) = true then false else (decide (PyData.shown ((eL fr) (law_at_right_told2 a0 a1 )) = PyData.shown ((eL fr) (([(p_law_capped a0 a1), (p_law_excess a0 a1), (p_law_above a0 a1)] : List Rat) ++ [(p_law_sum (List.map (fun (z157 : (Rat × Rat)) => z157.2) (List.filter (fun (z157 : (Rat × Rat)) => decide (z157.1 = a1)) a0)))]))) && decide (((ix (([(p_law_capped a0 a1), (p_law_excess a0 a1), (p_law_above a0 a1)] : List Rat) ++ [(p_law_sum (List.map (fun (z157 : (Rat × Rat)) => z157.2) (List.filter (fun (z157 : (Rat × Rat)) => decide (z157.1 = a1)) a0)))]) (0 : Int)) + (ix (([(p_law_capped a0 a1), (p_law_excess a0 a1), (p_law_above a0 a1)] : List Rat) ++ [(p_law_sum (List.map (fun (z157 : (Rat × Rat)) => z157.2) (List.filter (fun (z157 : (Rat × Rat)) => decide (z157.1 = a1)) a0)))]) (1 : Int))) = (p_mean a0))))
def ok_law_at_right (a0 : (List (Rat × Rat))) (a1 : Rat) : Prop := (ok_law_capped a0 a1) ∧ (ok_law_excess a0 a1) ∧ (ok_law_above a0 a1) ∧ (List.length a0 ≤ 100000) ∧ (ok_law_sum (List.map (fun (z157 : (Rat × Rat)) => z157.2) (List.filter (fun (z157 : (Rat × Rat)) => decide (z157.1 = a1)) a0))) ∧ (List.length ([(p_law_capped a0 a1), (p_law_excess a0 a1), (p_law_above a0 a1)] : List Rat) ≤ 100000) ∧ (ok_capped a0 a1) ∧ (ok_excess a0 a1) ∧ (ok_chance_above a0 a1) ∧ (ok_chance_of a0 a1) ∧ (RpOk ((eL fr) (law_at_right_told a0 a1 ))) ∧ (RpOk ((eL fr) (([(p_law_capped a0 a1), (p_law_excess a0 a1), (p_law_above a0 a1)] : List Rat) ++ [(p_law_sum (List.map (fun (z157 : (Rat × Rat)) => z157.2) (List.filter (fun (z157 : (Rat × Rat)) => decide (z157.1 = a1)) a0)))]))) ∧ ((!decide (PyData.shown ((eL fr) (law_at_right_told a0 a1 )) = PyData.shown ((eL fr) (([(p_law_capped a0 a1), (p_law_excess a0 a1), (p_law_above a0 a1)] : List Rat) ++ [(p_law_sum (List.map (fun (z157 : (Rat × Rat)) => z157.2) (List.filter (fun (z157 : (Rat × Rat)) => decide (z157.1 = a1)) a0)))])))) = false → ((ok_capped a0 a1) ∧ (ok_excess a0 a1) ∧ (ok_chance_above a0 a1) ∧ (ok_chance_of a0 a1) ∧ (List.length ([(p_capped a0 a1), (p_excess a0 a1)] : List Rat) + List.length ([(p_chance_above a0 a1), (p_chance_of a0 a1)] : List Rat) ≤ 10000) ∧ (RpOk ((eL fr) (law_at_right_told2 a0 a1 ))) ∧ (RpOk ((eL fr) (([(p_law_capped a0 a1), (p_law_excess a0 a1), (p_law_above a0 a1)] : List Rat) ++ [(p_law_sum (List.map (fun (z157 : (Rat × Rat)) => z157.2) (List.filter (fun (z157 : (Rat × Rat)) => decide (z157.1 = a1)) a0)))]))) ∧ (decide (PyData.shown ((eL fr) (law_at_right_told2 a0 a1 )) = PyData.shown ((eL fr) (([(p_law_capped a0 a1), (p_law_excess a0 a1), (p_law_above a0 a1)] : List Rat) ++ [(p_law_sum (List.map (fun (z157 : (Rat × Rat)) => z157.2) (List.filter (fun (z157 : (Rat × Rat)) => decide (z157.1 = a1)) a0)))]))) = true → ((IxOk (List.length (([(p_law_capped a0 a1), (p_law_excess a0 a1), (p_law_above a0 a1)] : List Rat) ++ [(p_law_sum (List.map (fun (z157 : (Rat × Rat)) => z157.2) (List.filter (fun (z157 : (Rat × Rat)) => decide (z157.1 = a1)) a0)))])) (0 : Int)) ∧ (IxOk (List.length (([(p_law_capped a0 a1), (p_law_excess a0 a1), (p_law_above a0 a1)] : List Rat) ++ [(p_law_sum (List.map (fun (z157 : (Rat × Rat)) => z157.2) (List.filter (fun (z157 : (Rat × Rat)) => decide (z157.1 = a1)) a0)))])) (1 : Int)) ∧ (Sm2 (ix (([(p_law_capped a0 a1), (p_law_excess a0 a1), (p_law_above a0 a1)] : List Rat) ++ [(p_law_sum (List.map (fun (z157 : (Rat × Rat)) => z157.2) (List.filter (fun (z157 : (Rat × Rat)) => decide (z157.1 = a1)) a0)))]) (0 : Int)) (ix (([(p_law_capped a0 a1), (p_law_excess a0 a1), (p_law_above a0 a1)] : List Rat) ++ [(p_law_sum (List.map (fun (z157 : (Rat × Rat)) => z157.2) (List.filter (fun (z157 : (Rat × Rat)) => decide (z157.1 = a1)) a0)))]) (1 : Int))) ∧ (ok_mean a0)))))
theorem k_law_at_right (a0 : (List (Rat × Rat))) (a1 : Rat) (h : ok_law_at_right a0 a1) : FnC f__law_at_right [.d ((eT (eP fr fr)) a0), .d (fr a1)] (eB (p_law_at_right a0 a1)) := by
  unfold ok_law_at_right at h
  unfold f__law_at_right p_law_at_right
  exact fn_c rfl (fun B => (s_newL (ea := fr) (lstN (ea := fr) (l := [(p_law_capped a0 a1), (p_law_excess a0 a1), (p_law_above a0 a1)]) (a_cons (e_call (k_law_capped a0 a1 (h).1) (a_cons (e_var rfl) (a_cons (e_var rfl) a_nil)) rfl) (a_cons (e_call (k_law_excess a0 a1 (h).2.1) (a_cons (e_var rfl) (a_cons (e_var rfl) a_nil)) rfl) (a_cons (e_call (k_law_above a0 a1 (h).2.2.1) (a_cons (e_var rfl) (a_cons (e_var rfl) a_nil)) rfl) a_nil))) rfl (by simp)) (fun k156 => (s_appL (ea := fr) (l := ([(p_law_capped a0 a1), (p_law_excess a0 a1), (p_law_above a0 a1)] : List Rat)) rfl (e_call (k_law_sum (List.map (fun (z157 : (Rat × Rat)) => z157.2) (List.filter (fun (z157 : (Rat × Rat)) => decide (z157.1 = a1)) a0)) (h).2.2.2.2.1) (a_cons (oldL (l_lcf (eP fr fr) fr (fun (z157 : (Rat × Rat)) => decide (z157.1 = a1)) (fun (z157 : (Rat × Rat)) => z157.2) (itT (ea := (eP fr fr)) (e_var rfl)) (h).2.2.2.1 (fun z157 hz157 => ⟨_, (g_pp g_nm g_nm), (t_b (y_eq eq_fr (e_var rfl) (e_var rfl))), fun hk159 => (e_var rfl)⟩))) a_nil) rfl) (h).2.2.2.2.2.1 (s_wk (.k (.k (.v (.k (.k (.k .nil)))))) (s_set (show Ev _ _ _ ((eL fr) (law_at_right_told a0 a1 )) from (oldL (lstN (ea := fr) (l := [(p_capped a0 a1), (p_excess a0 a1), (p_chance_above a0 a1), (p_chance_of a0 a1)]) (a_cons (e_call (k_capped a0 a1 (h).2.2.2.2.2.2.1) (a_cons (e_var rfl) (a_cons (e_var rfl) a_nil)) rfl) (a_cons (e_call (k_excess a0 a1 (h).2.2.2.2.2.2.2.1) (a_cons (e_var rfl) (a_cons (e_var rfl) a_nil)) rfl) (a_cons (e_call (k_chance_above a0 a1 (h).2.2.2.2.2.2.2.2.1) (a_cons (e_var rfl) (a_cons (e_var rfl) a_nil)) rfl) (a_cons (e_call (k_chance_of a0 a1 (h).2.2.2.2.2.2.2.2.2.1) (a_cons (e_var rfl) (a_cons (e_var rfl) a_nil)) rfl) a_nil)))) rfl (by simp)))) (s_if (fun v => Oc.rt (eB v)) (t_b (y_sne (x := (eL fr) (law_at_right_told a0 a1 )) (y := (eL fr) (([(p_law_capped a0 a1), (p_law_excess a0 a1), (p_law_above a0 a1)] : List Rat) ++ [(p_law_sum (List.map (fun (z157 : (Rat × Rat)) => z157.2) (List.filter (fun (z157 : (Rat × Rat)) => decide (z157.1 = a1)) a0)))])) (e_rep (e_var rfl) (h).2.2.2.2.2.2.2.2.2.2.1) (m_rep (xs := List.map fr (([(p_law_capped a0 a1), (p_law_excess a0 a1), (p_law_above a0 a1)] : List Rat) ++ [(p_law_sum (List.map (fun (z157 : (Rat × Rat)) => z157.2) (List.filter (fun (z157 : (Rat × Rat)) => decide (z157.1 = a1)) a0)))])) (mr_lv rfl) (h).2.2.2.2.2.2.2.2.2.2.2.1) (h).2.2.2.2.2.2.2.2.2.2.1 (h).2.2.2.2.2.2.2.2.2.2.2.1)) (fun hk183 => (s_assoc (s_ret b_lit))) (fun hk183 => (s_skip (s_set (oldL (lstN (ea := fr) (l := [(p_capped a0 a1), (p_excess a0 a1)]) (a_cons (e_callK (k_capped a0 a1 ((h).2.2.2.2.2.2.2.2.2.2.2.2 hk183).1) a_nil (a_cons (e_var rfl) (a_cons (e_var rfl) a_nil)) rfl rfl rfl rfl) (a_cons (e_callK (k_excess a0 a1 ((h).2.2.2.2.2.2.2.2.2.2.2.2 hk183).2.1) a_nil (a_cons (e_var rfl) (a_cons (e_var rfl) a_nil)) rfl rfl rfl rfl) a_nil)) rfl (by simp))) (s_set (show Ev _ _ _ ((eL fr) (law_at_right_told2 a0 a1 )) from (catL (ea := fr) (e_var rfl) (oldL (lstN (ea := fr) (l := [(p_chance_above a0 a1), (p_chance_of a0 a1)]) (a_cons (e_callK (k_chance_above a0 a1 ((h).2.2.2.2.2.2.2.2.2.2.2.2 hk183).2.2.1) a_nil (a_cons (e_var rfl) (a_cons (e_var rfl) a_nil)) rfl rfl rfl rfl) (a_cons (e_callK (k_chance_of a0 a1 ((h).2.2.2.2.2.2.2.2.2.2.2.2 hk183).2.2.2.1) a_nil (a_cons (e_var rfl) (a_cons (e_var rfl) a_nil)) rfl rfl rfl rfl) a_nil)) rfl (by simp))) ((h).2.2.2.2.2.2.2.2.2.2.2.2 hk183).2.2.2.2.1)) (s_ret (y_and (y_seq (x := (eL fr) (law_at_right_told2 a0 a1 )) (y := (eL fr) (([(p_law_capped a0 a1), (p_law_excess a0 a1), (p_law_above a0 a1)] : List Rat) ++ [(p_law_sum (List.map (fun (z157 : (Rat × Rat)) => z157.2) (List.filter (fun (z157 : (Rat × Rat)) => decide (z157.1 = a1)) a0)))])) (e_rep (e_var rfl) ((h).2.2.2.2.2.2.2.2.2.2.2.2 hk183).2.2.2.2.2.1) (m_rep (xs := List.map fr (([(p_law_capped a0 a1), (p_law_excess a0 a1), (p_law_above a0 a1)] : List Rat) ++ [(p_law_sum (List.map (fun (z157 : (Rat × Rat)) => z157.2) (List.filter (fun (z157 : (Rat × Rat)) => decide (z157.1 = a1)) a0)))])) (mr_lv rfl) ((h).2.2.2.2.2.2.2.2.2.2.2.2 hk183).2.2.2.2.2.2.1) ((h).2.2.2.2.2.2.2.2.2.2.2.2 hk183).2.2.2.2.2.1 ((h).2.2.2.2.2.2.2.2.2.2.2.2 hk183).2.2.2.2.2.2.1) (fun hk181 => (y_eq eq_fr (e_call (k_fplus (ix (([(p_law_capped a0 a1), (p_law_excess a0 a1), (p_law_above a0 a1)] : List Rat) ++ [(p_law_sum (List.map (fun (z157 : (Rat × Rat)) => z157.2) (List.filter (fun (z157 : (Rat × Rat)) => decide (z157.1 = a1)) a0)))]) (0 : Int)) (ix (([(p_law_capped a0 a1), (p_law_excess a0 a1), (p_law_above a0 a1)] : List Rat) ++ [(p_law_sum (List.map (fun (z157 : (Rat × Rat)) => z157.2) (List.filter (fun (z157 : (Rat × Rat)) => decide (z157.1 = a1)) a0)))]) (1 : Int)) (((h).2.2.2.2.2.2.2.2.2.2.2.2 hk183).2.2.2.2.2.2.2 hk181).2.2.1) (a_cons (m_ix (ea := fr) (l := (([(p_law_capped a0 a1), (p_law_excess a0 a1), (p_law_above a0 a1)] : List Rat) ++ [(p_law_sum (List.map (fun (z157 : (Rat × Rat)) => z157.2) (List.filter (fun (z157 : (Rat × Rat)) => decide (z157.1 = a1)) a0)))])) (mr_lv rfl) i_lit (((h).2.2.2.2.2.2.2.2.2.2.2.2 hk183).2.2.2.2.2.2.2 hk181).1) (a_cons (m_ix (ea := fr) (l := (([(p_law_capped a0 a1), (p_law_excess a0 a1), (p_law_above a0 a1)] : List Rat) ++ [(p_law_sum (List.map (fun (z157 : (Rat × Rat)) => z157.2) (List.filter (fun (z157 : (Rat × Rat)) => decide (z157.1 = a1)) a0)))])) (mr_lv rfl) i_lit (((h).2.2.2.2.2.2.2.2.2.2.2.2 hk183).2.2.2.2.2.2.2 hk181).2.1) a_nil)) rfl) (e_call (k_mean a0 (((h).2.2.2.2.2.2.2.2.2.2.2.2 hk183).2.2.2.2.2.2.2 hk181).2.2.2) (a_cons (e_var rfl) a_nil) rfl))))))))))))))))

def p_law_two_right (a0 : (List (Rat × Rat))) (a1 : Rat) (a2 : Rat) : Bool := (if decide (a2 < a1) = true then (if decide ((p_capped a0 a1) < (p_capped a0 a2)) = true then false else (if decide ((p_excess a0 a2) < (p_excess a0 a1)) = true then false else (!decide ((p_chance_above a0 a2) < (p_chance_above a0 a1))))) else (if decide ((p_capped a0 a2) < (p_capped a0 a1)) = true then false else (if decide ((p_excess a0 a1) < (p_excess a0 a2)) = true then false else (!decide ((p_chance_above a0 a1) < (p_chance_above a0 a2))))))
def ok_law_two_right (a0 : (List (Rat × Rat))) (a1 : Rat) (a2 : Rat) : Prop := (Sm2 a2 a1) ∧ (decide (a2 < a1) = true → ((ok_capped a0 a1) ∧ (ok_capped a0 a2) ∧ (Sm2 (p_capped a0 a1) (p_capped a0 a2)) ∧ (decide ((p_capped a0 a1) < (p_capped a0 a2)) = false → ((ok_excess a0 a2) ∧ (ok_excess a0 a1) ∧ (Sm2 (p_excess a0 a2) (p_excess a0 a1)) ∧ (decide ((p_excess a0 a2) < (p_excess a0 a1)) = false → ((ok_chance_above a0 a2) ∧ (ok_chance_above a0 a1) ∧ (Sm2 (p_chance_above a0 a2) (p_chance_above a0 a1)))))))) ∧ (decide (a2 < a1) = false → ((ok_capped a0 a2) ∧ (ok_capped a0 a1) ∧ (Sm2 (p_capped a0 a2) (p_capped a0 a1)) ∧ (decide ((p_capped a0 a2) < (p_capped a0 a1)) = false → ((ok_excess a0 a1) ∧ (ok_excess a0 a2) ∧ (Sm2 (p_excess a0 a1) (p_excess a0 a2)) ∧ (decide ((p_excess a0 a1) < (p_excess a0 a2)) = false → ((ok_chance_above a0 a1) ∧ (ok_chance_above a0 a2) ∧ (Sm2 (p_chance_above a0 a1) (p_chance_above a0 a2))))))))
theorem k_law_two_right (a0 : (List (Rat × Rat))) (a1 : Rat) (a2 : Rat) (h : ok_law_two_right a0 a1 a2) : FnC f__law_two_right [.d ((eT (eP fr fr)) a0), .d (fr a1), .d (fr a2)] (eB (p_law_two_right a0 a1 a2)) := by
  unfold ok_law_two_right at h
  unfold f__law_two_right p_law_two_right
  exact fn_c rfl (fun B => (s_if (fun v => Oc.rt (eB v)) (t_b (e_call (k_funder a2 a1 (h).1) (a_cons (e_var rfl) (a_cons (e_var rfl) a_nil)) rfl)) (fun hk222 => (s_assoc (s_par (e_var rfl) (e_var rfl) (s_skip (s_if (fun v => Oc.rt (eB v)) (t_b (e_call (k_funder (p_capped a0 a1) (p_capped a0 a2) ((h).2.1 hk222).2.2.1) (a_cons (e_call (k_capped a0 a1 ((h).2.1 hk222).1) (a_cons (e_var rfl) (a_cons (e_var rfl) a_nil)) rfl) (a_cons (e_call (k_capped a0 a2 ((h).2.1 hk222).2.1) (a_cons (e_var rfl) (a_cons (e_var rfl) a_nil)) rfl) a_nil)) rfl)) (fun hk202 => (s_assoc (s_ret b_lit))) (fun hk202 => (s_skip (s_if (fun v => Oc.rt (eB v)) (t_b (e_call (k_funder (p_excess a0 a2) (p_excess a0 a1) (((h).2.1 hk222).2.2.2 hk202).2.2.1) (a_cons (e_call (k_excess a0 a2 (((h).2.1 hk222).2.2.2 hk202).1) (a_cons (e_var rfl) (a_cons (e_var rfl) a_nil)) rfl) (a_cons (e_call (k_excess a0 a1 (((h).2.1 hk222).2.2.2 hk202).2.1) (a_cons (e_var rfl) (a_cons (e_var rfl) a_nil)) rfl) a_nil)) rfl)) (fun hk200 => (s_assoc (s_ret b_lit))) (fun hk200 => (s_skip (s_ret (y_not (e_call (k_funder (p_chance_above a0 a2) (p_chance_above a0 a1) ((((h).2.1 hk222).2.2.2 hk202).2.2.2 hk200).2.2) (a_cons (e_call (k_chance_above a0 a2 ((((h).2.1 hk222).2.2.2 hk202).2.2.2 hk200).1) (a_cons (e_var rfl) (a_cons (e_var rfl) a_nil)) rfl) (a_cons (e_call (k_chance_above a0 a1 ((((h).2.1 hk222).2.2.2 hk202).2.2.2 hk200).2.1) (a_cons (e_var rfl) (a_cons (e_var rfl) a_nil)) rfl) a_nil)) rfl))))))))))))) (fun hk222 => (s_skip (s_if (fun v => Oc.rt (eB v)) (t_b (e_call (k_funder (p_capped a0 a2) (p_capped a0 a1) ((h).2.2 hk222).2.2.1) (a_cons (e_call (k_capped a0 a2 ((h).2.2 hk222).1) (a_cons (e_var rfl) (a_cons (e_var rfl) a_nil)) rfl) (a_cons (e_call (k_capped a0 a1 ((h).2.2 hk222).2.1) (a_cons (e_var rfl) (a_cons (e_var rfl) a_nil)) rfl) a_nil)) rfl)) (fun hk220 => (s_assoc (s_ret b_lit))) (fun hk220 => (s_skip (s_if (fun v => Oc.rt (eB v)) (t_b (e_call (k_funder (p_excess a0 a1) (p_excess a0 a2) (((h).2.2 hk222).2.2.2 hk220).2.2.1) (a_cons (e_call (k_excess a0 a1 (((h).2.2 hk222).2.2.2 hk220).1) (a_cons (e_var rfl) (a_cons (e_var rfl) a_nil)) rfl) (a_cons (e_call (k_excess a0 a2 (((h).2.2 hk222).2.2.2 hk220).2.1) (a_cons (e_var rfl) (a_cons (e_var rfl) a_nil)) rfl) a_nil)) rfl)) (fun hk218 => (s_assoc (s_ret b_lit))) (fun hk218 => (s_skip (s_ret (y_not (e_call (k_funder (p_chance_above a0 a1) (p_chance_above a0 a2) ((((h).2.2 hk222).2.2.2 hk220).2.2.2 hk218).2.2) (a_cons (e_call (k_chance_above a0 a1 ((((h).2.2 hk222).2.2.2 hk220).2.2.2 hk218).1) (a_cons (e_var rfl) (a_cons (e_var rfl) a_nil)) rfl) (a_cons (e_call (k_chance_above a0 a2 ((((h).2.2 hk222).2.2.2 hk220).2.2.2 hk218).2.1) (a_cons (e_var rfl) (a_cons (e_var rfl) a_nil)) rfl) a_nil)) rfl)))))))))))))

def p_law_right_end  : Bool := true
def ok_law_right_end  : Prop := True
theorem k_law_right_end (B : Bs)  (h : ok_law_right_end ) : EvS B (sSeq (sRet (mD true (.bool true))) sNext) ([none, none, none, none] : AE) (.rt (eB (p_law_right_end ))) := by
  unfold ok_law_right_end at h
  unfold p_law_right_end
  exact (s_ret b_lit)

def S_law_right  (r : Bool) : Prop := (∃ v226 : (List (Rat × Rat)), S_law_lot (4 : Int) v226 ∧ (((!decide (PyData.shown ((eL fr) ([(p_mean v226), (p_mean v226)] : List Rat)) = PyData.shown ((eL fr) (rep ([(p_law_mean v226)] : List Rat) (2 : Int))))) = true ∧ r = false) ∨ ((!decide (PyData.shown ((eL fr) ([(p_mean v226), (p_mean v226)] : List Rat)) = PyData.shown ((eL fr) (rep ([(p_law_mean v226)] : List Rat) (2 : Int))))) = false ∧ (∃ v235 : (List Rat), S_law_spots v226 v235 ∧ ((∃ z236 : Rat, z236 ∈ v235 ∧ (((!(p_law_at_right v226 z236)) = true ∧ ((true = true ∧ r = false) ∨ (true = false ∧ False))) ∨ ((!(p_law_at_right v226 z236)) = false ∧ (∃ v241 : Rat, v241 ∈ v235 ∧ (((!(p_law_two_right v226 z236 v241)) = true ∧ r = false) ∨ ((!(p_law_two_right v226 z236 v241)) = false ∧ False)))))) ∨ r = (p_law_right_end ))))))
def ok_law_right  : Prop := (ok_law_lot (4 : Int)) ∧ (∀ (v226 : (List (Rat × Rat))), S_law_lot (4 : Int) v226 → ((ok_mean v226) ∧ (ok_mean v226) ∧ (ok_law_mean v226) ∧ ((0 ≤ (2 : Int) ∧ (2 : Int) ≤ 1000) ∧ List.length ([(p_law_mean v226)] : List Rat) ≤ 1000) ∧ (RpOk ((eL fr) ([(p_mean v226), (p_mean v226)] : List Rat))) ∧ (RpOk ((eL fr) (rep ([(p_law_mean v226)] : List Rat) (2 : Int)))) ∧ ((!decide (PyData.shown ((eL fr) ([(p_mean v226), (p_mean v226)] : List Rat)) = PyData.shown ((eL fr) (rep ([(p_law_mean v226)] : List Rat) (2 : Int))))) = false → ((ok_law_spots v226) ∧ (∀ (v235 : (List Rat)), S_law_spots v226 v235 → ((∀ (z236 : Rat), z236 ∈ v235 → ((ok_law_at_right v226 z236) ∧ ((!(p_law_at_right v226 z236)) = false → ((v235 ≠ [] ∧ List.length v235 < 1000) ∧ (∀ (v241 : Rat), v241 ∈ v235 → ((ok_law_two_right v226 z236 v241))))))) ∧ (ok_law_right_end )))))))
theorem k_law_right (j : Nat)  (h : ok_law_right ) : FnW j f__law_right [.loc j] (fun x => ∃ r, S_law_right  r ∧ x = eB r) := by
  unfold ok_law_right at h
  unfold f__law_right S_law_right
  exact fn_w rfl (fun B hB => (ws_set (wc_call hB (wcA_var rfl (wcA_cons (wc_pure i_lit (wcA_nil ⟨rfl, (k_law_lot j (4 : Int) (h).1).mono (fun x hx => by obtain ⟨v226, hv226, rfl⟩ := hx; exact (ws_if (wcT_pure (t_b (y_reprne (oldL (lstN (ea := fr) (l := [(p_mean v226), (p_mean v226)]) (a_cons (e_call (k_mean v226 ((h).2 v226 hv226).1) (a_cons (e_var rfl) a_nil) rfl) (a_cons (e_callK (k_mean v226 ((h).2 v226 hv226).2.1) a_nil (a_cons (e_var rfl) a_nil) rfl rfl rfl rfl) a_nil)) rfl (by simp))) (repL (ea := fr) (oldL (lstN (ea := fr) (l := [(p_law_mean v226)]) (a_cons (e_call (k_law_mean v226 ((h).2 v226 hv226).2.2.1) (a_cons (e_var rfl) a_nil) rfl) a_nil) rfl (by simp))) i_lit ((h).2 v226 hv226).2.2.2.1) ((h).2 v226 hv226).2.2.2.2.1 ((h).2 v226 hv226).2.2.2.2.2.1)) ⟨fun hk233 => (ws_assoc (ws_ret (wc_pure b_lit ⟨_, ⟨v226, hv226, .inl ⟨hk233, rfl⟩⟩, rfl⟩))), fun hk233 => (ws_skip (ws_set (wc_call hB (wcA_var rfl (wcA_cons (wc_pure (e_var rfl) (wcA_nil ⟨rfl, (k_law_spots j v226 (((h).2 v226 hv226).2.2.2.2.2.2 hk233).1).mono (fun x hx => by obtain ⟨v235, hv235, rfl⟩ := hx; exact (ws_wk (.k (.k (.k (.n .nil)))) (ws_forD fr v235 (itL (ea := fr) (e_var rfl)) (fun z236 hz236 => ⟨_, g_nm, (wn_if (wcT_or (wcT_pure (t_not (t_b (e_call (k_law_at_right v226 z236 (((((h).2 v226 hv226).2.2.2.2.2.2 hk233).2 v235 hv235).1 z236 hz236).1) (a_cons (e_var rfl) (a_cons (e_var rfl) a_nil)) rfl))) ⟨fun hk238 => ⟨fun hk239 => (wn_assoc (wn_ret (wc_pure b_lit ⟨_, ⟨v226, hv226, .inr ⟨hk233, ⟨v235, hv235, .inl ⟨z236, hz236, .inl ⟨hk238, .inl ⟨hk239, rfl⟩⟩⟩⟩⟩⟩, rfl⟩))), fun hk239 => (wn_skip (wn_next (.k (.k (.k (.n .nil))))))⟩, fun hk238 => (wcT_not (wcT_B1 (wc_callP (j := j) (wcA_cons (wc_pure (e_var rfl) (wcA_cons (wc_pure (e_var rfl) (wcA_cons (wc_call hB (wcA_var rfl (wcA_cons (wc_pure (e_var rfl) (wcA_nil ⟨rfl, (k_gL fr v235 ((((((h).2 v226 hv226).2.2.2.2.2.2 hk233).2 v235 hv235).1 z236 hz236).2 hk238).1).mono (fun x hx => by obtain ⟨v241, hv241, rfl⟩ := hx; exact (wcA_nil ⟨rfl, rfl, _, (k_law_two_right v226 z236 v241 (((((((h).2 v226 hv226).2.2.2.2.2.2 hk233).2 v235 hv235).1 z236 hz236).2 hk238).2 v241 hv241)), ⟨_, rfl, ⟨fun hk243 => (wn_assoc (wn_ret (wc_pure b_lit ⟨_, ⟨v226, hv226, .inr ⟨hk233, ⟨v235, hv235, .inl ⟨z236, hz236, .inr ⟨hk238, ⟨v241, hv241, .inl ⟨hk243, rfl⟩⟩⟩⟩⟩⟩⟩, rfl⟩))), fun hk243 => (wn_skip (wn_next (.k (.k (.k (.n .nil))))))⟩⟩⟩))⟩)))))))))))))⟩)))⟩) (ws_wk (.n (.n (.n (.n .nil)))) (ws_pure (k_law_right_end B  ((((h).2 v226 hv226).2.2.2.2.2.2 hk233).2 v235 hv235).2) ⟨_, ⟨v226, hv226, .inr ⟨hk233, ⟨v235, hv235, .inr (rfl)⟩⟩⟩, rfl⟩)))))⟩)))))))⟩)))⟩)))))))

/-! draws of boxes: numbers of NB, chances with bottoms of 27720 -/
theorem lt480 {n : Nat} (h : n < 2 ^ 300) : n < 2 ^ 480 := Nat.lt_of_lt_of_le h (Nat.pow_le_pow_right (by decide) (by decide))
theorem p27 {n : Nat} (h : n ≤ 6) : 27720 ^ n ≤ 453690155404813307904000000 := Nat.le_trans (Nat.pow_le_pow_right (by decide) h) (by decide)
theorem p27ne (n : Nat) : 27720 ^ n ≠ 0 := Nat.ne_of_gt (Nat.pow_pos (by decide))
abbrev NB (q : Rat) : Prop := Bd 166320 33554432 q
theorem bd_num {q : Rat} (h : NB q) : Sm' q := h.sm (by decide) (lt480 (by decide)) (lt480 (by decide))
theorem sm0 : Sm' (0 : Rat) := ⟨by decide, by decide⟩
theorem total_eq (l : List Rat) : p_total l = l.sum := foldl_sum l
theorem greater_eq' (a b : Rat) : p_greater a b = gr a b := rfl
/-! draws put together, the greatest one, the prophet -/
theorem in_len (l : List Rat) : (inO l).length ≤ l.length := nodup_len (up_nodup (inO_up l)) fun x hx => inO_mem.mp hx
abbrev Gk (k : Nat) (d : Dw) : Prop := Gw (NB) (27720 ^ k) d
theorem sure_gk {q : Rat} (hq : NB q) : Gk 1 [(q, 1)] := ⟨by simp, by simp; decide +kernel, by simp; decide +kernel, by simpa using hq, by simpa using (Bd.one (D := 27720))⟩
theorem gk_ch {k : Nat} (hk : k ≤ 6) {d : Dw} (g : Gk k d) {z : Rat × Rat} (hz : z ∈ d) : Sm' z.2 := by
  have := p27 hk
  exact (g.ch z hz).sm (p27ne _) (lt480 (by omega)) (lt480 (by omega))
theorem gt2_k {j k : Nat} {d e : Dw} (g : Gk j d) (g' : Gk k e) : Gk (j + k) (gt2 d e) := by
  have := gt2_gw g g'
  rw [← Nat.pow_add] at this
  exact this
theorem fold_k : ∀ {ds : List Dw} {k : Nat} {d : Dw}, (∀ e, e ∈ ds → Gk 1 e) → Gk k d → Gk (k + ds.length) (ds.foldl gt2 d)
  | [], k, d, _, g => g
  | e :: ds, k, d, h, g => by
    have := fold_k (ds := ds) (fun e he => h e (List.mem_cons_of_mem _ he)) (gt2_k g (h e List.mem_cons_self))
    rw [List.length_cons, show k + (ds.length + 1) = k + 1 + ds.length by omega]
    exact this
theorem fold_len : ∀ {ds : List Dw} {d : Dw}, (∀ e, e ∈ ds → e.length ≤ 5) → (ds.foldl gt2 d).length ≤ d.length + 5 * ds.length
  | [], d, _ => by simp
  | e :: ds, d, h => by
    rw [List.foldl_cons]
    have h1 := fold_len (ds := ds) (d := gt2 d e) fun e he => h e (List.mem_cons_of_mem _ he)
    have h2 := gt2_len d e
    have h3 := h e List.mem_cons_self
    rw [List.length_cons]
    omega
theorem mean_eq (d : Dw) : p_mean_of d = Ex d id := by
  unfold p_mean_of
  rw [total_eq]
  rfl
theorem mean_terms {k : Nat} {d : Dw} (g : Gk k d) : ∀ q, q ∈ List.map (fun (z : (Rat × Rat)) => (z.1 * z.2)) d → Bd (166320 * 27720 ^ k) (33554432 * 27720 ^ k) q := fun q hq => by
  obtain ⟨z, hz, rfl⟩ := List.mem_map.mp hq
  exact (g.num z hz).mul (g.ch z hz)
theorem means_ok {k : Nat} (hk : k ≤ 6) {d : Dw} (g : Gk k d) (hd : d.length ≤ 64) : d.length ≤ 100000 ∧ (∀ (z : (Rat × Rat)), z ∈ d → Sm2 z.1 z.2) ∧ ok_total (List.map (fun (z : (Rat × Rat)) => (z.1 * z.2)) d) := by
  have h1 := p27 hk
  have h2 := Nat.mul_le_mul_right (33554432 * 27720 ^ k) hd
  refine ⟨by omega, fun z hz => ⟨bd_num (g.num z hz), gk_ch hk g hz⟩, sums_sm (mean_terms g) (Nat.mul_ne_zero (by decide) (p27ne _)) (lt480 (by omega)) (lt480 (by rw [List.length_map]; omega))⟩
theorem mean_ok {k : Nat} (hk : k ≤ 6) {d : Dw} (g : Gk k d) (hd : d.length ≤ 64) : ok_mean_of d := means_ok hk g hd
theorem mean_sz {k : Nat} (hk : k ≤ 6) {d : Dw} (g : Gk k d) (hd : d.length ≤ 64) : Sz 130 (Ex d id) := by
  have h1 := p27 hk
  have h2 := Nat.mul_le_mul_right (33554432 * 27720 ^ k) hd
  have b := Bd.sum (mean_terms g)
  rw [List.length_map] at b
  exact Bd.sz (b.mono h2) (Nat.mul_ne_zero (by decide) (p27ne _)) (by omega) (by omega)
theorem gk_dr {k : Nat} (hk : k ≤ 6) {d : Dw} (g : Gk k d) (hd : d.length ≤ 64) : Dr 100 64 d := by
  have h1 := p27 hk
  refine ⟨g.ne, hd, fun z hz => ⟨?_, ?_⟩, g.pos, fun z hz => g.le1 hz, fun i hi => List.pairwise_iff_getElem.mp g.up i (i + 1) (by omega) hi (by omega), g.sum⟩
  · exact Bd.sz (g.num z hz) (by decide) (by decide) (by decide)
  · exact Bd.sz (g.ch z hz) (p27ne _) (by omega) (by omega)


/-! the chest family: draws put together, draws drawn -/
theorem gath_eq {ps : Dw} (h : ∀ z, z ∈ ps → 0 < z.2) : p_law_gather ps = ofp ps := gat_eq h
theorem gath_ok {D N : Nat} {ps : Dw} (hl : ps.length ≤ 64) (h : ∀ z, z ∈ ps → NB z.1 ∧ Bd D N z.2) (h0 : D ≠ 0) (hD : D < 2 ^ 480) (hN : 5000 * N < 2 ^ 480) : ok_law_gather ps := by
  have nd := bumps_nd ps
  have ke : List.foldl (fun (s32 : (List (Rat × Rat))) (z31 : (Rat × Rat)) => (dput s32 z31.1 ((Option.getD (dval s32 z31.1) (0 : Rat)) + z31.2))) ([] : List (Rat × Rat)) ps = bumps ps := kn_eq ps
  have hk : ((bumps ps).map fun x => x.1).length ≤ 64 := by
    rw [List.length_map]
    have := bumps_len ps []
    have e : bumps ps = ps.foldl (fun s z => bump s z.1 z.2) [] := rfl
    rw [e]
    simp at this
    omega
  have hmem : ∀ x, x ∈ (bumps ps).map (fun x => x.1) → NB x := fun x hx => by
    obtain ⟨y, hy, rfl⟩ := List.mem_map.mp ((bumps_key ps).mp hx)
    exact (h y hy).1
  unfold ok_law_gather
  rw [ke]
  refine ⟨fun dn z rs e s hs => ?_, ⟨hk, fun q hq => (hmem q hq).sz (by decide) (by decide) (by decide)⟩, ?_, fun x hx => ?_⟩
  · have hs : s = bumps dn := hs.trans (kn_eq dn)
    have hdn : dn.length + 1 ≤ ps.length := by rw [e]; simp
    have hz := h z (by rw [e]; simp)
    have l1 := bumps_len dn []
    have hsl : s.length ≤ dn.length := by
      rw [hs]
      have e : bumps dn = dn.foldl (fun s z => bump s z.1 z.2) [] := rfl
      rw [e]
      simpa using l1
    refine ⟨⟨?_, hz.2.sm h0 hD (by omega)⟩, by omega⟩
    by_cases hx : z.1 ∈ s.map (·.1)
    · rw [hs] at hx ⊢
      have m := (dval_mem (bumps_nd dn) hx).1
      have b := bumps_bd dn [] 0 (fun y hy => (h y (by rw [e]; exact List.mem_append_left _ hy)).2) (fun y hy => by cases hy) _ m
      refine b.sm h0 hD ?_
      have := Nat.mul_le_mul_right N (show dn.length ≤ 5000 by omega)
      omega
    · rw [dval_out hx]
      exact sm0
  · have := in_len ((bumps ps).map fun x => x.1)
    omega
  · have := (dval_mem nd (inO_mem.mp hx)).2
    exact ⟨this, fun _ => this⟩
theorem low_div (a : Int) {n : Int} (h : 0 < n) : lowQ a n = (a : Rat) / (n : Rat) := mk_div a h
theorem low_ok {b : Int} (h : 0 < b) (h2 : b < 2 ^ 200) : LowOk b := ⟨h, Nat.lt_of_lt_of_le (show b.natAbs < 2 ^ 200 by omega) (Nat.pow_le_pow_right (by decide) (by decide))⟩
/-- n / k with a bottom that goes into D -/
theorem low_bd {a k : Int} {D N : Nat} (hk : 0 < k) (hd : k.natAbs ∣ D) (ha : a.natAbs * (D / k.natAbs) ≤ N) : Bd D N (lowQ a k) := by
  obtain ⟨m, hm⟩ := hd
  have hkp : 0 < k.natAbs := by omega
  refine ⟨a * (m : Int), ?_, ?_⟩
  · rw [Int.natAbs_mul, Int.natAbs_natCast]
    rw [hm, Nat.mul_div_cancel_left _ hkp] at ha
    exact ha
  · rw [low_div _ hk, hm]
    have e1 : ((k.natAbs * m : Nat) : Rat) = (k : Rat) * (m : Rat) := by
      have e0 : (k.natAbs : Int) = k := by omega
      rw [← Rat.intCast_natCast, Int.natCast_mul, Rat.intCast_mul, e0, Rat.intCast_natCast]
    rw [e1, Rat.intCast_mul, Rat.intCast_natCast, Rat.div_def, ← Rat.mul_assoc, Rat.mul_assoc (a : Rat), Rat.inv_mul_cancel _ (cast_ne hk), Rat.mul_one]
/-- a draw: numbers with bottoms of A, up to m; chances with bottoms of 27720 ^ k -/
abbrev Gn (A m k : Nat) (d : Dw) : Prop := Gw (Bd A (m * A)) (27720 ^ k) d
theorem Gn.mono {A m n k : Nat} {d : Dw} (g : Gn A m k d) (h : m ≤ n) : Gn A n k d := Gw.mono g fun x hx => hx.mono (Nat.mul_le_mul_right _ h)
theorem gn_gk {A B m k : Nat} (e : A * B = 166320) (hm : m ≤ 201) {d : Dw} (g : Gn A m k d) : Gk k d := Gw.mono g fun x hx => by
  have h := hx.wide (E := B)
  rw [e] at h
  refine h.mono ?_
  rw [Nat.mul_assoc, e]
  have := Nat.mul_le_mul_right 166320 hm
  omega
theorem spot_bd {v k : Int} (hv : 0 ≤ v ∧ v < 13) (hk : k ∈ ([1, 1, 1, 2, 3] : List Int)) : Bd 6 (7 * 6) (lowQ (v - 5) k) := by
  have : k = 1 ∨ k = 2 ∨ k = 3 := by simpa using hk
  rcases this with rfl | rfl | rfl
  · exact low_bd (by decide) (by decide) (by simp; omega)
  · exact low_bd (by decide) (by decide) (by simp; omega)
  · exact low_bd (by decide) (by decide) (by simp; omega)
theorem lot_rel {l : List Int} {s : List Rat × List Int} (h : RelF (fun (s102 : ((List Rat) × (List Int))) (z101 : Int) (s103 : ((List Rat) × (List Int))) => (∃ v112 : Int, (0 ≤ v112 ∧ v112 < (13 : Int)) ∧ (∃ v114 : Int, v114 ∈ ([(1 : Int), (1 : Int), (1 : Int), (2 : Int), (3 : Int)] : List Int) ∧ (∃ v118 : Int, (0 ≤ v118 ∧ v118 < (3 : Int)) ∧ s103 = ((s102.1 ++ [(lowQ (v112 - (5 : Int)) v114)]), (s102.2 ++ [((1 : Int) + v118)])))))) (([] : List Rat), ([] : List Int)) l s) :
    s.1.length = l.length ∧ s.2.length = l.length ∧ (∀ x, x ∈ s.1 → Bd 6 (7 * 6) x) ∧ ∀ p, p ∈ s.2 → 1 ≤ p ∧ p ≤ 3 := by
  induction h with
  | nil => exact ⟨rfl, rfl, (fun x hx => by cases hx), (fun x hx => by cases hx)⟩
  | snoc _ hr ih =>
    obtain ⟨i1, i2, i3, i4⟩ := ih
    obtain ⟨v, hv, k, hk, p, hp, rfl⟩ := hr
    refine ⟨by simp [i1], by simp [i2], fun x hx => ?_, fun x hx => ?_⟩
    · rcases List.mem_append.mp hx with hx | hx
      · exact i3 x hx
      · rw [List.mem_singleton.mp hx]
        exact spot_bd hv hk
    · rcases List.mem_append.mp hx with hx | hx
      · exact i4 x hx
      · rw [List.mem_singleton.mp hx]
        omega
theorem sum_bds : ∀ {l : List Int}, (∀ p, p ∈ l → 1 ≤ p ∧ p ≤ 3) → (l.length : Int) ≤ l.sum ∧ l.sum ≤ 3 * (l.length : Int)
  | [], _ => by simp
  | x :: l, h => by
    have := sum_bds (l := l) fun p hp => h p (List.mem_cons_of_mem _ hp)
    have := h x List.mem_cons_self
    rw [List.sum_cons, List.length_cons]
    omega
theorem le12_dvd {n : Nat} (h0 : 0 < n) (h : n ≤ 12) : n ∣ 27720 := by
  have : n = 1 ∨ n = 2 ∨ n = 3 ∨ n = 4 ∨ n = 5 ∨ n = 6 ∨ n = 7 ∨ n = 8 ∨ n = 9 ∨ n = 10 ∨ n = 11 ∨ n = 12 := by omega
  rcases this with rfl | rfl | rfl | rfl | rfl | rfl | rfl | rfl | rfl | rfl | rfl | rfl <;> decide
theorem sum_low {S : Int} (hS : 0 < S) : ∀ l : List Int, (l.map fun p => lowQ p S).sum = (l.sum : Rat) / (S : Rat)
  | [] => by simp [Rat.div_def]
  | x :: l => by
    rw [List.map_cons, List.sum_cons, List.sum_cons, sum_low hS l, low_div _ hS, Rat.intCast_add, Rat.div_def, Rat.div_def, Rat.div_def, Rat.add_mul]
/-- the pairs of a draw that is drawn -/
def lotp (s : List Rat × List Int) : Dw := List.map (fun (z123 : Int) => ((ix s.1 z123), (lowQ (ix s.2 z123) (List.sum s.2)))) (rng 0 (List.length s.1 : Int))
section
variable {n : Nat} {s : List Rat × List Int} (h0 : 0 < n) (hn : n ≤ 4) (h1 : s.1.length = n) (h2 : s.2.length = n) (h3 : ∀ x, x ∈ s.1 → Bd 6 (7 * 6) x) (h4 : ∀ p, p ∈ s.2 → 1 ≤ p ∧ p ≤ 3)
include h0 hn h1 h2 h3 h4
theorem lotp_all : (∀ z, z ∈ lotp s → Bd 6 (7 * 6) z.1 ∧ Bd 27720 27720 z.2 ∧ 0 < z.2) ∧ ((lotp s).map (·.2)).sum = 1 ∧ (lotp s).length = n := by
  have hs := sum_bds h4
  have hS : 0 < s.2.sum := by omega
  have hd : s.2.sum.natAbs ∣ 27720 := le12_dvd (by omega) (by omega)
  refine ⟨fun z hz => ?_, ?_, ?_⟩
  · obtain ⟨i, hi, rfl⟩ := List.mem_map.mp hz
    have hi := mem_rng.mp hi
    have m1 : ix s.1 i ∈ s.1 := ix_in ⟨by omega, by omega⟩
    have m2 : ix s.2 i ∈ s.2 := ix_in ⟨by omega, by omega⟩
    have hp := h4 _ m2
    refine ⟨h3 _ m1, low_bd hS hd ?_, ?_⟩
    · obtain ⟨m, hm⟩ := hd
      have hle : (ix s.2 i).natAbs ≤ s.2.sum.natAbs := by
        by_cases h31 : n = 1
        · obtain ⟨x, hx⟩ := List.length_eq_one_iff.mp (h2.trans h31)
          rw [hx] at m2 ⊢
          rw [List.mem_singleton.mp m2]
          simp
        · by_cases h32 : n = 2
          · obtain ⟨x, y, hxy⟩ : ∃ x y, s.2 = [x, y] := by
              match hh : s.2, h2.trans h32 with
              | [x, y], _ => exact ⟨x, y, rfl⟩
            have hx := h4 x (by rw [hxy]; simp)
            have hy := h4 y (by rw [hxy]; simp)
            rw [hxy] at m2 ⊢
            have : ix [x, y] i = x ∨ ix [x, y] i = y := by simpa using m2
            simp
            omega
          · omega
      rw [hm, Nat.mul_div_cancel_left _ (by omega)]
      exact Nat.mul_le_mul_right _ hle
    · rw [low_div _ hS]
      have a := cast_pos hS
      have b : (0 : Rat) < ((ix s.2 i : Int) : Rat) := cast_pos (by omega)
      rw [Rat.div_def]
      exact Rat.mul_pos b (Rat.inv_pos.mpr a)
  · unfold lotp
    rw [List.map_map]
    have : (rng 0 (List.length s.1 : Int)).map ((fun z : Rat × Rat => z.2) ∘ fun (z123 : Int) => ((ix s.1 z123), (lowQ (ix s.2 z123) (List.sum s.2)))) = s.2.map fun p => lowQ p s.2.sum := by
      rw [h1, ← h2]
      exact map_rng_ix s.2 fun p => lowQ p s.2.sum
    rw [this, sum_low hS, Rat.div_def, Rat.mul_inv_cancel _ (cast_ne hS)]
  · unfold lotp
    rw [List.length_map, rng_len]
    omega
end
theorem lot_gn {m : Nat} (hm : m ≤ 4) {d : Dw} (h : S_law_lot (m : Int) d) : Gn 6 7 1 d ∧ d.length ≤ m := by
  obtain ⟨v, hv, s, hs, rfl⟩ := h
  obtain ⟨h1, h2, h3, h4⟩ := lot_rel hs
  rw [rng_len] at h1 h2
  obtain ⟨a, b, c⟩ := lotp_all (n := (1 + v - 0).toNat) (by omega) (by omega) h1 h2 h3 h4
  have e : p_law_gather (lotp s) = ofp (lotp s) := gath_eq fun z hz => (a z hz).2.2
  have g : Gn 6 7 1 (ofp (lotp s)) := by
    have := ofp_gw (P := Bd 6 (7 * 6)) (D := 27720) (N := 27720) (fun z hz => (a z hz).2.2) b (fun z hz => (a z hz).1) fun z hz => (a z hz).2.1
    show Gw _ (27720 ^ 1) _
    rw [Nat.pow_one]
    exact this
  have hl := ofp_len' (lotp s)
  rw [← e] at g hl
  exact ⟨g, by have : (p_law_gather (lotp s)).length ≤ m := by omega
               exact this⟩
theorem lot_ok {m : Nat} (h0 : 0 < m) (hm : m ≤ 4) : ok_law_lot (m : Int) := by
  refine ⟨by omega, fun v hv => ⟨by omega, fun dn z rs e s hs => ?_, fun s hs => ?_⟩⟩
  · obtain ⟨h1, h2, h3, h4⟩ := lot_rel hs
    have hl := congrArg List.length e
    rw [rng_len, List.length_append, List.length_cons] at hl
    refine ⟨by omega, by decide, fun a ha => ⟨by simp, fun k hk => ⟨?_, by omega, by decide⟩⟩⟩
    have : k = 1 ∨ k = 2 ∨ k = 3 := by simpa using hk
    exact low_ok (by omega) (by omega)
  · obtain ⟨h1, h2, h3, h4⟩ := lot_rel hs
    rw [rng_len] at h1 h2
    have hsb := sum_bds h4
    obtain ⟨a, b, c⟩ := lotp_all (n := (1 + v - 0).toNat) (by omega) (by omega) h1 h2 h3 h4
    refine ⟨by omega, by rw [rng_len]; omega, fun z hz => ?_, ?_⟩
    · have := mem_rng.mp hz
      exact ⟨⟨by omega, by omega⟩, ⟨by omega, by omega⟩, low_ok (by omega) (by omega)⟩
    · refine gath_ok (D := 27720) (N := 27720) (show (lotp s).length ≤ 64 by omega) (fun z hz => ⟨?_, (a z hz).2.1⟩) (by decide) (lt480 (by decide)) (lt480 (by decide))
      have := ((a z hz).1).wide (E := 27720)
      exact this.mono (by decide)


/-! what is told of a draw at a number -/
theorem tsum_eq (l : List Rat) : p_law_sum l = l.sum := foldl_sum l
theorem nb_ls {a b : Rat} (h : NB a) (h' : NB b) : NB (ls a b) := by
  unfold ls
  split
  · exact h'
  · exact h
theorem lles_eq (a b : Rat) : p_law_lesser a b = ls a b := by
  unfold p_law_lesser ls
  by_cases h : a < b
  · rw [if_pos (by simpa using h)]
    have : ¬ b < a := by grind
    simp [this]
  · rw [if_neg (by simpa using h)]
    by_cases h2 : b < a
    · simp [h2]
    · have : a = b := by grind
      simp [this]
def Ov (d : Dw) (s : Rat) : Rat := ((d.filter fun z => decide (s < z.1)).map (·.2)).sum
def Oa (d : Dw) (s : Rat) : Rat := ((d.filter fun z => decide (z.1 = s)).map (·.2)).sum
def Cp (d : Dw) (s : Rat) : Rat := Ex d fun y => ls y s
def Xc (d : Dw) (s : Rat) : Rat := Ex d fun y => gr (y - s) 0
theorem cap_eq (d : Dw) (s : Rat) : p_capped_of d s = Cp d s := by unfold p_capped_of; rw [total_eq]; rfl
theorem exc_eq (d : Dw) (s : Rat) : p_excess_of d s = Xc d s := by unfold p_excess_of; rw [total_eq]; rfl
theorem ov_eq (d : Dw) (s : Rat) : p_chance_over d s = Ov d s := by unfold p_chance_over; rw [total_eq]; rfl
theorem of_eq (d : Dw) (s : Rat) : p_chance_of d s = Oa d s := by unfold p_chance_of; rw [total_eq]; rfl
theorem lcap_eq (d : Dw) (s : Rat) : p_law_capped d s = Cp d s := by
  unfold p_law_capped
  rw [tsum_eq]
  have : (fun z : Rat × Rat => p_law_lesser z.1 s * z.2) = fun z => ls z.1 s * z.2 := by funext z; rw [lles_eq]
  rw [this]
  rfl
theorem lexc_eq (d : Dw) (s : Rat) : p_law_excess d s = Xc d s := by unfold p_law_excess; rw [tsum_eq]; rfl
theorem labo_eq (d : Dw) (s : Rat) : p_law_above d s = Ov d s := by unfold p_law_above; rw [tsum_eq]; rfl
theorem lmean_eq (d : Dw) : p_law_mean d = Ex d id := by unfold p_law_mean; rw [tsum_eq]; rfl
section
variable {k : Nat} (hk : k ≤ 6) {d : Dw} (g : Gk k d) (hd : d.length ≤ 64) {s : Rat} (hs : NB s)
include hk g hd hs
theorem cap_terms : ∀ q, q ∈ d.map (fun z => ls z.1 s * z.2) → Bd (166320 * 27720 ^ k) (33554432 * 27720 ^ k) q := fun q hq => by
  obtain ⟨z, hz, rfl⟩ := List.mem_map.mp hq
  exact (nb_ls (g.num z hz) hs).mul (g.ch z hz)
theorem exc_terms : ∀ q, q ∈ d.map (fun z => gr (z.1 - s) 0 * z.2) → Bd (166320 * 27720 ^ k) (67108864 * 27720 ^ k) q := fun q hq => by
  obtain ⟨z, hz, rfl⟩ := List.mem_map.mp hq
  have n0 : Bd 166320 67108864 (z.1 - s) := (g.num z hz).sub hs
  have : Bd 166320 67108864 (gr (z.1 - s) 0) := by
    rcases gr_or (z.1 - s) 0 with e | e <;> rw [e]
    · exact n0
    · exact Bd.zero.mono (by omega)
  exact this.mul (g.ch z hz)
theorem flt_terms (c : Rat × Rat → Bool) : ∀ q, q ∈ (d.filter c).map (·.2) → Bd (27720 ^ k) (27720 ^ k) q := fun q hq => by
  obtain ⟨z, hz, rfl⟩ := List.mem_map.mp hq
  exact g.ch z (List.mem_filter.mp hz).1
theorem flt_len (c : Rat × Rat → Bool) : ((d.filter c).map (·.2)).length ≤ 64 := by
  rw [List.length_map]
  exact Nat.le_trans (List.length_filter_le _ _) hd
theorem cap_sz : Sz 140 (Cp d s) := by
  have h1 := p27 hk
  have b := Bd.sum (cap_terms hk g hd hs)
  rw [List.length_map] at b
  have h2 := Nat.mul_le_mul_right (33554432 * 27720 ^ k) hd
  exact (b.mono h2).sz (Nat.mul_ne_zero (by decide) (p27ne _)) (by omega) (by omega)
theorem exc_sz : Sz 140 (Xc d s) := by
  have h1 := p27 hk
  have b := Bd.sum (exc_terms hk g hd hs)
  rw [List.length_map] at b
  have h2 := Nat.mul_le_mul_right (67108864 * 27720 ^ k) hd
  exact (b.mono h2).sz (Nat.mul_ne_zero (by decide) (p27ne _)) (by omega) (by omega)
theorem flt_sz (c : Rat × Rat → Bool) : Sz 140 ((d.filter c).map (·.2)).sum := by
  have h1 := p27 hk
  have b := Bd.sum (flt_terms hk g hd hs c)
  have h2 := Nat.mul_le_mul_right (27720 ^ k) (flt_len hk g hd hs c)
  exact (b.mono h2).sz (p27ne _) (by omega) (by omega)
theorem cap_ok : ok_capped d s := by
  have h1 := p27 hk
  have h2 := Nat.mul_le_mul_right (33554432 * 27720 ^ k) hd
  refine ⟨gk_dr hk g hd, by omega, fun z hz => ⟨⟨bd_num hs, bd_num (g.num z hz)⟩, bd_num (nb_ls (g.num z hz) hs), gk_ch hk g hz⟩, ?_⟩
  exact sums_sm (cap_terms hk g hd hs) (Nat.mul_ne_zero (by decide) (p27ne _)) (lt480 (by omega)) (lt480 (by rw [List.length_map]; omega))
theorem lcap_ok : ok_law_capped d s := by
  have h1 := p27 hk
  have h2 := Nat.mul_le_mul_right (33554432 * 27720 ^ k) hd
  refine ⟨by omega, fun z hz => ⟨⟨bd_num (g.num z hz), bd_num hs⟩, by rw [lles_eq]; exact bd_num (nb_ls (g.num z hz) hs), gk_ch hk g hz⟩, ?_⟩
  have : (fun z : Rat × Rat => p_law_lesser z.1 s * z.2) = fun z => ls z.1 s * z.2 := by funext z; rw [lles_eq]
  rw [this]
  exact sums_sm (cap_terms hk g hd hs) (Nat.mul_ne_zero (by decide) (p27ne _)) (lt480 (by omega)) (lt480 (by rw [List.length_map]; omega))
theorem exc_parts : ∀ z, z ∈ d → Sm2 z.1 s ∧ Sm2 (z.1 - s) 0 ∧ Sm2 (gr (z.1 - s) 0) z.2 := fun z hz => by
  have n0 : Bd 166320 67108864 (z.1 - s) := (g.num z hz).sub hs
  have n1 : Bd 166320 67108864 (gr (z.1 - s) 0) := by
    rcases gr_or (z.1 - s) 0 with e | e <;> rw [e]
    · exact n0
    · exact Bd.zero.mono (by omega)
  exact ⟨⟨bd_num (g.num z hz), bd_num hs⟩, ⟨n0.sm (by decide) (lt480 (by decide)) (lt480 (by decide)), sm0⟩, n1.sm (by decide) (lt480 (by decide)) (lt480 (by decide)), gk_ch hk g hz⟩
theorem exc_ok : ok_excess d s := by
  have h1 := p27 hk
  have h2 := Nat.mul_le_mul_right (67108864 * 27720 ^ k) hd
  exact ⟨gk_dr hk g hd, by omega, exc_parts hk g hd hs, sums_sm (exc_terms hk g hd hs) (Nat.mul_ne_zero (by decide) (p27ne _)) (lt480 (by omega)) (lt480 (by rw [List.length_map]; omega))⟩
theorem lexc_ok : ok_law_excess d s := by
  have h1 := p27 hk
  have h2 := Nat.mul_le_mul_right (67108864 * 27720 ^ k) hd
  exact ⟨by omega, exc_parts hk g hd hs, sums_sm (exc_terms hk g hd hs) (Nat.mul_ne_zero (by decide) (p27ne _)) (lt480 (by omega)) (lt480 (by rw [List.length_map]; omega))⟩
theorem flt_sums (c : Rat × Rat → Bool) : ∀ (dn : List Rat) (z : Rat) (rs : List Rat), (d.filter c).map (·.2) = dn ++ z :: rs → ∀ (u : Rat), u = List.foldl (fun (s : Rat) (z : Rat) => (s + z)) (0 : Rat) dn → Sm2 u z := by
  have h1 := p27 hk
  have h2 := Nat.mul_le_mul_right (27720 ^ k) (flt_len hk g hd hs c)
  exact sums_sm (flt_terms hk g hd hs c) (p27ne _) (lt480 (by omega)) (lt480 (by omega))
theorem ov_ok : ok_chance_above d s := ⟨gk_dr hk g hd, by omega, fun z hz => ⟨bd_num hs, bd_num (g.num z hz)⟩, flt_sums hk g hd hs _⟩
theorem labo_ok : ok_law_above d s := ⟨by omega, fun z hz => ⟨bd_num hs, bd_num (g.num z hz)⟩, flt_sums hk g hd hs _⟩
theorem of_ok : ok_chance_of d s := ⟨gk_dr hk g hd, by omega, flt_sums hk g hd hs _⟩
end
theorem lmean_ok {k : Nat} (hk : k ≤ 6) {d : Dw} (g : Gk k d) (hd : d.length ≤ 64) : ok_law_mean d := means_ok hk g hd


/-! draws summed, moved, scaled -/
theorem gk_mean {k : Nat} (hk : k ≤ 6) {d : Dw} (g : Gk k d) (hd : d.length ≤ 64) : ok_mean d := ⟨gk_dr hk g hd, mean_ok hk g hd⟩
theorem summ_gn {A m n j k : Nat} {d e : Dw} (g : Gn A m j d) (g' : Gn A n k e) : Gn A (m + n) (j + k) (summ d e) := by
  have := summ_gw g g'
  rw [← Nat.pow_add, ← Nat.add_mul] at this
  exact this
theorem lsum_fold (d e : Dw) : List.foldl (fun (s133 : (List (Rat × Rat))) (z132 : (Rat × Rat)) => (s133 ++ (List.map (fun (z137 : (Rat × Rat)) => ((z132.1 + z137.1), (z132.2 * z137.2))) e))) ([] : List (Rat × Rat)) d = prs d e fun x y => x + y := by
  rw [foldl_flat (fun z : Rat × Rat => e.map fun u => (z.1 + u.1, z.2 * u.2))]
  rfl
theorem movd_gn {A m n k : Nat} {d : Dw} {q : Rat} (g : Gn A m k d) (hq : Bd A (n * A) q) : Gn A (m + n) k (movd d q) := by
  have := movd_gw g hq
  rw [← Nat.add_mul] at this
  exact this
theorem scal_gn {A B m n k : Nat} {d : Dw} {c : Rat} (g : Gn A m k d) (hc : Bd B (n * B) c) : Gn (A * B) (m * n) k (scal d c) := by
  have := scal_gw g hc
  rw [show m * A * (n * B) = m * n * (A * B) by rw [Nat.mul_assoc, Nat.mul_assoc, Nat.mul_left_comm A]] at this
  exact this
theorem rp_draws {ds : List Dw} (hl : ds.length ≤ 8) (h : ∀ d, d ∈ ds → ∃ k, k ≤ 6 ∧ Gk k d ∧ d.length ≤ 64) : RpOk (eL (eT (eP fr fr)) ds) := by
  have h1 : ∀ d, d ∈ ds → Rq 3 (64 * 547 + 3) (eT (eP fr fr) d) := fun d hd => by
    obtain ⟨k, hk, g, hl⟩ := h d hd
    have h27 := p27 hk
    refine (rq_eT (n := 2) (L := 545) fun z hz => ?_).mono (by decide) (by have := Nat.mul_le_mul_right 547 hl; omega)
    refine rq_eP (n := 1) (L := 269) (rq_fr (k := 130) (by decide) ?_ (by decide)) (rq_fr (k := 130) (by decide) ?_ (by decide))
    · exact (g.num z hz).sz (by decide) (by decide) (by decide)
    · exact (g.ch z hz).sz (p27ne _) (by omega) (by omega)
  exact (rq_eL h1).rp (by decide) (by have := Nat.mul_le_mul_right (64 * 547 + 3 + 2) hl; omega)
theorem rep2 {α : Type} (a : α) : rep [a] 2 = [a, a] := rfl
theorem rep3 {α : Type} (a : α) : rep [a] 3 = [a, a, a] := rfl


theorem asB_true : ∀ l : List PD, (∀ y, y ∈ l → y = PyData.bool true) → ∃ bs, asBools l = some bs ∧ bs.all id = true
  | [], _ => ⟨[], rfl, rfl⟩
  | y :: l, h => by
    obtain ⟨bs, h1, h2⟩ := asB_true l fun y hy => h y (List.mem_cons_of_mem _ hy)
    have := h y List.mem_cons_self
    subst this
    exact ⟨true :: bs, by simp [asBools, h1], by simpa using h2⟩
theorem law_true (hr : ∀ j M, Fk j M → ∃ t M', f__law_right [.loc j] M = some (.d t (.bool true), M')) : ∀ ns : List Int, ns.length ≤ 63 → ∃ t M', f_law [.s (ns.map PyData.int)] [] = some (.d t (.bool true), M') := by
  intro ns hns
  obtain ⟨m, hm, hm2⟩ : ∃ m : Nat, m ≤ 63 ∧ max (2 : Int) (min ((ns.length : Nat) : Int) 4) = (m : Int) := ⟨(max (2 : Int) (min ((ns.length : Nat) : Int) 4)).toNat, by omega, by omega⟩
  have e1 : bMin [.d true (.int ((ns.length : Nat) : Int)), .d true (.int 4)] ([] : MS) = some (.d true (.int (min ((ns.length : Nat) : Int) 4)), []) := by
    show some (W.d true (PyData.int (if (4 : Int) < ((ns.length : Nat) : Int) then 4 else ((ns.length : Nat) : Int))), ([] : MS)) = _
    have : (if (4 : Int) < ((ns.length : Nat) : Int) then 4 else ((ns.length : Nat) : Int)) = min ((ns.length : Nat) : Int) 4 := by split <;> omega
    rw [this]
  have e2 : bMax [.d true (.int 2), .d true (.int (min ((ns.length : Nat) : Int) 4))] ([] : MS) = some (.d true (.int (m : Int)), []) := by
    show some (W.d true (PyData.int (if (min ((ns.length : Nat) : Int) 4) > (2 : Int) then (min ((ns.length : Nat) : Int) 4) else 2)), ([] : MS)) = _
    have : (if (min ((ns.length : Nat) : Int) 4) > (2 : Int) then (min ((ns.length : Nat) : Int) 4) else 2) = (m : Int) := by rw [← hm2]; split <;> omega
    rw [this]
  have hl := lc_inv (t := true) (g := gNm 1) (te := (mCall 1 f__law_right (mArgs [(mCall 2 f__law_chest (mArgs [(mVar 0), (mVar 1)]))]))) (Δ := [some (.s (ns.map PyData.int)), none]) (fun _ => True) (fun y => y = PyData.bool true)
  have hx : ∀ x, x ∈ (List.range m).map nE → ∀ M : MS, True → ∃ Δ1, gNm 1 true x [some (.s (ns.map PyData.int)), none] = some Δ1 ∧ ∃ t y M2, (mCall 1 f__law_right (mArgs [(mCall 2 f__law_chest (mArgs [(mVar 0), (mVar 1)]))])) Δ1 M = some (.d t y, M2) ∧ y = PyData.bool true := by
    intro x hx M _
    obtain ⟨k, hk, rfl⟩ := List.mem_map.mp hx
    have hk2 : k < m := List.mem_range.mp hk
    refine ⟨_, tg_nm, ?_⟩
    obtain ⟨M1, h1, F1⟩ := chest_fk (ns := ns) (k := k) (by omega) M
    obtain ⟨t, M2, h2⟩ := hr _ M1 F1
    refine ⟨t, _, M2, ?_, rfl⟩
    simp only [ev_var, ev_D, ev_bin, ev_un, ev_args0, ev_args, ev_fn, ev_call, ev_callK, ev_if, ev_B1, asB_d, ev_and, ev_or, ev_not, ev_mand, ev_mor, ev_true, ev_chain, ev_tup, ev_lst, ev_old, ev_new, ev_items, ev_lc, ev_seq, seq_nx, seq_rt, seq_bk, seq_ct, ev_next, ev_break, ev_ret, fz_d, ev_retW, ev_drop, ev_sif, ev_set, ev_par, par_2, ev_for, ev_sem, ev_semFz, fzP_0, fzP_d, fzP_s, fzP_l, ob_some, ob_none, oif_true, oif_false, mkT2, mkT3, mkL0, mkL1, mkL2, gSub_i, gAdd_i, gLt_i, gLe_i, gGt_i, gGe_i, gEq_i, gNe_i, frIx0, frIx1, List.length_cons, List.length_nil, List.map_cons, List.map_nil, List.cons_append, List.nil_append, List.append_nil, List.replicate, List.getElem?_cons_zero, List.getElem?_cons_succ, List.set_cons_zero, List.set_cons_succ, if_true, if_false, Nat.reduceAdd, Nat.reduceSub, Bool.and_true, Bool.true_and, Bool.not_true, Bool.not_false, nf_nE]
    unfold nE
    simp only [ev_var, ev_D, ev_bin, ev_un, ev_args0, ev_args, ev_fn, ev_call, ev_callK, ev_if, ev_B1, asB_d, ev_and, ev_or, ev_not, ev_mand, ev_mor, ev_true, ev_chain, ev_tup, ev_lst, ev_old, ev_new, ev_items, ev_lc, ev_seq, seq_nx, seq_rt, seq_bk, seq_ct, ev_next, ev_break, ev_ret, fz_d, ev_retW, ev_drop, ev_sif, ev_set, ev_par, par_2, ev_for, ev_sem, ev_semFz, fzP_0, fzP_d, fzP_s, fzP_l, ob_some, ob_none, oif_true, oif_false, mkT2, mkT3, mkL0, mkL1, mkL2, gSub_i, gAdd_i, gLt_i, gLe_i, gGt_i, gGe_i, gEq_i, gNe_i, frIx0, frIx1, List.length_cons, List.length_nil, List.map_cons, List.map_nil, List.cons_append, List.nil_append, List.append_nil, List.replicate, List.getElem?_cons_zero, List.getElem?_cons_succ, List.set_cons_zero, List.set_cons_succ, if_true, if_false, Nat.reduceAdd, Nat.reduceSub, Bool.and_true, Bool.true_and, Bool.not_true, Bool.not_false, h1, h2]
  have hg : ∀ (xs : List PD), (∀ x, x ∈ xs → ∀ M : MS, True → ∃ Δ1, gNm 1 true x [some (.s (ns.map PyData.int)), none] = some Δ1 ∧ ∃ t y M2, (mCall 1 f__law_right (mArgs [(mCall 2 f__law_chest (mArgs [(mVar 0), (mVar 1)]))])) Δ1 M = some (.d t y, M2) ∧ y = PyData.bool true) → ∀ M : MS, ∃ s ys M2, lcGo true (gNm 1) tTrue (mCall 1 f__law_right (mArgs [(mCall 2 f__law_chest (mArgs [(mVar 0), (mVar 1)]))])) [some (.s (ns.map PyData.int)), none] xs M = some ((s, ys), M2) ∧ ∀ y, y ∈ ys → y = PyData.bool true := by
    intro xs
    induction xs with
    | nil => exact fun _ M => ⟨true, [], M, rfl, fun _ h => nomatch h⟩
    | cons x xs ih =>
      intro h M
      obtain ⟨Δ1, h1, t, y, M2, h2, h3⟩ := h x List.mem_cons_self M trivial
      obtain ⟨s, ys, M3, h4, h5⟩ := ih (fun x hx => h x (List.mem_cons_of_mem _ hx)) M2
      refine ⟨t && s, y :: ys, M3, ?_, ?_⟩
      · simp only [lcGo, h1, tTrue, h2, fz1, h4]
      · intro z hz
        cases hz with
        | head => exact h3
        | tail _ hz => exact h5 z hz
  obtain ⟨s, ys, M2, h1, h2⟩ := hg _ hx []
  obtain ⟨bs, h3, h4⟩ := asB_true ys h2
  have e3 : bAll [.d s (.list ys)] M2 = some (.d true (.bool true), M2) := by
    show (match asBools ys with | some bs => some (W.d true (PyData.bool (bs.all id)), M2) | none => none) = _
    rw [h3]
    simp only [h4]
  have e4 : rgK ([.d true (.int (m : Int))], ([] : MS)) = some ((true, (List.range m).map nE), []) := rgK_n (by omega)
  have e5 : ((List.range m).map nE).length ≤ 100000 := by simp; omega
  refine ⟨true, M2, ?_⟩
  unfold f_law
  simp only [ev_var, ev_D, ev_bin, ev_un, ev_args0, ev_args, ev_fn, ev_call, ev_callK, ev_if, ev_B1, asB_d, ev_and, ev_or, ev_not, ev_mand, ev_mor, ev_true, ev_chain, ev_tup, ev_lst, ev_old, ev_new, ev_items, ev_lc, ev_seq, seq_nx, seq_rt, seq_bk, seq_ct, ev_next, ev_break, ev_ret, fz_d, ev_retW, ev_drop, ev_sif, ev_set, ev_par, par_2, ev_for, ev_sem, ev_semFz, fzP_0, fzP_d, fzP_s, fzP_l, ob_some, ob_none, oif_true, oif_false, mkT2, mkT3, mkL0, mkL1, mkL2, gSub_i, gAdd_i, gLt_i, gLe_i, gGt_i, gGe_i, gEq_i, gNe_i, frIx0, frIx1, List.length_cons, List.length_nil, List.map_cons, List.map_nil, List.cons_append, List.nil_append, List.append_nil, List.replicate, List.getElem?_cons_zero, List.getElem?_cons_succ, List.set_cons_zero, List.set_cons_succ, if_true, if_false, Nat.reduceAdd, Nat.reduceSub, Bool.and_true, Bool.true_and, Bool.not_true, Bool.not_false, bLen_s, List.length_map, e1, e2, ev_rg, e4, e5, wipeD, h1, e3]
  simp only [List.length_map] at e5
  simp only [ev_var, ev_D, ev_bin, ev_un, ev_args0, ev_args, ev_fn, ev_call, ev_callK, ev_if, ev_B1, asB_d, ev_and, ev_or, ev_not, ev_mand, ev_mor, ev_true, ev_chain, ev_tup, ev_lst, ev_old, ev_new, ev_items, ev_lc, ev_seq, seq_nx, seq_rt, seq_bk, seq_ct, ev_next, ev_break, ev_ret, fz_d, ev_retW, ev_drop, ev_sif, ev_set, ev_par, par_2, ev_for, ev_sem, ev_semFz, fzP_0, fzP_d, fzP_s, fzP_l, ob_some, ob_none, oif_true, oif_false, mkT2, mkT3, mkL0, mkL1, mkL2, gSub_i, gAdd_i, gLt_i, gLe_i, gGt_i, gGe_i, gEq_i, gNe_i, frIx0, frIx1, List.length_cons, List.length_nil, List.map_cons, List.map_nil, List.cons_append, List.nil_append, List.append_nil, List.replicate, List.getElem?_cons_zero, List.getElem?_cons_succ, List.set_cons_zero, List.set_cons_succ, if_true, if_false, Nat.reduceAdd, Nat.reduceSub, Bool.and_true, Bool.true_and, Bool.not_true, Bool.not_false, e5, h1, e3]


/-! k02: the law -/
theorem steps_bd : ∀ c, c ∈ ([((1 : Rat) / 2), ((-1 : Rat) / 2), ((1 : Rat) / 3), (9 : Rat), (-20 : Rat)] : List Rat) → Bd 6 (20 * 6) c := by
  intro c hc
  simp only [List.mem_cons, List.not_mem_nil, or_false] at hc
  rcases hc with rfl | rfl | rfl | rfl | rfl
  · exact ⟨3, by decide, by decide +kernel⟩
  · exact ⟨-3, by decide, by decide +kernel⟩
  · exact ⟨2, by decide, by decide +kernel⟩
  · exact ⟨54, by decide, by decide +kernel⟩
  · exact ⟨-120, by decide, by decide +kernel⟩
theorem spots_rel {d : Dw} (g : Gn 6 7 1 d) (hl : d.length ≤ 4) {l : List Int} {s : List Rat} (h : RelF (fun (s138 : (List Rat)) (z137 : Int) (s139 : (List Rat)) => (∃ v145 : Rat, v145 ∈ ([((1 : Rat) / 2), ((-1 : Rat) / 2), ((1 : Rat) / 3), (9 : Rat), (-20 : Rat)] : List Rat) ∧ (∃ v148 : Rat, v148 ∈ s138 ∧ s139 = (s138 ++ [(v148 + v145)])))) (List.map (fun (z134 : (Rat × Rat)) => z134.1) d) l s) :
    s ≠ [] ∧ s.length ≤ 4 + l.length ∧ ∀ q, q ∈ s → Bd 6 ((7 + 20 * l.length) * 6) q := by
  induction h with
  | nil =>
    refine ⟨fun e => g.ne (List.map_eq_nil_iff.mp e), by rw [List.length_map]; simpa using hl, fun q hq => ?_⟩
    obtain ⟨z, hz, rfl⟩ := List.mem_map.mp hq
    exact g.num z hz
  | snoc _ hr ih =>
    obtain ⟨i1, i2, i3⟩ := ih
    obtain ⟨v, hv, u, hu, rfl⟩ := hr
    refine ⟨by simp, by simp; omega, fun q hq => ?_⟩
    rcases List.mem_append.mp hq with hq | hq
    · exact (i3 q hq).mono (by simp; omega)
    · rw [List.mem_singleton.mp hq]
      exact ((i3 u hu).add (steps_bd v hv)).mono (by simp; omega)
theorem spots_nb {d : Dw} (g : Gn 6 7 1 d) (hl : d.length ≤ 4) {s : List Rat} (h : S_law_spots d s) : s ≠ [] ∧ s.length ≤ 7 ∧ ∀ q, q ∈ s → NB q := by
  obtain ⟨u, hu, rfl⟩ := h
  obtain ⟨h1, h2, h3⟩ := spots_rel g hl hu
  rw [rng_len] at h2 h3
  refine ⟨h1, by simpa using h2, fun q hq => ?_⟩
  have := (h3 q hq).wide (E := 27720)
  exact this.mono (by decide)
theorem spots_ok {d : Dw} (g : Gn 6 7 1 d) (hl : d.length ≤ 4) : ok_law_spots d := by
  refine ⟨by omega, by decide, fun dn z rs e s hs => ?_⟩
  obtain ⟨h1, h2, h3⟩ := spots_rel g hl hs
  have hle := congrArg List.length e
  rw [rng_len, List.length_append, List.length_cons] at hle
  refine ⟨by simp, fun v hv => ⟨by omega, ⟨h1, by omega⟩, fun u hu => ⟨?_, ?_⟩⟩⟩
  · refine (h3 u hu).sm (by decide) (lt480 (by decide)) (lt480 ?_)
    have : dn.length ≤ 3 := by omega
    omega
  · exact (steps_bd v hv).sm (by decide) (lt480 (by decide)) (lt480 (by decide))
section
variable {d : Dw} (g : Gk 1 d) (hd : d.length ≤ 64) {s : Rat} (hs : NB s)
include g hd hs
theorem rp_four {a b c e : Rat} (h1 : Sz 140 a) (h2 : Sz 140 b) (h3 : Sz 140 c) (h4 : Sz 140 e) : RpOk (eL fr [a, b, c, e]) := by
  refine (rq_eL (n := 1) (L := 289) fun x hx => ?_).rp (by decide) (by simp)
  have : x = a ∨ x = b ∨ x = c ∨ x = e := by simpa using hx
  rcases this with rfl | rfl | rfl | rfl
  · exact rq_fr (k := 140) (by decide) h1 (by decide)
  · exact rq_fr (k := 140) (by decide) h2 (by decide)
  · exact rq_fr (k := 140) (by decide) h3 (by decide)
  · exact rq_fr (k := 140) (by decide) h4 (by decide)
theorem at_all : ok_law_at_right d s ∧ p_law_at_right d s = true := by
  have c1 := cap_sz (by decide) g hd hs
  have c2 := exc_sz (by decide) g hd hs
  have c3 : Sz 140 (Ov d s) := flt_sz (by decide) g hd hs _
  have c4 : Sz 140 (Oa d s) := flt_sz (by decide) g hd hs _
  have rp := rp_four g hd hs c1 c2 c3 c4
  have e1 : p_capped d s = Cp d s := cap_eq d s
  have e2 : p_excess d s = Xc d s := exc_eq d s
  have e3 : p_chance_above d s = Ov d s := ov_eq d s
  have e5 : p_law_sum (List.map (fun (z157 : (Rat × Rat)) => z157.2) (List.filter (fun (z157 : (Rat × Rat)) => decide (z157.1 = s)) d)) = Oa d s := tsum_eq _
  have m : p_mean d = Ex d id := mean_eq d
  have hm : Cp d s + Xc d s = Ex d id := cap_exc d s
  constructor
  · unfold ok_law_at_right law_at_right_told law_at_right_told2
    rw [e1, e2, e3, of_eq, lcap_eq, lexc_eq, labo_eq, e5]
    exact ⟨lcap_ok (by decide) g hd hs, lexc_ok (by decide) g hd hs, labo_ok (by decide) g hd hs, by omega, flt_sums (by decide) g hd hs _, by simp, cap_ok (by decide) g hd hs, exc_ok (by decide) g hd hs, ov_ok (by decide) g hd hs, of_ok (by decide) g hd hs, rp, rp, fun _ => ⟨cap_ok (by decide) g hd hs, exc_ok (by decide) g hd hs, ov_ok (by decide) g hd hs, of_ok (by decide) g hd hs, by simp, rp, rp, fun _ => ⟨⟨by simp, by simp⟩, ⟨by simp, by simp⟩, ⟨c1.sm (by decide), c2.sm (by decide)⟩, gk_mean (by decide) g hd⟩⟩⟩
  · unfold p_law_at_right law_at_right_told law_at_right_told2
    rw [e1, e2, e3, of_eq, lcap_eq, lexc_eq, labo_eq, e5, m, ← hm]
    have i0 : ix ([Cp d s, Xc d s, Ov d s] ++ [Oa d s]) 0 = Cp d s := rfl
    have i1 : ix ([Cp d s, Xc d s, Ov d s] ++ [Oa d s]) 1 = Xc d s := rfl
    rw [i0, i1]
    simp
theorem two_all {t : Rat} (ht : NB t) : ok_law_two_right d s t ∧ p_law_two_right d s t = true := by
  have e1 : ∀ s, p_capped d s = Cp d s := cap_eq d
  have e2 : ∀ s, p_excess d s = Xc d s := exc_eq d
  have e3 : ∀ s, p_chance_above d s = Ov d s := ov_eq d
  have sm1 : ∀ {s}, NB s → Sm' (Cp d s) := fun hs => (cap_sz (by decide) g hd hs).sm (by decide)
  have sm2 : ∀ {s}, NB s → Sm' (Xc d s) := fun hs => (exc_sz (by decide) g hd hs).sm (by decide)
  have sm3 : ∀ {s}, NB s → Sm' (Ov d s) := fun hs => (flt_sz (by decide) g hd hs _).sm (by decide)
  have mo : ∀ {s t : Rat}, s ≤ t → Cp d s ≤ Cp d t ∧ Xc d t ≤ Xc d s ∧ Ov d t ≤ Ov d s := fun {s t} h => ⟨ex_le g.pos fun z _ => ls_mono h, ex_le g.pos fun z _ => gr_anti h, flt_le g.pos fun z _ hz => by
    have := of_decide_eq_true hz
    exact decide_eq_true (by grind)⟩
  constructor
  · unfold ok_law_two_right
    rw [e1, e1, e2, e2, e3, e3]
    exact ⟨⟨bd_num ht, bd_num hs⟩, fun _ => ⟨cap_ok (by decide) g hd hs, cap_ok (by decide) g hd ht, ⟨sm1 hs, sm1 ht⟩, fun _ => ⟨exc_ok (by decide) g hd ht, exc_ok (by decide) g hd hs, ⟨sm2 ht, sm2 hs⟩, fun _ => ⟨ov_ok (by decide) g hd ht, ov_ok (by decide) g hd hs, sm3 ht, sm3 hs⟩⟩⟩, fun _ => ⟨cap_ok (by decide) g hd ht, cap_ok (by decide) g hd hs, ⟨sm1 ht, sm1 hs⟩, fun _ => ⟨exc_ok (by decide) g hd hs, exc_ok (by decide) g hd ht, ⟨sm2 hs, sm2 ht⟩, fun _ => ⟨ov_ok (by decide) g hd hs, ov_ok (by decide) g hd ht, sm3 hs, sm3 ht⟩⟩⟩⟩
  · unfold p_law_two_right
    rw [e1, e1, e2, e2, e3, e3]
    by_cases h : t < s
    · obtain ⟨m1, m2, m3⟩ := mo (Rat.le_of_lt h)
      have n1 : ¬ Cp d s < Cp d t := by grind
      have n2 : ¬ Xc d t < Xc d s := by grind
      have n3 : ¬ Ov d t < Ov d s := by grind
      simp [h, n1, n2, n3]
    · obtain ⟨m1, m2, m3⟩ := mo (show s ≤ t by grind)
      have n1 : ¬ Cp d t < Cp d s := by grind
      have n2 : ¬ Xc d s < Xc d t := by grind
      have n3 : ¬ Ov d s < Ov d t := by grind
      simp [h, n1, n2, n3]
end
theorem rp_two {a : Rat} (h : Sz 140 a) : RpOk (eL fr [a, a]) := by
  refine (rq_eL (n := 1) (L := 289) fun x hx => ?_).rp (by decide) (by simp)
  have : x = a := by simpa using hx
  rw [this]
  exact rq_fr (k := 140) (by decide) h (by decide)
theorem mean_two {d : Dw} : p_mean d = p_law_mean d := by
  show p_mean_of d = _
  rw [mean_eq, lmean_eq]
theorem ok_right : ok_law_right := by
  refine ⟨lot_ok (m := 4) (by decide) (by decide), fun d hd => ?_⟩
  obtain ⟨g, l⟩ := lot_gn (m := 4) (by decide) hd
  have k := gn_gk (B := 27720) (by decide) (by decide) g
  have sz : Sz 140 (p_law_mean d) := by rw [lmean_eq]; exact (mean_sz (by decide) k (by omega)).mono (by decide)
  rw [mean_two]
  refine ⟨gk_mean (by decide) k (by omega), gk_mean (by decide) k (by omega), lmean_ok (by decide) k (by omega), ⟨by decide, by simp⟩, rp_two sz, rp_two sz, fun _ => ⟨spots_ok g l, fun s hs => ⟨fun q hq => ?_, trivial⟩⟩⟩
  obtain ⟨n1, n2, n3⟩ := spots_nb g l hs
  exact ⟨(at_all k (by omega) (n3 q hq)).1, fun _ => ⟨⟨n1, by omega⟩, fun u hu => (two_all k (by omega) (n3 q hq) (n3 u hu)).1⟩⟩
theorem right_r {r : Bool} (h : S_law_right r) : r = true := by
  obtain ⟨d, hd, h⟩ := h
  obtain ⟨g, l⟩ := lot_gn (m := 4) (by decide) hd
  have k := gn_gk (B := 27720) (by decide) (by decide) g
  rw [mean_two, rep2] at h
  rcases h with ⟨h, _⟩ | ⟨_, s, hs, h⟩
  · simp at h
  · obtain ⟨n1, n2, n3⟩ := spots_nb g l hs
    rcases h with ⟨q, hq, h⟩ | h
    · rw [(at_all k (by omega) (n3 q hq)).2] at h
      rcases h with ⟨h, _⟩ | ⟨_, u, hu, h⟩
      · simp at h
      · rw [(two_all k (by omega) (n3 q hq) (n3 u hu)).2] at h
        simp at h
    · exact h
theorem right_true (j : Nat) (M : MS) (F : Fk j M) : ∃ t M', f__law_right [.loc j] M = some (.d t (.bool true), M') := by
  obtain ⟨t, x, M', h1, ⟨r, hr, rfl⟩, F'⟩ := k_law_right j ok_right [.loc j] M (.l .nil) F
  rw [right_r hr] at h1
  exact ⟨t, M', h1⟩
theorem law_ok : ∀ ns : List Int, ns.length ≤ 63 → ∃ t M', f_law [.s (ns.map PyData.int)] [] = some (.d t (.bool true), M') := law_true right_true

end K2
namespace K2
open PySem PySem.Spec PyProof.Rows L2 Ek
theorem glob0 {P : Program} {w : World} {K : PySem.W.Frag} {mg : Str → Option Value} {base : Heap} (c0 : ∃ u v, mg "ZERO" = some u ∧ RelV v u ∧ ∀ H, Dq (kk false K) H v (.tuple [.int 0, .int 1])) (c1 : ∃ u v, mg "ONE" = some u ∧ RelV v u ∧ ∀ H, Dq (kk false K) H v (.tuple [.int 1, .int 1])) (c2 : ∃ u v, mg "MOST_PAIRS" = some u ∧ RelV v u ∧ ∀ H, Dq (kk true K) H v (.int 64)) (b0 : mg "abs" = none) (b1 : mg "all" = none) (b2 : mg "bool" = none) (b3 : mg "divmod" = none) (b4 : mg "int" = none) (b5 : mg "isinstance" = none) (b6 : mg "len" = none) (b7 : mg "list" = none) (b8 : mg "max" = none) (b9 : mg "min" = none) (b10 : mg "range" = none) (b11 : mg "repr" = none) (b12 : mg "sorted" = none) (b13 : mg "sum" = none) (b14 : mg "tuple" = none) : Glob P w K mg base G0 0 := by
  refine ⟨fun x fe h => (by cases h), fun x t d h => ?_, fun x h => ?_, fun x h => ?_⟩
  · simp only [G0] at h
    rw [List.lookup_cons] at h
    split at h
    · rename_i hb; cases h; rw [eq_of_beq hb]; exact c0
    rw [List.lookup_cons] at h
    split at h
    · rename_i hb; cases h; rw [eq_of_beq hb]; exact c1
    rw [List.lookup_cons] at h
    split at h
    · rename_i hb; cases h; rw [eq_of_beq hb]; exact c2
    cases h
  · simp only [G0, List.contains_cons, List.contains_nil, Bool.or_false, Bool.or_eq_true] at h
    rcases h with h | h | h | h | h | h | h | h | h | h | h | h | h | h | h
    · rw [eq_of_beq h]; exact b0
    · rw [eq_of_beq h]; exact b1
    · rw [eq_of_beq h]; exact b2
    · rw [eq_of_beq h]; exact b3
    · rw [eq_of_beq h]; exact b4
    · rw [eq_of_beq h]; exact b5
    · rw [eq_of_beq h]; exact b6
    · rw [eq_of_beq h]; exact b7
    · rw [eq_of_beq h]; exact b8
    · rw [eq_of_beq h]; exact b9
    · rw [eq_of_beq h]; exact b10
    · rw [eq_of_beq h]; exact b11
    · rw [eq_of_beq h]; exact b12
    · rw [eq_of_beq h]; exact b13
    · rw [eq_of_beq h]; exact b14
  · cases h
theorem glob {P : Program} {w : World} {K : PySem.W.Frag} {mg : Str → Option Value} {base : Heap} (d0 : DefOk K mg "is_between" "is_between" (topS 7)) (d1 : DefOk K mg "common" "common" (topS 8)) (d2 : DefOk K mg "lowest" "lowest" (topS 9)) (d3 : DefOk K mg "is_fraction" "is_fraction" (topS 10)) (d4 : DefOk K mg "add" "add" (topS 11)) (d5 : DefOk K mg "less" "less" (topS 12)) (d6 : DefOk K mg "times" "times" (topS 13)) (d7 : DefOk K mg "is_below" "is_below" (topS 14)) (d8 : DefOk K mg "lesser" "lesser" (topS 15)) (d9 : DefOk K mg "greater" "greater" (topS 16)) (d10 : DefOk K mg "total" "total" (topS 17)) (d11 : DefOk K mg "is_chance" "is_chance" (topS 18)) (d12 : DefOk K mg "are_rising" "are_rising" (topS 19)) (d13 : DefOk K mg "is_pair" "is_pair" (topS 22)) (d14 : DefOk K mg "is_draw" "is_draw" (topS 23)) (d15 : DefOk K mg "check_draw" "check_draw" (topS 24)) (d16 : DefOk K mg "check_number" "check_number" (topS 25)) (d17 : DefOk K mg "mean_of" "mean_of" (topS 26)) (d18 : DefOk K mg "capped_of" "capped_of" (topS 27)) (d19 : DefOk K mg "excess_of" "excess_of" (topS 28)) (d20 : DefOk K mg "chance_over" "chance_over" (topS 29)) (d21 : DefOk K mg "mean" "mean" (topS 30)) (d22 : DefOk K mg "capped" "capped" (topS 31)) (d23 : DefOk K mg "excess" "excess" (topS 32)) (d24 : DefOk K mg "chance_above" "chance_above" (topS 33)) (d25 : DefOk K mg "chance_of" "chance_of" (topS 34)) (d26 : DefOk K mg "_law_chest" "_law_chest" (topS 36)) (d27 : DefOk K mg "_law_grab" "_law_grab" (topS 37)) (d28 : DefOk K mg "_law_one" "_law_one" (topS 38)) (d29 : DefOk K mg "_law_frac" "_law_frac" (topS 39)) (d30 : DefOk K mg "_law_plus" "_law_plus" (topS 40)) (d31 : DefOk K mg "_law_minus" "_law_minus" (topS 41)) (d32 : DefOk K mg "_law_by" "_law_by" (topS 42)) (d33 : DefOk K mg "_law_under" "_law_under" (topS 43)) (d34 : DefOk K mg "_law_sum" "_law_sum" (topS 44)) (d35 : DefOk K mg "_law_rising" "_law_rising" (topS 45)) (d36 : DefOk K mg "_law_gather" "_law_gather" (topS 46)) (d37 : DefOk K mg "_law_lot" "_law_lot" (topS 47)) (d38 : DefOk K mg "_law_mean" "_law_mean" (topS 48)) (d39 : DefOk K mg "_law_lesser" "_law_lesser" (topS 49)) (d40 : DefOk K mg "_law_greater" "_law_greater" (topS 50)) (d41 : DefOk K mg "_law_capped" "_law_capped" (topS 51)) (d42 : DefOk K mg "_law_excess" "_law_excess" (topS 52)) (d43 : DefOk K mg "_law_above" "_law_above" (topS 53)) (d44 : DefOk K mg "_law_spots" "_law_spots" (topS 54)) (d45 : DefOk K mg "_law_at_right" "_law_at_right" (topS 55)) (d46 : DefOk K mg "_law_two_right" "_law_two_right" (topS 56)) (d47 : DefOk K mg "_law_right" "_law_right" (topS 57)) (c0 : ∃ u v, mg "ZERO" = some u ∧ RelV v u ∧ ∀ H, Dq (kk false K) H v (.tuple [.int 0, .int 1])) (c1 : ∃ u v, mg "ONE" = some u ∧ RelV v u ∧ ∀ H, Dq (kk false K) H v (.tuple [.int 1, .int 1])) (c2 : ∃ u v, mg "MOST_PAIRS" = some u ∧ RelV v u ∧ ∀ H, Dq (kk true K) H v (.int 64)) (b0 : mg "abs" = none) (b1 : mg "all" = none) (b2 : mg "bool" = none) (b3 : mg "divmod" = none) (b4 : mg "int" = none) (b5 : mg "isinstance" = none) (b6 : mg "len" = none) (b7 : mg "list" = none) (b8 : mg "max" = none) (b9 : mg "min" = none) (b10 : mg "range" = none) (b11 : mg "repr" = none) (b12 : mg "sorted" = none) (b13 : mg "sum" = none) (b14 : mg "tuple" = none) : Glob P w K mg base G48 48 := by
  have g0 : Glob P w K mg base G0 0 := glob0 c0 c1 c2 b0 b1 b2 b3 b4 b5 b6 b7 b8 b9 b10 b11 b12 b13 b14
  have g1 : Glob P w K mg base G1 1 := g0.def ⟨[], false⟩ [true, true, true] 60 _ d0 sc_f_is_between bd_f_is_between kwNone eq_f_is_between
  have g2 : Glob P w K mg base G2 2 := g1.def ⟨[], false⟩ [true, true] 60 _ d1 sc_f_common bd_f_common kwNone eq_f_common
  have g3 : Glob P w K mg base G3 3 := g2.def ⟨[], false⟩ [true, true] 60 _ d2 sc_f_lowest bd_f_lowest kwNone eq_f_lowest
  have g4 : Glob P w K mg base G4 4 := g3.def ⟨[], false⟩ [true] 60 _ d3 sc_f_is_fraction bd_f_is_fraction kwNone eq_f_is_fraction
  have g5 : Glob P w K mg base G5 5 := g4.def ⟨[], false⟩ [true, true] 60 _ d4 sc_f_add bd_f_add kwNone eq_f_add
  have g6 : Glob P w K mg base G6 6 := g5.def ⟨[], false⟩ [true, true] 60 _ d5 sc_f_less bd_f_less kwNone eq_f_less
  have g7 : Glob P w K mg base G7 7 := g6.def ⟨[], false⟩ [true, true] 60 _ d6 sc_f_times bd_f_times kwNone eq_f_times
  have g8 : Glob P w K mg base G8 8 := g7.def ⟨[], false⟩ [true, true] 60 _ d7 sc_f_is_below bd_f_is_below kwNone eq_f_is_below
  have g9 : Glob P w K mg base G9 9 := g8.def ⟨[], false⟩ [true, true] 60 _ d8 sc_f_lesser bd_f_lesser kwNone eq_f_lesser
  have g10 : Glob P w K mg base G10 10 := g9.def ⟨[], false⟩ [true, true] 60 _ d9 sc_f_greater bd_f_greater kwNone eq_f_greater
  have g11 : Glob P w K mg base G11 11 := g10.def ⟨[], false⟩ [true] 60 _ d10 sc_f_total bd_f_total kwNone eq_f_total
  have g12 : Glob P w K mg base G12 12 := g11.def ⟨[], false⟩ [true] 60 _ d11 sc_f_is_chance bd_f_is_chance kwNone eq_f_is_chance
  have g13 : Glob P w K mg base G13 13 := g12.def ⟨[], false⟩ [true] 60 _ d12 sc_f_are_rising bd_f_are_rising kwNone eq_f_are_rising
  have g14 : Glob P w K mg base G14 14 := g13.def ⟨[], false⟩ [true] 60 _ d13 sc_f_is_pair bd_f_is_pair kwNone eq_f_is_pair
  have g15 : Glob P w K mg base G15 15 := g14.def ⟨[], false⟩ [true] 60 _ d14 sc_f_is_draw bd_f_is_draw kwNone eq_f_is_draw
  have g16 : Glob P w K mg base G16 16 := g15.def ⟨[], false⟩ [true] 60 _ d15 sc_f_check_draw bd_f_check_draw kwNone eq_f_check_draw
  have g17 : Glob P w K mg base G17 17 := g16.def ⟨[], false⟩ [true] 60 _ d16 sc_f_check_number bd_f_check_number kwNone eq_f_check_number
  have g18 : Glob P w K mg base G18 18 := g17.def ⟨[], false⟩ [true] 60 _ d17 sc_f_mean_of bd_f_mean_of kwNone eq_f_mean_of
  have g19 : Glob P w K mg base G19 19 := g18.def ⟨[], false⟩ [true, true] 60 _ d18 sc_f_capped_of bd_f_capped_of kwNone eq_f_capped_of
  have g20 : Glob P w K mg base G20 20 := g19.def ⟨[], false⟩ [true, true] 60 _ d19 sc_f_excess_of bd_f_excess_of kwNone eq_f_excess_of
  have g21 : Glob P w K mg base G21 21 := g20.def ⟨[], false⟩ [true, true] 60 _ d20 sc_f_chance_over bd_f_chance_over kwNone eq_f_chance_over
  have g22 : Glob P w K mg base G22 22 := g21.def ⟨[], false⟩ [true] 60 _ d21 sc_f_mean bd_f_mean (kwOne bk_f_mean_0 kwNone) eq_f_mean
  have g23 : Glob P w K mg base G23 23 := g22.def ⟨[], false⟩ [true, true] 60 _ d22 sc_f_capped bd_f_capped (kwOne bk_f_capped_0 kwNone) eq_f_capped
  have g24 : Glob P w K mg base G24 24 := g23.def ⟨[], false⟩ [true, true] 60 _ d23 sc_f_excess bd_f_excess (kwOne bk_f_excess_0 kwNone) eq_f_excess
  have g25 : Glob P w K mg base G25 25 := g24.def ⟨[], false⟩ [true, true] 60 _ d24 sc_f_chance_above bd_f_chance_above (kwOne bk_f_chance_above_0 kwNone) eq_f_chance_above
  have g26 : Glob P w K mg base G26 26 := g25.def ⟨[], false⟩ [true, true] 60 _ d25 sc_f_chance_of bd_f_chance_of (kwOne bk_f_chance_of_0 kwNone) eq_f_chance_of
  have g27 : Glob P w K mg base G27 27 := g26.def ⟨[], true⟩ [true, true] 60 _ d26 sc_f__law_chest bd_f__law_chest kwNone eq_f__law_chest
  have g28 : Glob P w K mg base G28 28 := g27.def ⟨[], false⟩ [false, true] 60 _ d27 sc_f__law_grab bd_f__law_grab kwNone eq_f__law_grab
  have g29 : Glob P w K mg base G29 29 := g28.def ⟨[], false⟩ [false, false] 60 _ d28 sc_f__law_one bd_f__law_one kwNone eq_f__law_one
  have g30 : Glob P w K mg base G30 30 := g29.def ⟨[], false⟩ [true, true] 60 _ d29 sc_f__law_frac bd_f__law_frac kwNone eq_f__law_frac
  have g31 : Glob P w K mg base G31 31 := g30.def ⟨[], false⟩ [true, true] 60 _ d30 sc_f__law_plus bd_f__law_plus kwNone eq_f__law_plus
  have g32 : Glob P w K mg base G32 32 := g31.def ⟨[], false⟩ [true, true] 60 _ d31 sc_f__law_minus bd_f__law_minus kwNone eq_f__law_minus
  have g33 : Glob P w K mg base G33 33 := g32.def ⟨[], false⟩ [true, true] 60 _ d32 sc_f__law_by bd_f__law_by kwNone eq_f__law_by
  have g34 : Glob P w K mg base G34 34 := g33.def ⟨[], false⟩ [true, true] 60 _ d33 sc_f__law_under bd_f__law_under kwNone eq_f__law_under
  have g35 : Glob P w K mg base G35 35 := g34.def ⟨[], false⟩ [true] 60 _ d34 sc_f__law_sum bd_f__law_sum kwNone eq_f__law_sum
  have g36 : Glob P w K mg base G36 36 := g35.def ⟨["_law_known"], false⟩ [true] 60 _ d35 sc_f__law_rising bd_f__law_rising kwNone eq_f__law_rising
  have g37 : Glob P w K mg base G37 37 := g36.def ⟨["_law_known"], false⟩ [true] 60 _ d36 sc_f__law_gather bd_f__law_gather kwNone eq_f__law_gather
  have g38 : Glob P w K mg base G38 38 := g37.def ⟨["_law_parts", "_law_spots_here"], false⟩ [false, true] 60 _ d37 sc_f__law_lot bd_f__law_lot kwNone eq_f__law_lot
  have g39 : Glob P w K mg base G39 39 := g38.def ⟨[], false⟩ [true] 60 _ d38 sc_f__law_mean bd_f__law_mean kwNone eq_f__law_mean
  have g40 : Glob P w K mg base G40 40 := g39.def ⟨[], false⟩ [true, true] 60 _ d39 sc_f__law_lesser bd_f__law_lesser kwNone eq_f__law_lesser
  have g41 : Glob P w K mg base G41 41 := g40.def ⟨[], false⟩ [true, true] 60 _ d40 sc_f__law_greater bd_f__law_greater kwNone eq_f__law_greater
  have g42 : Glob P w K mg base G42 42 := g41.def ⟨[], false⟩ [true, true] 60 _ d41 sc_f__law_capped bd_f__law_capped kwNone eq_f__law_capped
  have g43 : Glob P w K mg base G43 43 := g42.def ⟨[], false⟩ [true, true] 60 _ d42 sc_f__law_excess bd_f__law_excess kwNone eq_f__law_excess
  have g44 : Glob P w K mg base G44 44 := g43.def ⟨[], false⟩ [true, true] 60 _ d43 sc_f__law_above bd_f__law_above kwNone eq_f__law_above
  have g45 : Glob P w K mg base G45 45 := g44.def ⟨["_law_found"], false⟩ [false, true] 60 _ d44 sc_f__law_spots bd_f__law_spots kwNone eq_f__law_spots
  have g46 : Glob P w K mg base G46 46 := g45.def ⟨["_law_due"], false⟩ [true, true] 60 _ d45 sc_f__law_at_right bd_f__law_at_right kwNone eq_f__law_at_right
  have g47 : Glob P w K mg base G47 47 := g46.def ⟨[], false⟩ [true, true, true] 60 _ d46 sc_f__law_two_right bd_f__law_two_right kwNone eq_f__law_two_right
  have g48 : Glob P w K mg base G48 48 := g47.def ⟨[], false⟩ [false] 60 _ d47 sc_f__law_right bd_f__law_right kwNone eq_f__law_right
  exact g48
theorem all_mk {l : PySem.W.OpenLaw} {w : World} {K : PySem.W.Frag} {h : Heap} {mg : Str → Option Value} {fa : Addr} (X : K.In h) (G : h.Ns mainGlobals mg) (hfa : mg "law" = some (.ref fa)) (d0 : DefOk K mg "is_between" "is_between" (topS 7)) (d1 : DefOk K mg "common" "common" (topS 8)) (d2 : DefOk K mg "lowest" "lowest" (topS 9)) (d3 : DefOk K mg "is_fraction" "is_fraction" (topS 10)) (d4 : DefOk K mg "add" "add" (topS 11)) (d5 : DefOk K mg "less" "less" (topS 12)) (d6 : DefOk K mg "times" "times" (topS 13)) (d7 : DefOk K mg "is_below" "is_below" (topS 14)) (d8 : DefOk K mg "lesser" "lesser" (topS 15)) (d9 : DefOk K mg "greater" "greater" (topS 16)) (d10 : DefOk K mg "total" "total" (topS 17)) (d11 : DefOk K mg "is_chance" "is_chance" (topS 18)) (d12 : DefOk K mg "are_rising" "are_rising" (topS 19)) (d13 : DefOk K mg "is_pair" "is_pair" (topS 22)) (d14 : DefOk K mg "is_draw" "is_draw" (topS 23)) (d15 : DefOk K mg "check_draw" "check_draw" (topS 24)) (d16 : DefOk K mg "check_number" "check_number" (topS 25)) (d17 : DefOk K mg "mean_of" "mean_of" (topS 26)) (d18 : DefOk K mg "capped_of" "capped_of" (topS 27)) (d19 : DefOk K mg "excess_of" "excess_of" (topS 28)) (d20 : DefOk K mg "chance_over" "chance_over" (topS 29)) (d21 : DefOk K mg "mean" "mean" (topS 30)) (d22 : DefOk K mg "capped" "capped" (topS 31)) (d23 : DefOk K mg "excess" "excess" (topS 32)) (d24 : DefOk K mg "chance_above" "chance_above" (topS 33)) (d25 : DefOk K mg "chance_of" "chance_of" (topS 34)) (d26 : DefOk K mg "_law_chest" "_law_chest" (topS 36)) (d27 : DefOk K mg "_law_grab" "_law_grab" (topS 37)) (d28 : DefOk K mg "_law_one" "_law_one" (topS 38)) (d29 : DefOk K mg "_law_frac" "_law_frac" (topS 39)) (d30 : DefOk K mg "_law_plus" "_law_plus" (topS 40)) (d31 : DefOk K mg "_law_minus" "_law_minus" (topS 41)) (d32 : DefOk K mg "_law_by" "_law_by" (topS 42)) (d33 : DefOk K mg "_law_under" "_law_under" (topS 43)) (d34 : DefOk K mg "_law_sum" "_law_sum" (topS 44)) (d35 : DefOk K mg "_law_rising" "_law_rising" (topS 45)) (d36 : DefOk K mg "_law_gather" "_law_gather" (topS 46)) (d37 : DefOk K mg "_law_lot" "_law_lot" (topS 47)) (d38 : DefOk K mg "_law_mean" "_law_mean" (topS 48)) (d39 : DefOk K mg "_law_lesser" "_law_lesser" (topS 49)) (d40 : DefOk K mg "_law_greater" "_law_greater" (topS 50)) (d41 : DefOk K mg "_law_capped" "_law_capped" (topS 51)) (d42 : DefOk K mg "_law_excess" "_law_excess" (topS 52)) (d43 : DefOk K mg "_law_above" "_law_above" (topS 53)) (d44 : DefOk K mg "_law_spots" "_law_spots" (topS 54)) (d45 : DefOk K mg "_law_at_right" "_law_at_right" (topS 55)) (d46 : DefOk K mg "_law_two_right" "_law_two_right" (topS 56)) (d47 : DefOk K mg "_law_right" "_law_right" (topS 57)) (c0 : ∃ u v, mg "ZERO" = some u ∧ RelV v u ∧ ∀ H, Dq (kk false K) H v (.tuple [.int 0, .int 1])) (c1 : ∃ u v, mg "ONE" = some u ∧ RelV v u ∧ ∀ H, Dq (kk false K) H v (.tuple [.int 1, .int 1])) (c2 : ∃ u v, mg "MOST_PAIRS" = some u ∧ RelV v u ∧ ∀ H, Dq (kk true K) H v (.int 64)) (b0 : mg "abs" = none) (b1 : mg "all" = none) (b2 : mg "bool" = none) (b3 : mg "divmod" = none) (b4 : mg "int" = none) (b5 : mg "isinstance" = none) (b6 : mg "len" = none) (b7 : mg "list" = none) (b8 : mg "max" = none) (b9 : mg "min" = none) (b10 : mg "range" = none) (b11 : mg "repr" = none) (b12 : mg "sorted" = none) (b13 : mg "sum" = none) (b14 : mg "tuple" = none) (dl : DefOk K mg "law" "law" (topS 58)) :
    ∃ fd : FuncData, (∀ (s : Shared) (v : Value), BindsTo s fd ⟨[v], []⟩ [("_law_cells", v)]) ∧ ∀ base : Heap, K.In base → base.Ns mainGlobals mg → FnG l.prog w K mg base 49 fa fd ["_law_cells"] (spOf K 1 f_law) := by
  obtain ⟨f, fd, hm, F⟩ := dl
  have e := hfa.symm.trans hm
  cases e
  obtain ⟨oc, od, kV, doc, pm, an, cdv, ct, osl, rfl, lk, hcd⟩ := id F.ex
  refine ⟨_, fun s v => .of_eq (bd_f_law kV doc pm an cdv ct [v] rfl), fun base _ _ => ?_⟩
  exact Glob.law (y := "law") (glob d0 d1 d2 d3 d4 d5 d6 d7 d8 d9 d10 d11 d12 d13 d14 d15 d16 d17 d18 d19 d20 d21 d22 d23 d24 d25 d26 d27 d28 d29 d30 d31 d32 d33 d34 d35 d36 d37 d38 d39 d40 d41 d42 d43 d44 d45 d46 d47 c0 c1 c2 b0 b1 b2 b3 b4 b5 b6 b7 b8 b9 b10 b11 b12 b13 b14) ⟨[], false⟩ [false] 60 F sc_f_law eq_f_law
end K2
open PySem PySem.W PyProof.Rows
set_option maxHeartbeats 0 in
theorem PySem.Challenge.cw_placeworths_k02_whole_draws_told_holds : PySem.Challenge.rw_placeworths_k02_whole_draws_told.Holds := by
  w_on; o_law; k_head; (case hw => w_witness2)
  k_fill
  refine Ek.walkG (l := PySem.Challenge.rw_placeworths_k02_whole_draws_told) (n := 63) (k := 49) (x := "_law_cells") (sp := fun w => Ek.spOf _ 1 K2.f_law) rfl (by decide) rfl ⟨rfl, by decide, by decide⟩ (fun w h Y => PySem.W.kIn_of Y) ?F (fun _ _ a ns hl _ hS => (by obtain ⟨t, M, h⟩ := K2.law_ok ns hl; exact Ek.law_sp hS h))
  case F =>
    intro w mg fa h KX G hmg
    refine' K2.all_mk KX G hmg ?d0 ?d1 ?d2 ?d3 ?d4 ?d5 ?d6 ?d7 ?d8 ?d9 ?d10 ?d11 ?d12 ?d13 ?d14 ?d15 ?d16 ?d17 ?d18 ?d19 ?d20 ?d21 ?d22 ?d23 ?d24 ?d25 ?d26 ?d27 ?d28 ?d29 ?d30 ?d31 ?d32 ?d33 ?d34 ?d35 ?d36 ?d37 ?d38 ?d39 ?d40 ?d41 ?d42 ?d43 ?d44 ?d45 ?d46 ?d47 ?c0 ?c1 ?c2 ?b0 ?b1 ?b2 ?b3 ?b4 ?b5 ?b6 ?b7 ?b8 ?b9 ?b10 ?b11 ?b12 ?b13 ?b14 ?dl
    (case d0 => (refine' Ek.def_mk KX G ?a ?l ?c ?kp; (case a => k_is); (case l => k_is); (case c => k_is); (case kp => k_is)))
    (case d1 => (refine' Ek.def_mk KX G ?a ?l ?c ?kp; (case a => k_is); (case l => k_is); (case c => k_is); (case kp => k_is)))
    (case d2 => (refine' Ek.def_mk KX G ?a ?l ?c ?kp; (case a => k_is); (case l => k_is); (case c => k_is); (case kp => k_is)))
    (case d3 => (refine' Ek.def_mk KX G ?a ?l ?c ?kp; (case a => k_is); (case l => k_is); (case c => k_is); (case kp => k_is)))
    (case d4 => (refine' Ek.def_mk KX G ?a ?l ?c ?kp; (case a => k_is); (case l => k_is); (case c => k_is); (case kp => k_is)))
    (case d5 => (refine' Ek.def_mk KX G ?a ?l ?c ?kp; (case a => k_is); (case l => k_is); (case c => k_is); (case kp => k_is)))
    (case d6 => (refine' Ek.def_mk KX G ?a ?l ?c ?kp; (case a => k_is); (case l => k_is); (case c => k_is); (case kp => k_is)))
    (case d7 => (refine' Ek.def_mk KX G ?a ?l ?c ?kp; (case a => k_is); (case l => k_is); (case c => k_is); (case kp => k_is)))
    (case d8 => (refine' Ek.def_mk KX G ?a ?l ?c ?kp; (case a => k_is); (case l => k_is); (case c => k_is); (case kp => k_is)))
    (case d9 => (refine' Ek.def_mk KX G ?a ?l ?c ?kp; (case a => k_is); (case l => k_is); (case c => k_is); (case kp => k_is)))
    (case d10 => (refine' Ek.def_mk KX G ?a ?l ?c ?kp; (case a => k_is); (case l => k_is); (case c => k_is); (case kp => k_is)))
    (case d11 => (refine' Ek.def_mk KX G ?a ?l ?c ?kp; (case a => k_is); (case l => k_is); (case c => k_is); (case kp => k_is)))
    (case d12 => (refine' Ek.def_mk KX G ?a ?l ?c ?kp; (case a => k_is); (case l => k_is); (case c => k_is); (case kp => k_is)))
    (case d13 => (refine' Ek.def_mk KX G ?a ?l ?c ?kp; (case a => k_is); (case l => k_is); (case c => k_is); (case kp => k_is)))
    (case d14 => (refine' Ek.def_mk KX G ?a ?l ?c ?kp; (case a => k_is); (case l => k_is); (case c => k_is); (case kp => k_is)))
    (case d15 => (refine' Ek.def_mk KX G ?a ?l ?c ?kp; (case a => k_is); (case l => k_is); (case c => k_is); (case kp => k_is)))
    (case d16 => (refine' Ek.def_mk KX G ?a ?l ?c ?kp; (case a => k_is); (case l => k_is); (case c => k_is); (case kp => k_is)))
    (case d17 => (refine' Ek.def_mk KX G ?a ?l ?c ?kp; (case a => k_is); (case l => k_is); (case c => k_is); (case kp => k_is)))
    (case d18 => (refine' Ek.def_mk KX G ?a ?l ?c ?kp; (case a => k_is); (case l => k_is); (case c => k_is); (case kp => k_is)))
    (case d19 => (refine' Ek.def_mk KX G ?a ?l ?c ?kp; (case a => k_is); (case l => k_is); (case c => k_is); (case kp => k_is)))
    (case d20 => (refine' Ek.def_mk KX G ?a ?l ?c ?kp; (case a => k_is); (case l => k_is); (case c => k_is); (case kp => k_is)))
    (case d21 => (refine' Ek.def_mk KX G ?a ?l ?c ?kp; (case a => k_is); (case l => k_is); (case c => k_is); (case kp => k_is)))
    (case d22 => (refine' Ek.def_mk KX G ?a ?l ?c ?kp; (case a => k_is); (case l => k_is); (case c => k_is); (case kp => k_is)))
    (case d23 => (refine' Ek.def_mk KX G ?a ?l ?c ?kp; (case a => k_is); (case l => k_is); (case c => k_is); (case kp => k_is)))
    (case d24 => (refine' Ek.def_mk KX G ?a ?l ?c ?kp; (case a => k_is); (case l => k_is); (case c => k_is); (case kp => k_is)))
    (case d25 => (refine' Ek.def_mk KX G ?a ?l ?c ?kp; (case a => k_is); (case l => k_is); (case c => k_is); (case kp => k_is)))
    (case d26 => (refine' Ek.def_mk KX G ?a ?l ?c ?kp; (case a => k_is); (case l => k_is); (case c => k_is); (case kp => k_is)))
    (case d27 => (refine' Ek.def_mk KX G ?a ?l ?c ?kp; (case a => k_is); (case l => k_is); (case c => k_is); (case kp => k_is)))
    (case d28 => (refine' Ek.def_mk KX G ?a ?l ?c ?kp; (case a => k_is); (case l => k_is); (case c => k_is); (case kp => k_is)))
    (case d29 => (refine' Ek.def_mk KX G ?a ?l ?c ?kp; (case a => k_is); (case l => k_is); (case c => k_is); (case kp => k_is)))
    (case d30 => (refine' Ek.def_mk KX G ?a ?l ?c ?kp; (case a => k_is); (case l => k_is); (case c => k_is); (case kp => k_is)))
    (case d31 => (refine' Ek.def_mk KX G ?a ?l ?c ?kp; (case a => k_is); (case l => k_is); (case c => k_is); (case kp => k_is)))
    (case d32 => (refine' Ek.def_mk KX G ?a ?l ?c ?kp; (case a => k_is); (case l => k_is); (case c => k_is); (case kp => k_is)))
    (case d33 => (refine' Ek.def_mk KX G ?a ?l ?c ?kp; (case a => k_is); (case l => k_is); (case c => k_is); (case kp => k_is)))
    (case d34 => (refine' Ek.def_mk KX G ?a ?l ?c ?kp; (case a => k_is); (case l => k_is); (case c => k_is); (case kp => k_is)))
    (case d35 => (refine' Ek.def_mk KX G ?a ?l ?c ?kp; (case a => k_is); (case l => k_is); (case c => k_is); (case kp => k_is)))
    (case d36 => (refine' Ek.def_mk KX G ?a ?l ?c ?kp; (case a => k_is); (case l => k_is); (case c => k_is); (case kp => k_is)))
    (case d37 => (refine' Ek.def_mk KX G ?a ?l ?c ?kp; (case a => k_is); (case l => k_is); (case c => k_is); (case kp => k_is)))
    (case d38 => (refine' Ek.def_mk KX G ?a ?l ?c ?kp; (case a => k_is); (case l => k_is); (case c => k_is); (case kp => k_is)))
    (case d39 => (refine' Ek.def_mk KX G ?a ?l ?c ?kp; (case a => k_is); (case l => k_is); (case c => k_is); (case kp => k_is)))
    (case d40 => (refine' Ek.def_mk KX G ?a ?l ?c ?kp; (case a => k_is); (case l => k_is); (case c => k_is); (case kp => k_is)))
    (case d41 => (refine' Ek.def_mk KX G ?a ?l ?c ?kp; (case a => k_is); (case l => k_is); (case c => k_is); (case kp => k_is)))
    (case d42 => (refine' Ek.def_mk KX G ?a ?l ?c ?kp; (case a => k_is); (case l => k_is); (case c => k_is); (case kp => k_is)))
    (case d43 => (refine' Ek.def_mk KX G ?a ?l ?c ?kp; (case a => k_is); (case l => k_is); (case c => k_is); (case kp => k_is)))
    (case d44 => (refine' Ek.def_mk KX G ?a ?l ?c ?kp; (case a => k_is); (case l => k_is); (case c => k_is); (case kp => k_is)))
    (case d45 => (refine' Ek.def_mk KX G ?a ?l ?c ?kp; (case a => k_is); (case l => k_is); (case c => k_is); (case kp => k_is)))
    (case d46 => (refine' Ek.def_mk KX G ?a ?l ?c ?kp; (case a => k_is); (case l => k_is); (case c => k_is); (case kp => k_is)))
    (case d47 => (refine' Ek.def_mk KX G ?a ?l ?c ?kp; (case a => k_is); (case l => k_is); (case c => k_is); (case kp => k_is)))
    (case c0 => (refine' Ek.cstT KX G ?a ?l; (case a => k_is); (case l => k_is)))
    (case c1 => (refine' Ek.cstT KX G ?a ?l; (case a => k_is); (case l => k_is)))
    (case c2 => (refine' Ek.cstI KX G ?a; (case a => k_is)))
    (case b0 => exact PySem.W.mg_none_of KX G (by k_is))
    (case b1 => exact PySem.W.mg_none_of KX G (by k_is))
    (case b2 => exact PySem.W.mg_none_of KX G (by k_is))
    (case b3 => exact PySem.W.mg_none_of KX G (by k_is))
    (case b4 => exact PySem.W.mg_none_of KX G (by k_is))
    (case b5 => exact PySem.W.mg_none_of KX G (by k_is))
    (case b6 => exact PySem.W.mg_none_of KX G (by k_is))
    (case b7 => exact PySem.W.mg_none_of KX G (by k_is))
    (case b8 => exact PySem.W.mg_none_of KX G (by k_is))
    (case b9 => exact PySem.W.mg_none_of KX G (by k_is))
    (case b10 => exact PySem.W.mg_none_of KX G (by k_is))
    (case b11 => exact PySem.W.mg_none_of KX G (by k_is))
    (case b12 => exact PySem.W.mg_none_of KX G (by k_is))
    (case b13 => exact PySem.W.mg_none_of KX G (by k_is))
    (case b14 => exact PySem.W.mg_none_of KX G (by k_is))
    (case dl => (refine' Ek.def_mk KX G ?a ?l ?c ?kp; (case a => k_is); (case l => k_is); (case c => k_is); (case kp => k_is)))
