import PyProof.Rows.All
import Wide.All
import OpenK.AllK
import Wide.FinOn
import HandS.ForMost
import HandS.Wide
import HandS.WideBits
import HandS.Strs
import HandS.IsInst
import HandS.TupAny
import HandS.Style
import HandS.SetFor
import HandS.Deep
import PySem.Challenge.RW_placeworths_k15_whole_one_bar_for_all
set_option Elab.async false
set_option linter.all false
set_option maxRecDepth 100000
set_option autoImplicit false
/-! Ek0: plain data and a small store over the hand layer's abstract heap -/
namespace Ek
open PySem PySem.Spec PyProof.Rows L2
abbrev PD := PyData

/-- a mutable thing of the store -/
inductive MO where
  | lst (t : Bool) (xs : List PD)
  | dT (kvs : List (List Key × PD))
  | fzn (t : Bool) (xs : List PD)
  | dead
def MO.live : MO → Bool
  | .lst _ _ => true
  | .dT _ => true
  | _ => false
/-- a value: plain data (t: no tuple of the written part is in it), or a place of the store -/
inductive W where
  | d (t : Bool) (x : PD)
  | loc (n : Nat)
  /-- the script -/
  | s (xs : List PD)
/-- the written part, or nothing of it -/
def kk (t : Bool) (K : PySem.W.Frag) : PySem.W.Frag := match t with
  | true => []
  | false => K
abbrev MS := List MO
abbrev Sl := List (Option W)
abbrev Sm (α : Type) := Sl → MS → Option (α × MS)

/-! ### plain data in the heap: as Dp, but lists are never of the written part -/
def TupR (K : PySem.W.Frag) (H : Hp) (a : Addr) (xs : List V) : Prop :=
  H a = some (.tup xs) ∨ ∃ (o : Obj) (its : Array Value) (n : Nat), K.lookup a = some o ∧ o.cls = .type "tuple" ∧ o.data = .seq its n ∧ its.size ≤ sizeLine ∧ Vals xs its.toList
theorem TupR.sq {K : PySem.W.Frag} {H : Hp} {a : Addr} {xs : List V} (h : TupR K H a xs) : SqT K H a xs := h.imp .inl id
theorem TupR.own {H : Hp} {a : Addr} {xs : List V} (h : TupR [] H a xs) : H a = some (.tup xs) := h.elim id fun ⟨o, its, n, e, _⟩ => by cases e
mutual
inductive Dq (K : PySem.W.Frag) (H : Hp) : V → PyData → Prop
  | non : Dq K H .non .none
  | bl (b : Bool) : Dq K H (.bl b) (.bool b)
  | int (i : Int) : Dq K H (.int i) (.int i)
  | str (x : Str) : Dq K H (.str x) (.str x)
  | lst {a : Addr} {xs : List V} {ds : List PyData} : H a = some (.lst xs) → DqAll K H xs ds → Dq K H (.ref a) (.list ds)
  | tup {a : Addr} {xs : List V} {ds : List PyData} : TupR K H a xs → DqAll K H xs ds → Dq K H (.ref a) (.tuple ds)
inductive DqAll (K : PySem.W.Frag) (H : Hp) : List V → List PyData → Prop
  | nil : DqAll K H [] []
  | cons {v : V} {vs : List V} {d : PyData} {ds : List PyData} : Dq K H v d → DqAll K H vs ds → DqAll K H (v :: vs) (d :: ds)
end
mutual
theorem dq_dp {K : PySem.W.Frag} {H : Hp} : ∀ {v : V} (d : PD), Dq K H v d → Dp K H v d
  | _, .none, h => by cases h; exact .non
  | _, .bool _, h => by cases h; exact .bl _
  | _, .int _, h => by cases h; exact .int _
  | _, .str _, h => by cases h; exact .str _
  | _, .list ds, h => by
    cases h with
    | lst hs ha => exact .lst (.inl (.inl hs)) (dqa_dpa ds ha)
  | _, .tuple ds, h => by
    cases h with
    | tup hs ha => exact .tup hs.sq (dqa_dpa ds ha)
  | _, .dict _, h => by cases h
theorem dqa_dpa {K : PySem.W.Frag} {H : Hp} : ∀ {vs : List V} (ds : List PD), DqAll K H vs ds → DpAll K H vs ds
  | _, [], h => by cases h; exact .nil
  | _, d :: ds, h => by
    cases h with
    | cons h1 h2 => exact .cons (dq_dp d h1) (dqa_dpa ds h2)
end
/-! ### under more known -/
theorem sq_l {K : PySem.W.Frag} {H H' : Hp} {a : Addr} {xs : List V} (e : Same H H') (h : SqL K H a xs) : SqL K H' a xs := by
  rcases h with (h | ⟨o, h⟩) | h
  · exact .inl (.inl (e _ _ h))
  · exact .inl (.inr ⟨o, e _ _ h⟩)
  · exact .inr h
theorem sq_t {K : PySem.W.Frag} {H H' : Hp} {a : Addr} {xs : List V} (e : Same H H') (h : TupR K H a xs) : TupR K H' a xs := h.imp (fun h => e _ _ h) id
mutual
theorem dp_mono {K : PySem.W.Frag} {H H' : Hp} (e : Same H H') : ∀ {v : V} (d : PD), Dq K H v d → Dq K H' v d
  | _, .none, h => by cases h; exact .non
  | _, .bool _, h => by cases h; exact .bl _
  | _, .int _, h => by cases h; exact .int _
  | _, .str _, h => by cases h; exact .str _
  | _, .list ds, h => by
    cases h with
    | lst hs ha => exact .lst (e _ _ hs) (dpa_mono e ds ha)
  | _, .tuple ds, h => by
    cases h with
    | tup hs ha => exact .tup (sq_t e hs) (dpa_mono e ds ha)
  | _, .dict _, h => by cases h
theorem dpa_mono {K : PySem.W.Frag} {H H' : Hp} (e : Same H H') : ∀ {vs : List V} (ds : List PD), DqAll K H vs ds → DqAll K H' vs ds
  | _, [], h => by cases h; exact .nil
  | _, d :: ds, h => by
    cases h with
    | cons h1 h2 => exact .cons (dp_mono e d h1) (dpa_mono e ds h2)
end
mutual
theorem dq_up {K : PySem.W.Frag} {H : Hp} : ∀ {v : V} (d : PD), Dq [] H v d → Dq K H v d
  | _, .none, h => by cases h; exact .non
  | _, .bool _, h => by cases h; exact .bl _
  | _, .int _, h => by cases h; exact .int _
  | _, .str _, h => by cases h; exact .str _
  | _, .list ds, h => by
    cases h with
    | lst hs ha => exact .lst hs (dqa_up ds ha)
  | _, .tuple ds, h => by
    cases h with
    | tup hs ha => exact .tup (.inl hs.own) (dqa_up ds ha)
  | _, .dict _, h => by cases h
theorem dqa_up {K : PySem.W.Frag} {H : Hp} : ∀ {vs : List V} (ds : List PD), DqAll [] H vs ds → DqAll K H vs ds
  | _, [], h => by cases h; exact .nil
  | _, d :: ds, h => by
    cases h with
    | cons h1 h2 => exact .cons (dq_up d h1) (dqa_up ds h2)
end
/-- fewer promises -/
theorem kkU {t : Bool} {K : PySem.W.Frag} {H : Hp} {v : V} {d : PD} (h : Dq (kk t K) H v d) : Dq K H v d := by
  cases t with
  | true => exact dq_up d h
  | false => exact h
theorem kkUs {t : Bool} {K : PySem.W.Frag} {H : Hp} {v : List V} {d : List PD} (h : DqAll (kk t K) H v d) : DqAll K H v d := by
  cases t with
  | true => exact dqa_up d h
  | false => exact h
theorem kkL {t : Bool} (s : Bool) {K : PySem.W.Frag} {H : Hp} {v : V} {d : PD} (h : Dq (kk t K) H v d) : Dq (kk (t && s) K) H v d := by
  cases s with
  | true => rw [Bool.and_true]; exact h
  | false => rw [Bool.and_false]; exact kkU h
theorem kkR {t : Bool} (s : Bool) {K : PySem.W.Frag} {H : Hp} {v : V} {d : PD} (h : Dq (kk t K) H v d) : Dq (kk (s && t) K) H v d := by
  rw [Bool.and_comm]
  exact kkL s h
theorem kkLs {t : Bool} (s : Bool) {K : PySem.W.Frag} {H : Hp} {v : List V} {d : List PD} (h : DqAll (kk t K) H v d) : DqAll (kk (t && s) K) H v d := by
  cases s with
  | true => rw [Bool.and_true]; exact h
  | false => rw [Bool.and_false]; exact kkUs h
theorem kkRs {t : Bool} (s : Bool) {K : PySem.W.Frag} {H : Hp} {v : List V} {d : List PD} (h : DqAll (kk t K) H v d) : DqAll (kk (s && t) K) H v d := by
  rw [Bool.and_comm]
  exact kkLs s h
/-- of things that are no tuples and no lists nothing is to be promised -/
def nf (t : Bool) : PD → Bool
  | .list _ => t
  | .tuple _ => t
  | _ => true
theorem dq_nf {t : Bool} {K : PySem.W.Frag} {H : Hp} {v : V} {x : PD} (h : Dq (kk t K) H v x) : Dq (kk (nf t x) K) H v x := by
  cases h with
  | non => exact .non
  | bl b => exact .bl b
  | int i => exact .int i
  | str x => exact .str x
  | lst h1 h2 => exact .lst h1 h2
  | tup h1 h2 => exact .tup h1 h2
theorem dpa_length {K : PySem.W.Frag} {H : Hp} : ∀ {vs : List V} {ds : List PD}, DqAll K H vs ds → vs.length = ds.length
  | _, [], h => by cases h; rfl
  | _, d :: ds, h => by
    cases h with
    | cons h1 h2 => simp [dpa_length h2]
theorem dpa_get {K : PySem.W.Frag} {H : Hp} : ∀ {vs : List V} {ds : List PD} {i : Nat} {v : V}, DqAll K H vs ds → vs[i]? = some v → ∃ d, ds[i]? = some d ∧ Dq K H v d
  | _, [], _, _, h, e => by cases h; simp at e
  | _, d :: ds, 0, _, h, e => by
    cases h with
    | cons h1 h2 => simp at e; subst e; exact ⟨d, rfl, h1⟩
  | _, d :: ds, i + 1, v, h, e => by
    cases h with
    | cons h1 h2 => simpa using dpa_get (i := i) h2 (by simpa using e)
theorem dpa_getD {K : PySem.W.Frag} {H : Hp} : ∀ {vs : List V} {ds : List PD} {i : Nat} {d : PD}, DqAll K H vs ds → ds[i]? = some d → ∃ v, vs[i]? = some v ∧ Dq K H v d
  | _, [], _, _, h, e => by simp at e
  | _, d :: ds, 0, _, h, e => by
    cases h with
    | cons h1 h2 => simp at e; subst e; exact ⟨_, rfl, h1⟩
  | _, d :: ds, i + 1, v, h, e => by
    cases h with
    | cons h1 h2 => simpa using dpa_getD (i := i) h2 (by simpa using e)
theorem dpa_append {K : PySem.W.Frag} {H : Hp} : ∀ {vs us : List V} {ds es : List PD}, DqAll K H vs ds → DqAll K H us es → DqAll K H (vs ++ us) (ds ++ es)
  | _, _, [], _, h, h' => by cases h; exact h'
  | _, _, d :: ds, _, h, h' => by
    cases h with
    | cons h1 h2 => exact .cons h1 (dpa_append h2 h')
theorem dpa_take {K : PySem.W.Frag} {H : Hp} : ∀ {vs : List V} {ds : List PD} (n : Nat), DqAll K H vs ds → DqAll K H (vs.take n) (ds.take n)
  | _, [], n, h => by cases h; simpa using DqAll.nil
  | _, d :: ds, 0, h => by simpa using DqAll.nil
  | _, d :: ds, n + 1, h => by
    cases h with
    | cons h1 h2 => exact .cons h1 (dpa_take n h2)
theorem dpa_drop {K : PySem.W.Frag} {H : Hp} : ∀ {vs : List V} {ds : List PD} (n : Nat), DqAll K H vs ds → DqAll K H (vs.drop n) (ds.drop n)
  | _, [], n, h => by cases h; simpa using DqAll.nil
  | _, d :: ds, 0, h => h
  | _, d :: ds, n + 1, h => by
    cases h with
    | cons h1 h2 => exact dpa_drop n h2
theorem dpa_set {K : PySem.W.Frag} {H : Hp} {v : V} {d : PD} (hd : Dq K H v d) : ∀ {vs : List V} {ds : List PD} (n : Nat), DqAll K H vs ds → DqAll K H (vs.set n v) (ds.set n d)
  | _, [], n, h => by cases h; simpa using DqAll.nil
  | _, e :: ds, 0, h => by
    cases h with
    | cons h1 h2 => exact .cons hd h2
  | _, e :: ds, n + 1, h => by
    cases h with
    | cons h1 h2 => exact .cons h1 (dpa_set hd n h2)
theorem dpa_one {K : PySem.W.Frag} {H : Hp} {v : V} {d : PD} (hd : Dq K H v d) : DqAll K H [v] [d] := .cons hd .nil
theorem dpa_rep {K : PySem.W.Frag} {H : Hp} {v : V} {d : PD} (hd : Dq K H v d) : ∀ n, DqAll K H (List.replicate n v) (List.replicate n d)
  | 0 => .nil
  | n + 1 => .cons hd (dpa_rep hd n)

theorem paired_imp {α β : Type} {R S : α → β → Prop} (h : ∀ a b, R a b → S a b) : ∀ {xs : List α} {ys : List β}, Paired R xs ys → Paired S xs ys
  | _, _, .nil => .nil
  | _, _, .cons r t => .cons (h _ _ r) (paired_imp h t)
/-! ### the store in the heap -/
def Lv (φ : List Addr) (M : MS) (b : Addr) : Prop := ∃ (i : Nat) (o : MO), φ[i]? = some b ∧ M[i]? = some o ∧ o.live = true
open Classical in
/-- what stands still: all that is known but the hidden and the live ones -/
noncomputable def Fz (Z : Addr → Prop) (φ : List Addr) (M : MS) (H : Hp) : Hp := fun b => if Z b ∨ Lv φ M b then none else H b
theorem fz_some {Z : Addr → Prop} {φ : List Addr} {M : MS} {H : Hp} {b : Addr} {o : HO} (h : Fz Z φ M H b = some o) : ¬ Z b ∧ ¬ Lv φ M b ∧ H b = some o := by
  unfold Fz at h
  split at h
  · cases h
  · rename_i hn
    exact ⟨fun z => hn (.inl z), fun z => hn (.inr z), h⟩
theorem fz_mk {Z : Addr → Prop} {φ : List Addr} {M : MS} {H : Hp} {b : Addr} (hz : ¬ Z b) (hl : ¬ Lv φ M b) : Fz Z φ M H b = H b := by
  unfold Fz
  rw [if_neg]
  rintro (h | h)
  · exact hz h
  · exact hl h
theorem fz_sub {Z : Addr → Prop} {φ : List Addr} {M : MS} {H : Hp} : Same (Fz Z φ M H) H := fun b o h => (fz_some h).2.2

def ObjR (K : PySem.W.Frag) (F H : Hp) (a : Addr) : MO → Prop
  | .lst t xs => ∃ vs, H a = some (.lst vs) ∧ DqAll (kk t K) F vs xs
  | .dT kvs => ∃ us, H a = some (.dT us) ∧ Paired (fun (p : List Key × V) (q : List Key × PD) => p.1 = q.1 ∧ Dq K F p.2 q.2) us kvs
  | .fzn t xs => ∃ vs, F a = some (.lst vs) ∧ DqAll (kk t K) F vs xs
  | .dead => ∃ o, H a = some o
structure Mem (K : PySem.W.Frag) (Z : Addr → Prop) (H : Hp) (φ : List Addr) (M : MS) : Prop where
  len : φ.length = M.length
  nd : φ.Nodup
  zk : ∀ z, Z z → ∃ o, H z = some o
  zl : ∀ z, Z z → ¬ Lv φ M z
  obj : ∀ (i : Nat) (a : Addr) (o : MO), φ[i]? = some a → M[i]? = some o → ObjR K (Fz Z φ M H) H a o
def RW (K : PySem.W.Frag) (F : Hp) (φ : List Addr) (v : V) : W → Prop
  | .d t x => Dq (kk t K) F v x
  | .loc n => ∃ a, φ[n]? = some a ∧ v = .ref a
  | .s xs => ∃ a vs, v = .ref a ∧ SqL K F a vs ∧ DqAll [] F vs xs
inductive RWs (K : PySem.W.Frag) (F : Hp) (φ : List Addr) : List V → List W → Prop
  | nil : RWs K F φ [] []
  | cons {v : V} {vs : List V} {w : W} {ws : List W} : RW K F φ v w → RWs K F φ vs ws → RWs K F φ (v :: vs) (w :: ws)
structure Rep (K : PySem.W.Frag) (Z : Addr → Prop) (σ : L2.St) (H : Hp) (φ : List Addr) (Δ : Sl) (M : MS) : Prop where
  mem : Mem K Z H φ M
  len : Δ.length = σ.length
  sl : ∀ (i : Nat) (w : W), Δ[i]? = some (some w) → ∃ v, σ[i]? = some (some v) ∧ RW K (Fz Z φ M H) φ v w
structure Ext (Z : Addr → Prop) (φ : List Addr) (M : MS) (H : Hp) (φ' : List Addr) (M' : MS) (H' : Hp) : Prop where
  fz : Same (Fz Z φ M H) (Fz Z φ' M' H')
  z : ∀ b, Z b → H' b = H b
  pre : ∃ t, φ' = φ ++ t
  nz : ∀ a, a ∈ φ' → a ∈ φ ∨ ¬ Z a
section
variable {K : PySem.W.Frag} {Z : Addr → Prop} {σ : L2.St} {H H' H1 H2 : Hp} {φ φ' φ1 φ2 : List Addr} {Δ : Sl} {M M' M1 M2 : MS}
theorem same_refl (H : Hp) : Same H H := fun _ _ h => h
theorem same_tr {H H1 H2 : Hp} (a : Same H H1) (b : Same H1 H2) : Same H H2 := fun x o h => b x o (a x o h)
theorem Ext.refl : Ext Z φ M H φ M H := ⟨same_refl _, fun _ _ => rfl, ⟨[], by simp⟩, fun _ h => .inl h⟩
theorem Ext.trans (a : Ext Z φ M H φ1 M1 H1) (b : Ext Z φ1 M1 H1 φ2 M2 H2) : Ext Z φ M H φ2 M2 H2 := by
  obtain ⟨t, rfl⟩ := a.pre
  obtain ⟨u, rfl⟩ := b.pre
  exact ⟨same_tr a.fz b.fz, fun x z => (b.z x z).trans (a.z x z), ⟨t ++ u, by simp⟩, fun x h => (b.nz x h).elim (a.nz x) .inr⟩
theorem rw_mono {F F' : Hp} {v : V} {w : W} (e : Same F F') (p : ∃ t, φ' = φ ++ t) (h : RW K F φ v w) : RW K F' φ' v w := by
  cases w with
  | d t x => exact dp_mono e x h
  | loc n =>
    obtain ⟨a, ha, rfl⟩ := h
    obtain ⟨t, rfl⟩ := p
    have hn : n < φ.length := (List.getElem?_eq_some_iff.mp ha).1
    exact ⟨a, by rw [List.getElem?_append_left hn]; exact ha, rfl⟩
  | s xs =>
    obtain ⟨a, vs, rfl, h1, h2⟩ := h
    exact ⟨a, vs, rfl, sq_l e h1, dpa_mono e _ h2⟩
theorem RW.ext {v : V} {w : W} (h : RW K (Fz Z φ M H) φ v w) (e : Ext Z φ M H φ' M' H') : RW K (Fz Z φ' M' H') φ' v w := rw_mono e.fz e.pre h
theorem RWs.ext : ∀ {vs : List V} {ws : List W}, RWs K (Fz Z φ M H) φ vs ws → Ext Z φ M H φ' M' H' → RWs K (Fz Z φ' M' H') φ' vs ws
  | _, _, .nil, _ => .nil
  | _, _, .cons h t, e => .cons (h.ext e) (RWs.ext t e)
theorem RWs.length : ∀ {vs : List V} {ws : List W}, RWs K H φ vs ws → vs.length = ws.length
  | _, _, .nil => rfl
  | _, _, .cons _ t => by simp [RWs.length t]
theorem Rep.step (R : Rep K Z σ H φ Δ M) (e : Ext Z φ M H φ' M' H') (m : Mem K Z H' φ' M') : Rep K Z σ H' φ' Δ M' :=
  ⟨m, R.len, fun i w h => let ⟨v, a, b⟩ := R.sl i w h; ⟨v, a, b.ext e⟩⟩

/-! ### what is fresh -/
theorem Mem.known (m : Mem K Z H φ M) {i : Nat} {a : Addr} (h : φ[i]? = some a) : ∃ o, H a = some o := by
  have hi : i < M.length := by rw [← m.len]; exact (List.getElem?_eq_some_iff.mp h).1
  have hm : M[i]? = some M[i] := List.getElem?_eq_getElem hi
  have := m.obj i a _ h hm
  revert this
  cases M[i] with
  | lst t xs => rintro ⟨vs, h, _⟩; exact ⟨_, h⟩
  | dT kvs => rintro ⟨vs, h, _⟩; exact ⟨_, h⟩
  | fzn t xs => rintro ⟨vs, h, _⟩; exact ⟨_, fz_sub _ _ h⟩
  | dead => exact id
theorem Mem.fresh (m : Mem K Z H φ M) {p : Addr} (h : H p = none) : p ∉ φ ∧ ¬ Z p ∧ ¬ Lv φ M p := by
  have h1 : p ∉ φ := fun hp => by
    obtain ⟨i, hi⟩ := List.getElem?_of_mem hp
    obtain ⟨o, ho⟩ := m.known hi
    rw [h] at ho
    cases ho
  refine ⟨h1, fun z => ?_, fun ⟨i, o, hi, _⟩ => h1 (List.mem_of_getElem? hi)⟩
  obtain ⟨o, ho⟩ := m.zk p z
  rw [h] at ho
  cases ho
theorem objr_mono {F F' : Hp} {a : Addr} {o : MO} (e : Same F F') (hh : o.live = true ∨ o = .dead → H' a = H a) (h : ObjR K F H a o) : ObjR K F' H' a o := by
  cases o with
  | lst t xs =>
    obtain ⟨vs, h1, h2⟩ := h
    exact ⟨vs, by rw [hh (.inl rfl)]; exact h1, dpa_mono e _ h2⟩
  | dT kvs =>
    obtain ⟨vs, h1, h2⟩ := h
    refine ⟨vs, by rw [hh (.inl rfl)]; exact h1, ?_⟩
    exact paired_imp (fun _ _ ⟨a, b⟩ => ⟨a, dp_mono e _ b⟩) h2
  | fzn t xs =>
    obtain ⟨vs, h1, h2⟩ := h
    exact ⟨vs, e _ _ h1, dpa_mono e _ h2⟩
  | dead =>
    obtain ⟨o, h⟩ := h
    exact ⟨o, by rw [hh (.inr rfl)]; exact h⟩
/-- a new thing that stands still -/
theorem Mem.new (m : Mem K Z H φ M) {p : Addr} (hp : H p = none) (o : HO) : Ext Z φ M H φ M (upd H p o) ∧ Mem K Z (upd H p o) φ M ∧ Fz Z φ M (upd H p o) p = some o := by
  obtain ⟨f1, f2, f3⟩ := m.fresh hp
  have hs : Same (Fz Z φ M H) (Fz Z φ M (upd H p o)) := fun b u h => by
    obtain ⟨a1, a2, a3⟩ := fz_some h
    rw [fz_mk a1 a2, upd_ne (ne_of_none a3 hp)]
    exact a3
  refine ⟨⟨hs, fun b z => upd_ne fun e => f2 (e ▸ z), ⟨[], by simp⟩, fun _ h => .inl h⟩, ⟨m.len, m.nd, fun z hz => ?_, m.zl, fun i a o' h1 h2 => ?_⟩, ?_⟩
  · obtain ⟨u, hu⟩ := m.zk z hz
    exact ⟨u, by rw [upd_ne (ne_of_none hu hp)]; exact hu⟩
  · exact objr_mono hs (fun _ => upd_ne fun e => f1 (e ▸ List.mem_of_getElem? h1)) (m.obj i a o' h1 h2)
  · rw [fz_mk f2 f3, upd_same]
end
end Ek

/-! Ek1: readings by plain functions -/
namespace Ek
open PySem PySem.Spec PyProof.Rows L2

def PostE (K : PySem.W.Frag) (Z : Addr → Prop) (φ : List Addr) (M : MS) (H : Hp) (w : W) (M' : MS) (Q : VK) : Prop :=
  ∀ v φ' H', Ext Z φ M H φ' M' H' → Mem K Z H' φ' M' → RW K (Fz Z φ' M' H') φ' v w → Q v H'
def PostA (K : PySem.W.Frag) (Z : Addr → Prop) (φ : List Addr) (M : MS) (H : Hp) (ws : List W) (M' : MS) (Q : List V → Hp → Prop) : Prop :=
  ∀ vs φ' H', Ext Z φ M H φ' M' H' → Mem K Z H' φ' M' → RWs K (Fz Z φ' M' H') φ' vs ws → Q vs H'
def PostT (K : PySem.W.Frag) (Z : Addr → Prop) (φ : List Addr) (M : MS) (H : Hp) (b : Bool) (M' : MS) (Q : Bool → Hp → Prop) : Prop :=
  ∀ φ' H', Ext Z φ M H φ' M' H' → Mem K Z H' φ' M' → Q b H'
def tOf (K : PySem.W.Frag) (m : Sm W) : TE := fun σ H Q => ∃ Z φ Δ M w M', Rep K Z σ H φ Δ M ∧ m Δ M = some (w, M') ∧ PostE K Z φ M H w M' Q
def tOfT (K : PySem.W.Frag) (m : Sm Bool) : TT := fun σ H Q => ∃ Z φ Δ M b M', Rep K Z σ H φ Δ M ∧ m Δ M = some (b, M') ∧ PostT K Z φ M H b M' Q
def tOfA (K : PySem.W.Frag) (m : Sm (List W)) : TA := fun σ H Q => ∃ Z φ Δ M ws M', Rep K Z σ H φ Δ M ∧ m Δ M = some (ws, M') ∧ PostA K Z φ M H ws M' Q

section
variable {X : Cx} {a b e : Expr} {es : List Expr} {ta tb : TE}
theorem pe_imp {t t' : TE} (h : PE X e t) (i : ∀ σ H Q, t' σ H Q → t σ H Q) : PE X e t' := ⟨fun pins s σ H Q I q => h.run pins s σ H Q I (i σ H Q q)⟩
theorem pt_imp {t t' : TT} (h : PT X e t) (i : ∀ σ H Q, t' σ H Q → t σ H Q) : PT X e t' := ⟨fun pins s σ H Q I q => h.run pins s σ H Q I (i σ H Q q)⟩
theorem pw_imp {t t' : TT} (h : PW X e t) (i : ∀ σ H Q, t' σ H Q → t σ H Q) : PW X e t' := ⟨fun whole pins s σ H Q I q => h.run whole pins s σ H Q I (i σ H Q q)⟩
theorem pa_imp {t t' : TA} (h : PA X es t) (i : ∀ σ H Q, t' σ H Q → t σ H Q) : PA X es t' := ⟨fun pos pins s σ H Q I q => h.run pos pins s σ H Q I (i σ H Q q)⟩
theorem pe_no {m : Sm W} (h : ∀ Δ M, m Δ M = none) : PE X e (tOf X.K m) := ⟨fun pins s σ H Q I ⟨_, _, Δ, M, _, _, _, q, _⟩ => by rw [h] at q; cases q⟩
theorem pt_no {m : Sm Bool} (h : ∀ Δ M, m Δ M = none) : PT X e (tOfT X.K m) := ⟨fun pins s σ H Q I ⟨_, _, Δ, M, _, _, _, q, _⟩ => by rw [h] at q; cases q⟩
end

/-! ### the data side -/
def mNo {α : Type} : Sm α := fun _ _ => none
def mVar (i : Nat) : Sm W := fun Δ M => match Δ[i]? with
  | some (some w) => some (w, M)
  | _ => none
def mD (t : Bool) (x : PD) : Sm W := fun _ M => some (.d t x, M)
def mBin (g : W → W → MS → Option (W × MS)) (a b : Sm W) : Sm W := fun Δ M => match a Δ M with
  | some (x, M1) => (match b Δ M1 with
    | some (y, M2) => g x y M2
    | none => none)
  | none => none
def mUn (g : W → MS → Option (W × MS)) (a : Sm W) : Sm W := fun Δ M => match a Δ M with
  | some (x, M1) => g x M1
  | none => none
def mArgs : List (Sm W) → Sm (List W)
  | [] => fun _ M => some ([], M)
  | a :: r => fun Δ M => match a Δ M with
    | some (x, M1) => (match mArgs r Δ M1 with
      | some (xs, M2) => some (x :: xs, M2)
      | none => none)
    | none => none
def mFn (f : List W → MS → Option (W × MS)) (a : Sm (List W)) : Sm W := fun Δ M => match a Δ M with
  | some (ws, M1) => f ws M1
  | none => none
def mIf (c : Sm Bool) (a b : Sm W) : Sm W := fun Δ M => match c Δ M with
  | some (k, M1) => if k = true then a Δ M1 else b Δ M1
  | none => none
def tB1 (a : Sm W) : Sm Bool := fun Δ M => match a Δ M with
  | some (.d _ (.bool k), M1) => some (k, M1)
  | _ => none
def tAnd' (a b : Sm Bool) : Sm Bool := fun Δ M => match a Δ M with
  | some (k, M1) => if k = true then b Δ M1 else some (false, M1)
  | none => none
def tOr' (a b : Sm Bool) : Sm Bool := fun Δ M => match a Δ M with
  | some (k, M1) => if k = true then some (true, M1) else b Δ M1
  | none => none
def tNot' (a : Sm Bool) : Sm Bool := fun Δ M => match a Δ M with
  | some (k, M1) => some (!k, M1)
  | none => none
/-- and, or as values: the left ones bools -/
def mAnd (a b : Sm W) : Sm W := fun Δ M => match a Δ M with
  | some (.d _ (.bool k), M1) => if k = true then b Δ M1 else some (.d true (.bool false), M1)
  | _ => none
def mOr (a b : Sm W) : Sm W := fun Δ M => match a Δ M with
  | some (.d _ (.bool k), M1) => if k = true then some (.d true (.bool true), M1) else b Δ M1
  | _ => none

section
variable {X : Cx} {a b c e : Expr} {es : List Expr} {ta tb : TE} {pos : Pos}
/-! ### names, constants -/
theorem pe_mvar {i : Nat} {x : Str} (hN : X.N[i]? = some x) (hv : Vis X.env.scope x) (hd : (x == ("__debug__" : Str)) = false) (hcd : (x == ("__classdict__" : Str)) = false) : PE X (.Name x pos) (tOf X.K (mVar i)) := by
  refine pe_imp (pe_var hN hv hd hcd) fun σ H Q ⟨Z, φ, Δ, M, w, M', R, h, q⟩ => ?_
  unfold mVar at h
  split at h
  · rename_i w' hw
    cases h
    obtain ⟨v, h1, h2⟩ := R.sl i _ hw
    exact ⟨v, h1, q v φ H Ext.refl R.mem h2⟩
  · cases h
theorem pe_md {t : Bool} {x : PD} {v : V} (h : PE X e (tC v)) (hd : ∀ H, Dq (kk t X.K) H v x) : PE X e (tOf X.K (mD t x)) := by
  refine pe_imp h fun σ H Q ⟨Z, φ, Δ, M, w, M', R, h, q⟩ => ?_
  cases h
  exact q v φ H Ext.refl R.mem (hd _)

/-! ### operators -/
def OpD (K : PySem.W.Frag) (r : R2) (g : W → W → MS → Option (W × MS)) : Prop :=
  ∀ (Z : Addr → Prop) (φ : List Addr) (M : MS) (H : Hp) (x y : V) (wx wy w : W) (M' : MS) (Q : VK), Mem K Z H φ M → RW K (Fz Z φ M H) φ x wx → RW K (Fz Z φ M H) φ y wy → g wx wy M = some (w, M') → PostE K Z φ M H w M' Q → r x y H Q
def UnD (K : PySem.W.Frag) (r : V → Hp → VK → Prop) (g : W → MS → Option (W × MS)) : Prop :=
  ∀ (Z : Addr → Prop) (φ : List Addr) (M : MS) (H : Hp) (x : V) (wx w : W) (M' : MS) (Q : VK), Mem K Z H φ M → RW K (Fz Z φ M H) φ x wx → g wx M = some (w, M') → PostE K Z φ M H w M' Q → r x H Q
def FnD (K : PySem.W.Frag) (r : List V → Hp → VK → Prop) (g : List W → MS → Option (W × MS)) : Prop :=
  ∀ (Z : Addr → Prop) (φ : List Addr) (M : MS) (H : Hp) (xs : List V) (ws : List W) (w : W) (M' : MS) (Q : VK), Mem K Z H φ M → RWs K (Fz Z φ M H) φ xs ws → g ws M = some (w, M') → PostE K Z φ M H w M' Q → r xs H Q
theorem PostE.step {K : PySem.W.Frag} {Z : Addr → Prop} {φ φ1 : List Addr} {M M1 M' : MS} {H H1 : Hp} {w : W} {Q : VK} (q : PostE K Z φ M H w M' Q) (e : Ext Z φ M H φ1 M1 H1) : PostE K Z φ1 M1 H1 w M' Q :=
  fun v φ' H' e' m' r' => q v φ' H' (e.trans e') m' r'
theorem PostT.step {K : PySem.W.Frag} {Z : Addr → Prop} {φ φ1 : List Addr} {M M1 M' : MS} {H H1 : Hp} {w : Bool} {Q : Bool → Hp → Prop} (q : PostT K Z φ M H w M' Q) (e : Ext Z φ M H φ1 M1 H1) : PostT K Z φ1 M1 H1 w M' Q :=
  fun φ' H' e' m' => q φ' H' (e.trans e') m'
theorem tOp_of {r : R2} {g : W → W → MS → Option (W × MS)} {ma mb : Sm W} {K : PySem.W.Frag} (hr : OpD K r g) : ∀ σ H Q, tOf K (mBin g ma mb) σ H Q → tOp r (tOf K ma) (tOf K mb) σ H Q := by
  intro σ H Q ⟨Z, φ, Δ, M, w, M', R, h, q⟩
  unfold mBin at h
  split at h
  · rename_i x M1 hx
    split at h
    · rename_i y M2 hy
      refine ⟨Z, φ, Δ, M, x, M1, R, hx, fun v φ1 H1 e1 m1 r1 => ?_⟩
      refine ⟨Z, φ1, Δ, M1, y, M2, R.step e1 m1, hy, fun u φ2 H2 e2 m2 r2 => ?_⟩
      exact hr Z φ2 M2 H2 v u x y w M' Q m2 (r1.ext e2) r2 h (q.step (e1.trans e2))
    · cases h
  · cases h
theorem pe_mbin {op : Operator} {r : R2} {g : W → W → MS → Option (W × MS)} {ma mb : Sm W} (ho : OpR X (binaryOp op) r) (hd : OpD X.K r g) (ha : PE X a (tOf X.K ma)) (hb : PE X b (tOf X.K mb)) :
    PE X (.BinOp a op b pos) (tOf X.K (mBin g ma mb)) := pe_imp (pe_op ho ha hb) (tOp_of hd)
theorem pe_mcmp {op : CmpOp} {r : R2} {g : W → W → MS → Option (W × MS)} {ma mb : Sm W} (ho : OpR X (compareOp op) r) (hd : OpD X.K r g) (ha : PE X a (tOf X.K ma)) (hb : PE X b (tOf X.K mb)) (hm : behindInMarks op b = false) :
    PE X (.Compare a [op] [b] pos) (tOf X.K (mBin g ma mb)) := pe_imp (pe_cmpR ho ha hb hm) (tOp_of hd)
theorem pe_mix {r : R2} {g : W → W → MS → Option (W × MS)} {ma mb : Sm W} (ho : IxR X r) (hd : OpD X.K r g) (ha : PE X a (tOf X.K ma)) (hb : PE X b (tOf X.K mb)) (hs : PlainIx b) :
    PE X (.Subscript a b pos) (tOf X.K (mBin g ma mb)) := pe_imp (pe_ix ho ha hb hs) (tOp_of hd)
theorem pe_mun {op : UnaryOp} {r : V → Hp → VK → Prop} {g : W → MS → Option (W × MS)} {ma : Sm W} (ho : UnR X (unaryOp op) r) (hd : UnD X.K r g) (ha : PE X a (tOf X.K ma)) : PE X (.UnaryOp op a pos) (tOf X.K (mUn g ma)) := by
  refine pe_imp (pe_un ho ha) fun σ H Q ⟨Z, φ, Δ, M, w, M', R, h, q⟩ => ?_
  unfold mUn at h
  split at h
  · rename_i x M1 hx
    exact ⟨Z, φ, Δ, M, x, M1, R, hx, fun v φ1 H1 e1 m1 r1 => hd Z φ1 M1 H1 v x w M' Q m1 r1 h (q.step e1)⟩
  · cases h

/-! ### tests -/
theorem pt_mval {m : Sm W} (h : PE X e (tOf X.K m)) (he : ∀ whole, isTrue e X.env whole = (do let v ← whole; standAt e.pos; holding [v] (truthy v))) : PT X e (tOfT X.K (tB1 m)) := by
  refine pt_imp (pt_val h he) fun σ H Q ⟨Z, φ, Δ, M, b, M', R, h, q⟩ => ?_
  unfold tB1 at h
  split at h
  · rename_i t k M1 hx
    cases h
    refine ⟨Z, φ, Δ, M, _, M', R, hx, fun v φ1 H1 e1 m1 r1 => ?_⟩
    cases r1
    exact ⟨b, rfl, q φ1 H1 e1 m1⟩
  · cases h
theorem tAnd_of {ma mb : Sm Bool} {K : PySem.W.Frag} : ∀ σ H Q, tOfT K (tAnd' ma mb) σ H Q → tAnd (tOfT K ma) (tOfT K mb) σ H Q := by
  intro σ H Q ⟨Z, φ, Δ, M, b, M', R, h, q⟩
  unfold tAnd' at h
  split at h
  · rename_i k M1 hx
    refine ⟨Z, φ, Δ, M, k, M1, R, hx, fun φ1 H1 e1 m1 => ?_⟩
    cases k with
    | true =>
      simp only [if_true] at h ⊢
      exact ⟨Z, φ1, Δ, M1, b, M', R.step e1 m1, h, q.step e1⟩
    | false =>
      simp only [Bool.false_eq_true, if_false] at h ⊢
      cases h
      exact q φ1 H1 e1 m1
  · cases h
theorem tOr_of {ma mb : Sm Bool} {K : PySem.W.Frag} : ∀ σ H Q, tOfT K (tOr' ma mb) σ H Q → tOr (tOfT K ma) (tOfT K mb) σ H Q := by
  intro σ H Q ⟨Z, φ, Δ, M, b, M', R, h, q⟩
  unfold tOr' at h
  split at h
  · rename_i k M1 hx
    refine ⟨Z, φ, Δ, M, k, M1, R, hx, fun φ1 H1 e1 m1 => ?_⟩
    cases k with
    | true =>
      simp only [if_true] at h ⊢
      cases h
      exact q φ1 H1 e1 m1
    | false =>
      simp only [Bool.false_eq_true, if_false] at h ⊢
      exact ⟨Z, φ1, Δ, M1, b, M', R.step e1 m1, h, q.step e1⟩
  · cases h
theorem pt_mnot {m : Sm Bool} (h : PT X a (tOfT X.K m)) : PT X (.UnaryOp .Not a pos) (tOfT X.K (tNot' m)) := by
  refine pt_imp (pt_not h) fun σ H Q ⟨Z, φ, Δ, M, b, M', R, h, q⟩ => ?_
  unfold tNot' at h
  split at h
  · rename_i k M1 hx
    cases h
    exact ⟨Z, φ, Δ, M, k, M', R, hx, fun φ1 H1 e1 m1 => q φ1 H1 e1 m1⟩
  · cases h
theorem pe_mand {op} {rest : List Expr} {ma mb : Sm W} (ha : PE X a (tOf X.K ma)) (hb : PE X (.BoolOp .And (b :: rest) pos) (tOf X.K mb)) (ho : op = .And) : PE X (.BoolOp op (a :: b :: rest) pos) (tOf X.K (mAnd ma mb)) := by
  subst ho
  refine pe_imp (pe_and ha hb) fun σ H Q ⟨Z, φ, Δ, M, w, M', R, h, q⟩ => ?_
  unfold mAnd at h
  split at h
  · rename_i t k M1 hx
    refine ⟨Z, φ, Δ, M, _, M1, R, hx, fun v φ1 H1 e1 m1 r1 => ?_⟩
    cases r1
    refine ⟨k, rfl, ?_⟩
    cases k with
    | true =>
      simp only [if_true] at h ⊢
      exact ⟨Z, φ1, Δ, M1, w, M', R.step e1 m1, h, q.step e1⟩
    | false =>
      simp only [Bool.false_eq_true, if_false] at h ⊢
      cases h
      exact q _ φ1 H1 e1 m1 (.bl _)
  · cases h
theorem pe_mor {op} {rest : List Expr} {ma mb : Sm W} (ha : PE X a (tOf X.K ma)) (hb : PE X (.BoolOp .Or (b :: rest) pos) (tOf X.K mb)) (ho : op = .Or) : PE X (.BoolOp op (a :: b :: rest) pos) (tOf X.K (mOr ma mb)) := by
  subst ho
  refine pe_imp (pe_or ha hb) fun σ H Q ⟨Z, φ, Δ, M, w, M', R, h, q⟩ => ?_
  unfold mOr at h
  split at h
  · rename_i t k M1 hx
    refine ⟨Z, φ, Δ, M, _, M1, R, hx, fun v φ1 H1 e1 m1 r1 => ?_⟩
    cases r1
    refine ⟨k, rfl, ?_⟩
    cases k with
    | true =>
      simp only [if_true] at h ⊢
      cases h
      exact q _ φ1 H1 e1 m1 (.bl _)
    | false =>
      simp only [Bool.false_eq_true, if_false] at h ⊢
      exact ⟨Z, φ1, Δ, M1, w, M', R.step e1 m1, h, q.step e1⟩
  · cases h
/-- not as a value -/
def gNot : W → MS → Option (W × MS)
  | .d _ (.bool k), M => some (.d true (.bool (!k)), M)
  | _, _ => none
theorem pe_mnot {m : Sm W} (h : PE X a (tOf X.K m)) : PE X (.UnaryOp .Not a pos) (tOf X.K (mUn gNot m)) := by
  refine pe_imp (pe_not h) fun σ H Q ⟨Z, φ, Δ, M, w, M', R, h, q⟩ => ?_
  unfold mUn at h
  split at h
  · rename_i x M1 hx
    refine ⟨Z, φ, Δ, M, x, M1, R, hx, fun v φ1 H1 e1 m1 r1 => ?_⟩
    unfold gNot at h
    split at h
    · cases h
      cases r1
      exact ⟨_, rfl, q _ φ1 H1 e1 m1 (.bl _)⟩
    · cases h
  · cases h
theorem pe_mif {mc : Sm Bool} {ma mb : Sm W} (hc : PT X c (tOfT X.K mc)) (ha : PE X a (tOf X.K ma)) (hb : PE X b (tOf X.K mb)) : PE X (.IfExp c a b pos) (tOf X.K (mIf mc ma mb)) := by
  refine pe_imp (pe_ifExp hc ha hb) fun σ H Q ⟨Z, φ, Δ, M, w, M', R, h, q⟩ => ?_
  unfold mIf at h
  split at h
  · rename_i k M1 hx
    refine ⟨Z, φ, Δ, M, k, M1, R, hx, fun φ1 H1 e1 m1 => ?_⟩
    cases k with
    | true =>
      simp only [if_true] at h ⊢
      exact ⟨Z, φ1, Δ, M1, w, M', R.step e1 m1, h, q.step e1⟩
    | false =>
      simp only [Bool.false_eq_true, if_false] at h ⊢
      exact ⟨Z, φ1, Δ, M1, w, M', R.step e1 m1, h, q.step e1⟩
  · cases h

/-! ### argument lists -/
theorem pa_mnil : PA X [] (tOfA X.K (mArgs [])) := by
  refine pa_imp pa_nil fun σ H Q ⟨Z, φ, Δ, M, w, M', R, h, q⟩ => ?_
  cases h
  exact q [] φ H Ext.refl R.mem .nil
theorem pa_mcons {m : Sm W} {ms : List (Sm W)} (ha : PE X e (tOf X.K m)) (hr : PA X es (tOfA X.K (mArgs ms))) (hs : starEach (e :: es) X.env = (false, eval e X.env) :: starEach es X.env) : PA X (e :: es) (tOfA X.K (mArgs (m :: ms))) := by
  refine pa_imp (pa_cons ha hr hs) fun σ H Q ⟨Z, φ, Δ, M, w, M', R, h, q⟩ => ?_
  unfold mArgs at h
  split at h
  · rename_i x M1 hx
    split at h
    · rename_i xs M2 hxs
      cases h
      refine ⟨Z, φ, Δ, M, x, M1, R, hx, fun v φ1 H1 e1 m1 r1 => ?_⟩
      exact ⟨Z, φ1, Δ, M1, xs, M', R.step e1 m1, hxs, fun vs φ2 H2 e2 m2 r2 => q _ φ2 H2 (e1.trans e2) m2 (.cons (r1.ext e2) r2)⟩
    · cases h
  · cases h
end
end Ek

/-! Ek2: the store's changes; displays; calls; subscripts -/
namespace Ek
open PySem PySem.Spec PyProof.Rows L2
section
variable {K : PySem.W.Frag} {Z : Addr → Prop} {σ : L2.St} {H H' H1 H2 : Hp} {φ φ' φ1 φ2 : List Addr} {Δ : Sl} {M M' M1 M2 : MS} {n : Nat} {a : Addr} {o o' : MO}
theorem nd_ix (hn : φ.Nodup) {i j : Nat} (h1 : φ[i]? = some a) (h2 : φ[j]? = some a) : i = j := by
  have l1 := (List.getElem?_eq_some_iff.mp h1)
  have l2 := (List.getElem?_eq_some_iff.mp h2)
  obtain ⟨p1, e1⟩ := l1
  obtain ⟨p2, e2⟩ := l2
  exact (List.getElem_inj hn).mp (e1.trans e2.symm)
theorem Mem.at (m : Mem K Z H φ M) (h : M[n]? = some o) : ∃ a, φ[n]? = some a := by
  have : n < φ.length := by rw [m.len]; exact (List.getElem?_eq_some_iff.mp h).1
  exact ⟨_, List.getElem?_eq_getElem this⟩
theorem lv_set (m : Mem K Z H φ M) (hn : φ[n]? = some a) {b : Addr} (hb : b ≠ a) : Lv φ (M.set n o') b ↔ Lv φ M b := by
  constructor
  · rintro ⟨i, u, h1, h2, h3⟩
    have hi : n ≠ i := fun e => hb (by subst e; rw [hn] at h1; exact (Option.some.inj h1).symm)
    rw [List.getElem?_set_ne hi] at h2
    exact ⟨i, u, h1, h2, h3⟩
  · rintro ⟨i, u, h1, h2, h3⟩
    have hi : n ≠ i := fun e => hb (by subst e; rw [hn] at h1; exact (Option.some.inj h1).symm)
    exact ⟨i, u, h1, by rw [List.getElem?_set_ne hi]; exact h2, h3⟩
/-- a live thing is given another content -/
theorem Mem.put (m : Mem K Z H φ M) (hn : φ[n]? = some a) (hm : M[n]? = some o) (hl : o.live = true) (hl' : o'.live = true) {u : HO} (ho : ObjR K (Fz Z φ M H) (upd H a u) a o') :
    Ext Z φ M H φ (M.set n o') (upd H a u) ∧ Mem K Z (upd H a u) φ (M.set n o') ∧ Fz Z φ (M.set n o') (upd H a u) = Fz Z φ M H := by
  have hlt : n < M.length := (List.getElem?_eq_some_iff.mp hm).1
  have la : Lv φ M a := ⟨n, o, hn, hm, hl⟩
  have la' : Lv φ (M.set n o') a := ⟨n, o', hn, by rw [List.getElem?_set_self hlt], hl'⟩
  have hf : Fz Z φ (M.set n o') (upd H a u) = Fz Z φ M H := by
    funext b
    by_cases hb : b = a
    · subst hb
      unfold Fz
      rw [if_pos (.inr la'), if_pos (.inr la)]
    · unfold Fz
      rw [show Lv φ (M.set n o') b = Lv φ M b from propext (lv_set m hn hb), upd_ne hb]
  have nz : ¬ Z a := fun z => m.zl a z la
  refine ⟨⟨by rw [hf]; exact same_refl _, fun b z => upd_ne fun e => nz (e ▸ z), ⟨[], by simp⟩, fun _ h => .inl h⟩, ⟨by simp [m.len], m.nd, fun z hz => ?_, fun z hz => ?_, fun i b x h1 h2 => ?_⟩, hf⟩
  · obtain ⟨y, hy⟩ := m.zk z hz
    have hne : z ≠ a := fun e => nz (e ▸ hz)
    exact ⟨y, (upd_ne hne).trans hy⟩
  · rw [lv_set m hn fun e => nz (e ▸ hz)]
    exact m.zl z hz
  · rw [hf]
    by_cases hi : n = i
    · subst hi
      rw [hn] at h1
      cases h1
      rw [List.getElem?_set_self hlt] at h2
      cases h2
      exact ho
    · rw [List.getElem?_set_ne hi] at h2
      have hb : b ≠ a := fun e => hi (nd_ix m.nd hn (e ▸ h1))
      exact objr_mono (same_refl _) (fun _ => upd_ne hb) (m.obj i b x h1 h2)
/-- a live list stands still from here on -/
theorem Mem.freeze (m : Mem K Z H φ M) {t : Bool} {xs : List PD} (hm : M[n]? = some (.lst t xs)) (hn : φ[n]? = some a) :
    Ext Z φ M H φ (M.set n (.fzn t xs)) H ∧ Mem K Z H φ (M.set n (.fzn t xs)) ∧ Dq (kk t K) (Fz Z φ (M.set n (.fzn t xs)) H) (.ref a) (.list xs) := by
  have hlt : n < M.length := (List.getElem?_eq_some_iff.mp hm).1
  have la : Lv φ M a := ⟨n, _, hn, hm, rfl⟩
  have nz : ¬ Z a := fun z => m.zl a z la
  have la' : ¬ Lv φ (M.set n (.fzn t xs)) a := by
    rintro ⟨i, u, h1, h2, h3⟩
    have hi : n = i := nd_ix m.nd hn h1
    subst hi
    rw [List.getElem?_set_self hlt] at h2
    cases h2
    cases h3
  have hs : Same (Fz Z φ M H) (Fz Z φ (M.set n (.fzn t xs)) H) := fun b u h => by
    obtain ⟨z1, z2, z3⟩ := fz_some h
    have hb : b ≠ a := fun e => z2 (e ▸ la)
    rw [fz_mk z1 (fun z => z2 ((lv_set m hn hb).mp z))]
    exact z3
  obtain ⟨vs, hv, hd⟩ := m.obj n a _ hn hm
  have hF : Fz Z φ (M.set n (.fzn t xs)) H a = some (.lst vs) := by rw [fz_mk nz la']; exact hv
  have hd' := dpa_mono hs _ hd
  refine ⟨⟨hs, fun _ _ => rfl, ⟨[], by simp⟩, fun _ h => .inl h⟩, ⟨by simp [m.len], m.nd, m.zk, fun z hz => ?_, fun i b x h1 h2 => ?_⟩, .lst hF hd'⟩
  · by_cases hb : z = a
    · subst hb; exact la'
    · rw [lv_set m hn hb]; exact m.zl z hz
  · by_cases hi : n = i
    · subst hi
      rw [hn] at h1
      cases h1
      rw [List.getElem?_set_self hlt] at h2
      cases h2
      exact ⟨vs, hF, hd'⟩
    · rw [List.getElem?_set_ne hi] at h2
      exact objr_mono hs (fun _ => rfl) (m.obj i b x h1 h2)
/-- a new live thing -/
theorem Mem.born (m : Mem K Z H φ M) {p : Addr} (hp : H p = none) {u : HO} (hl : o.live = true) (ho : ObjR K (Fz Z φ M H) (upd H p u) p o) :
    Ext Z φ M H (φ ++ [p]) (M ++ [o]) (upd H p u) ∧ Mem K Z (upd H p u) (φ ++ [p]) (M ++ [o]) ∧ Fz Z (φ ++ [p]) (M ++ [o]) (upd H p u) = Fz Z φ M H := by
  obtain ⟨f1, f2, f3⟩ := m.fresh hp
  have lp : Lv (φ ++ [p]) (M ++ [o]) p := ⟨φ.length, o, by simp, by rw [m.len]; simp, hl⟩
  have lo : ∀ b, b ≠ p → (Lv (φ ++ [p]) (M ++ [o]) b ↔ Lv φ M b) := fun b hb => by
    constructor
    · rintro ⟨i, x, h1, h2, h3⟩
      by_cases hi : i < φ.length
      · rw [List.getElem?_append_left hi] at h1
        rw [List.getElem?_append_left (by rw [← m.len]; exact hi)] at h2
        exact ⟨i, x, h1, h2, h3⟩
      · exfalso
        rw [List.getElem?_append_right (Nat.le_of_not_lt hi)] at h1
        cases hk : i - φ.length with
        | zero => rw [hk] at h1; simp at h1; exact hb h1.symm
        | succ k => rw [hk] at h1; simp at h1
    · rintro ⟨i, x, h1, h2, h3⟩
      have hi : i < φ.length := (List.getElem?_eq_some_iff.mp h1).1
      exact ⟨i, x, by rw [List.getElem?_append_left hi]; exact h1, by rw [List.getElem?_append_left (by rw [← m.len]; exact hi)]; exact h2, h3⟩
  have hf : Fz Z (φ ++ [p]) (M ++ [o]) (upd H p u) = Fz Z φ M H := by
    funext b
    by_cases hb : b = p
    · subst hb
      unfold Fz
      rw [if_pos (.inr lp), if_neg (by rintro (z | z); exact f2 z; exact f3 z)]
      exact hp.symm
    · unfold Fz
      rw [show Lv (φ ++ [p]) (M ++ [o]) b = Lv φ M b from propext (lo b hb), upd_ne hb]
  refine ⟨⟨by rw [hf]; exact same_refl _, fun b z => upd_ne fun e => f2 (e ▸ z), ⟨[p], rfl⟩, fun x h => (List.mem_append.mp h).elim .inl fun h => .inr (by rw [List.mem_singleton.mp h]; exact f2)⟩, ⟨by simp [m.len], ?_, fun z hz => ?_, fun z hz => ?_, fun i b x h1 h2 => ?_⟩, hf⟩
  · rw [List.nodup_append]
    refine ⟨m.nd, by simp, fun x hx y hy e => ?_⟩
    rw [List.mem_singleton] at hy
    subst hy
    subst e
    exact f1 hx
  · obtain ⟨y, hy⟩ := m.zk z hz
    have hne : z ≠ p := fun e => f2 (e ▸ hz)
    exact ⟨y, (upd_ne hne).trans hy⟩
  · rw [lo z fun e => f2 (e ▸ hz)]
    exact m.zl z hz
  · rw [hf]
    by_cases hi : i < φ.length
    · rw [List.getElem?_append_left hi] at h1
      rw [List.getElem?_append_left (by rw [← m.len]; exact hi)] at h2
      have hb : b ≠ p := fun e => f1 (e ▸ List.mem_of_getElem? h1)
      exact objr_mono (same_refl _) (fun _ => upd_ne hb) (m.obj i b x h1 h2)
    · rw [List.getElem?_append_right (Nat.le_of_not_lt hi)] at h1
      rw [List.getElem?_append_right (by rw [← m.len]; exact Nat.le_of_not_lt hi), ← m.len] at h2
      cases hk : i - φ.length with
      | zero =>
        rw [hk] at h1 h2
        simp at h1 h2
        subst h1
        subst h2
        exact ho
      | succ k => rw [hk] at h1; simp at h1
/-- the last thing of the store, a list, is let go: it stands still, without a place -/
theorem Mem.unlast {p : Addr} {t : Bool} {xs : List PD} (m : Mem K Z H (φ ++ [p]) (M ++ [.lst t xs])) :
    Same (Fz Z (φ ++ [p]) (M ++ [.lst t xs]) H) (Fz Z φ M H) ∧ Mem K Z H φ M ∧ Dq (kk t K) (Fz Z φ M H) (.ref p) (.list xs) := by
  have hlen : φ.length = M.length := by have := m.len; simp at this; exact this
  have hmM : (M ++ [MO.lst t xs])[φ.length]? = some (.lst t xs) := by rw [hlen]; simp
  have hmφ : (φ ++ [p])[φ.length]? = some p := by simp
  have np : p ∉ φ := by
    have := m.nd
    rw [List.nodup_append] at this
    exact fun h => this.2.2 p h p (by simp) rfl
  have lup : ∀ b, Lv φ M b → Lv (φ ++ [p]) (M ++ [.lst t xs]) b := fun b ⟨i, x, h1, h2, h3⟩ => by
    have hi : i < φ.length := (List.getElem?_eq_some_iff.mp h1).1
    exact ⟨i, x, by rw [List.getElem?_append_left hi]; exact h1, by rw [List.getElem?_append_left (by rw [← hlen]; exact hi)]; exact h2, h3⟩
  have hs : Same (Fz Z (φ ++ [p]) (M ++ [.lst t xs]) H) (Fz Z φ M H) := fun b u h => by
    obtain ⟨z1, z2, z3⟩ := fz_some h
    rw [fz_mk z1 fun z => z2 (lup b z)]
    exact z3
  have nlp : ¬ Lv φ M p := fun ⟨i, x, h1, _⟩ => np (List.mem_of_getElem? h1)
  have lp : Lv (φ ++ [p]) (M ++ [.lst t xs]) p := ⟨φ.length, _, hmφ, hmM, rfl⟩
  have nz : ¬ Z p := fun z => m.zl p z lp
  obtain ⟨vs, hv, hd⟩ := m.obj _ _ _ hmφ hmM
  refine ⟨hs, ⟨hlen, ?_, m.zk, fun z hz l => m.zl z hz (lup z l), fun i b x h1 h2 => ?_⟩, .lst (by rw [fz_mk nz nlp]; exact hv) (dpa_mono hs _ hd)⟩
  · have := m.nd
    rw [List.nodup_append] at this
    exact this.1
  · have hi : i < φ.length := (List.getElem?_eq_some_iff.mp h1).1
    exact objr_mono hs (fun _ => rfl) (m.obj i b x (by rw [List.getElem?_append_left hi]; exact h1) (by rw [List.getElem?_append_left (by rw [← hlen]; exact hi)]; exact h2))

/-! ### values that are let go -/
def fz1 : W → MS → Option (Bool × PD × MS)
  | .d t x, M => some (t, x, M)
  | .loc n, M => match M[n]? with
    | some (.lst t xs) => some (t, .list xs, M.set n (.fzn t xs))
    | some (.fzn t xs) => some (t, .list xs, M)
    | _ => none
  | .s _, _ => none
def fzAll : List W → MS → Option (Bool × List PD × MS)
  | [], M => some (true, [], M)
  | w :: ws, M => match fz1 w M with
    | some (t, x, M1) => (match fzAll ws M1 with
      | some (s, xs, M2) => some (t && s, x :: xs, M2)
      | none => none)
    | none => none
theorem fz1_ok {v : V} {w : W} {t : Bool} {x : PD} (m : Mem K Z H φ M) (r : RW K (Fz Z φ M H) φ v w) (h : fz1 w M = some (t, x, M')) : Ext Z φ M H φ M' H ∧ Mem K Z H φ M' ∧ Dq (kk t K) (Fz Z φ M' H) v x := by
  cases w with
  | d s y =>
    cases h
    exact ⟨Ext.refl, m, r⟩
  | loc n =>
    obtain ⟨a, ha, rfl⟩ := r
    simp only [fz1] at h
    split at h
    · rename_i s xs hx
      cases h
      exact m.freeze hx ha
    · rename_i s xs hx
      cases h
      obtain ⟨vs, hv, hd⟩ := m.obj n a _ ha hx
      exact ⟨Ext.refl, m, .lst hv hd⟩
    · cases h
  | s ys => cases h
theorem fzAll_ok : ∀ {vs : List V} {ws : List W} {t : Bool} {xs : List PD} {M M' : MS}, Mem K Z H φ M → RWs K (Fz Z φ M H) φ vs ws → fzAll ws M = some (t, xs, M') → Ext Z φ M H φ M' H ∧ Mem K Z H φ M' ∧ DqAll (kk t K) (Fz Z φ M' H) vs xs
  | _, _, _, _, _, _, m, .nil, h => by cases h; exact ⟨Ext.refl, m, .nil⟩
  | _, w :: ws, _, _, M, _, m, .cons r q, h => by
    unfold fzAll at h
    split at h
    · rename_i t x M1 hx
      split at h
      · rename_i s xs M2 hxs
        cases h
        obtain ⟨e1, m1, d1⟩ := fz1_ok m r hx
        obtain ⟨e2, m2, d2⟩ := fzAll_ok m1 (q.ext e1) hxs
        exact ⟨e1.trans e2, m2, .cons (kkL s (dp_mono e2.fz _ d1)) (kkRs t d2)⟩
      · cases h
    · cases h
end

/-! ### displays -/
def mTup (a : Sm (List W)) : Sm W := fun Δ M => match a Δ M with
  | some (ws, M1) => (match fzAll ws M1 with
    | some (t, xs, M2) => if xs.length ≤ 1000 then some (.d t (.tuple xs), M2) else none
    | none => none)
  | none => none
/-- what a new list holds -/
def mLst (a : Sm (List W)) : Sm (Bool × List PD) := fun Δ M => match a Δ M with
  | some (ws, M1) => (match fzAll ws M1 with
    | some (t, xs, M2) => if xs.length ≤ 1000 then some ((t, xs), M2) else none
    | none => none)
  | none => none
/-- a new list, at a place | standing still -/
def mNew (m : Sm (Bool × List PD)) : Sm W := fun Δ M => match m Δ M with
  | some ((t, xs), M1) => some (.loc M1.length, M1 ++ [.lst t xs])
  | none => none
def mOld (m : Sm (Bool × List PD)) : Sm W := fun Δ M => match m Δ M with
  | some ((t, xs), M1) => some (.d t (.list xs), M1)
  | none => none
section
variable {X : Cx} {a b c e : Expr} {es : List Expr} {pos : Pos}
theorem small_of {n : Nat} (h : n ≤ 1000) : n ≤ sizeLine := Nat.le_trans h (by decide)
theorem pe_mtup {x1} {ms : Sm (List W)} (h : PA X es (tOfA X.K ms)) : PE X (.Tuple es x1 pos) (tOf X.K (mTup ms)) := by
  refine pe_imp (pe_tup h) fun σ H Q ⟨Z, φ, Δ, M, w, M', R, h, q⟩ => ?_
  unfold mTup at h
  split at h
  · rename_i ws M1 hx
    split at h
    · rename_i t xs M2 hxs
      split at h
      · rename_i hl
        cases h
        refine ⟨Z, φ, Δ, M, ws, M1, R, hx, fun vs φ1 H1 e1 m1 r1 => ?_⟩
        obtain ⟨e2, m2, d2⟩ := fzAll_ok m1 r1 hxs
        refine ⟨by rw [dpa_length d2]; exact small_of hl, fun p hp => ?_⟩
        obtain ⟨e3, m3, f3⟩ := m2.new hp (.tup vs)
        exact q _ φ1 _ ((e1.trans e2).trans e3) m3 (.tup (.inl f3) (dpa_mono e3.fz _ d2))
      · cases h
    · cases h
  · cases h
def PostN (K : PySem.W.Frag) (Z : Addr → Prop) (φ : List Addr) (M : MS) (H : Hp) (t : Bool) (xs : List PD) (M' : MS) (Q : VK) : Prop :=
  ∀ p φ' H', (∃ t, φ' = φ ++ t) → Ext Z φ M H (φ' ++ [p]) (M' ++ [.lst t xs]) H' → Mem K Z H' (φ' ++ [p]) (M' ++ [.lst t xs]) → Q (.ref p) H'
def tOfN (K : PySem.W.Frag) (m : Sm (Bool × List PD)) : TE := fun σ H Q => ∃ Z φ Δ M t xs M', Rep K Z σ H φ Δ M ∧ m Δ M = some ((t, xs), M') ∧ PostN K Z φ M H t xs M' Q
theorem pe_mnew {m : Sm (Bool × List PD)} (h : PE X e (tOfN X.K m)) : PE X e (tOf X.K (mNew m)) := by
  refine pe_imp h fun σ H Q ⟨Z, φ, Δ, M, w, M', R, h, q⟩ => ?_
  unfold mNew at h
  split at h
  · rename_i t xs M1 hx
    cases h
    refine ⟨Z, φ, Δ, M, t, xs, M1, R, hx, fun p φ1 H1 _ e1 m1 => q _ (φ1 ++ [p]) H1 e1 m1 ⟨p, ?_, rfl⟩⟩
    have hl : φ1.length = M1.length := by have := m1.len; simp at this; exact this
    rw [← hl]
    simp
  · cases h
theorem pe_mold {m : Sm (Bool × List PD)} (h : PE X e (tOfN X.K m)) : PE X e (tOf X.K (mOld m)) := by
  refine pe_imp h fun σ H Q ⟨Z, φ, Δ, M, w, M', R, h, q⟩ => ?_
  unfold mOld at h
  split at h
  · rename_i t xs M1 hx
    cases h
    refine ⟨Z, φ, Δ, M, t, xs, M', R, hx, fun p φ1 H1 t1 e1 m1 => ?_⟩
    obtain ⟨s, m2, d2⟩ := m1.unlast
    exact q _ φ1 H1 ⟨same_tr e1.fz s, e1.z, t1, fun x h => e1.nz x (List.mem_append_left _ h)⟩ m2 d2
  · cases h
theorem pe_mlst {ms : Sm (List W)} (h : PA X es (tOfA X.K ms)) : PE X (.List es pos) (tOfN X.K (mLst ms)) := by
  refine pe_imp (pe_lst h) fun σ H Q ⟨Z, φ, Δ, M, s, ys, M', R, hy, q⟩ => ?_
  unfold mLst at hy
  split at hy
  · rename_i ws M1 hx
    split at hy
    · rename_i t xs M2 hxs
      split at hy
      · rename_i hl
        cases hy
        refine ⟨Z, φ, Δ, M, ws, M1, R, hx, fun vs φ1 H1 e1 m1 r1 => ?_⟩
        obtain ⟨e2, m2, d2⟩ := fzAll_ok m1 r1 hxs
        refine ⟨by rw [dpa_length d2]; exact small_of hl, fun p hp => ?_⟩
        obtain ⟨e3, m3, f3⟩ := m2.born (o := .lst s ys) hp (u := .lst vs) rfl ⟨vs, upd_same, d2⟩
        exact q _ φ1 _ e1.pre ((e1.trans e2).trans e3) m3
      · cases hy
    · cases hy
  · cases hy
end
end Ek

/-! Ek3: operations -/
namespace Ek
open PySem PySem.Spec PyProof.Rows L2
section
variable {K : PySem.W.Frag} {Z : Addr → Prop} {H : Hp} {φ : List Addr} {M M' : MS} {v : V} {w : W}
/-! ### reading lists -/
/-- a list that is no script -/
def rdM : W → MS → Option (Bool × List PD)
  | .d t (.list xs), _ => some (t, xs)
  | .loc n, M => match M[n]? with
    | some (.lst t xs) => some (t, xs)
    | some (.fzn t xs) => some (t, xs)
    | _ => none
  | _, _ => none
theorem rdM_ok {t : Bool} {xs : List PD} (m : Mem K Z H φ M) (r : RW K (Fz Z φ M H) φ v w) (h : rdM w M = some (t, xs)) : ∃ a vs, v = .ref a ∧ Rd H a (.lst vs) ∧ DqAll (kk t K) (Fz Z φ M H) vs xs := by
  cases w with
  | d s y =>
    cases y with
    | list ys =>
      cases h
      cases r with
      | lst h1 h2 => exact ⟨_, _, rfl, .inl (fz_sub _ _ h1), h2⟩
    | _ => cases h
  | loc n =>
    obtain ⟨a, ha, rfl⟩ := r
    simp only [rdM] at h
    split at h
    · rename_i s ys hx
      cases h
      obtain ⟨vs, hv, hd⟩ := m.obj n a _ ha hx
      exact ⟨a, vs, rfl, .inl hv, hd⟩
    · rename_i s ys hx
      cases h
      obtain ⟨vs, hv, hd⟩ := m.obj n a _ ha hx
      exact ⟨a, vs, rfl, .inl (fz_sub _ _ hv), hd⟩
    · cases h
  | s ys => cases h
def rdL : W → MS → Option (Bool × List PD)
  | .s xs, _ => some (true, xs)
  | w, M => rdM w M
theorem rdL_ok {t : Bool} {xs : List PD} (m : Mem K Z H φ M) (r : RW K (Fz Z φ M H) φ v w) (h : rdL w M = some (t, xs)) : ∃ a vs, v = .ref a ∧ SqL K H a vs ∧ DqAll (kk t K) (Fz Z φ M H) vs xs := by
  unfold rdL at h
  split at h
  · cases h
    obtain ⟨a, vs, rfl, h1, h2⟩ := r
    exact ⟨a, vs, rfl, sq_l fz_sub h1, h2⟩
  · obtain ⟨a, vs, e, h1, h2⟩ := rdM_ok m r h
    exact ⟨a, vs, e, .inl h1, h2⟩
/-- data as it reads now (a list at a place too) -/
def rdD : W → MS → Option PD
  | .d _ x, _ => some x
  | .loc n, M => match M[n]? with
    | some (.lst _ xs) => some (.list xs)
    | some (.fzn _ xs) => some (.list xs)
    | _ => none
  | .s _, _ => none
theorem rdD_ok {x : PD} (m : Mem K Z H φ M) (r : RW K (Fz Z φ M H) φ v w) (h : rdD w M = some x) : Dq K H v x := by
  cases w with
  | d t y =>
    cases h
    exact dp_mono fz_sub _ (kkU r)
  | loc n =>
    obtain ⟨a, ha, rfl⟩ := r
    simp only [rdD] at h
    split at h
    · rename_i s ys hx
      cases h
      obtain ⟨vs, hv, hd⟩ := m.obj n a _ ha hx
      exact .lst hv (dpa_mono fz_sub _ (kkUs hd))
    · rename_i s ys hx
      cases h
      obtain ⟨vs, hv, hd⟩ := m.obj n a _ ha hx
      exact .lst (fz_sub _ _ hv) (dpa_mono fz_sub _ (kkUs hd))
    · cases h
  | s ys => cases h
/-- items of a list or a tuple -/
def rdQ : W → MS → Option (Bool × List PD)
  | .d t (.tuple xs), _ => some (t, xs)
  | w, M => rdL w M
theorem rdQ_ok {t : Bool} {xs : List PD} (m : Mem K Z H φ M) (r : RW K (Fz Z φ M H) φ v w) (h : rdQ w M = some (t, xs)) : ∃ a vs, v = .ref a ∧ (SqL K H a vs ∨ TupR (kk t K) H a vs) ∧ DqAll (kk t K) (Fz Z φ M H) vs xs := by
  unfold rdQ at h
  split at h
  · cases h
    cases r with
    | tup h1 h2 => exact ⟨_, _, rfl, .inr (sq_t fz_sub h1), h2⟩
  · obtain ⟨a, vs, e, h1, h2⟩ := rdL_ok m r h
    exact ⟨a, vs, e, .inl h1, h2⟩
theorem tupU {t : Bool} {H : Hp} {a : Addr} {xs : List V} (h : TupR (kk t K) H a xs) : TupR K H a xs := by
  cases t with
  | true => exact .inl h.own
  | false => exact h

/-! ### a value that is the same store | new -/
theorem PostE.same {t : Bool} {x : PD} {Q : VK} (q : PostE K Z φ M H (.d t x) M Q) (m : Mem K Z H φ M) (h : Dq (kk t K) (Fz Z φ M H) v x) : Q v H := q v φ H Ext.refl m h
theorem PostE.newL {t : Bool} {xs : List PD} {vs : List V} {Q : VK} (q : PostE K Z φ M H (.d t (.list xs)) M Q) (m : Mem K Z H φ M) (h : DqAll (kk t K) (Fz Z φ M H) vs xs) : ∀ p, H p = none → Q (.ref p) (upd H p (.lst vs)) := fun p hp => by
  obtain ⟨e, m', f⟩ := m.new hp (.lst vs)
  exact q _ φ _ e m' (.lst f (dpa_mono e.fz _ h))
theorem PostE.newT {t : Bool} {xs : List PD} {vs : List V} {Q : VK} (q : PostE K Z φ M H (.d t (.tuple xs)) M Q) (m : Mem K Z H φ M) (h : DqAll (kk t K) (Fz Z φ M H) vs xs) : ∀ p, H p = none → Q (.ref p) (upd H p (.tup vs)) := fun p hp => by
  obtain ⟨e, m', f⟩ := m.new hp (.tup vs)
  exact q _ φ _ e m' (.tup (.inl f) (dpa_mono e.fz _ h))
end

/-! ### ints -/
def gI (f : Int → Int → PD) : W → W → MS → Option (W × MS)
  | .d _ (.int i), .d _ (.int j), M => some (.d true (f i j), M)
  | _, _, _ => none
theorem gI_ok {K : PySem.W.Frag} {f : Int → Int → PD} {g : Int → Int → V} (h : ∀ H i j, Dq [] H (g i j) (f i j)) : OpD K (rI0 g) (gI f) := by
  intro Z φ M H x y wx wy w M' Q m rx ry hg q
  unfold gI at hg
  split at hg
  · cases hg
    cases rx
    cases ry
    exact ⟨_, _, rfl, rfl, q.same m (h _ _ _)⟩
  · cases hg
def gIC (C : Int → Int → Prop) [∀ i j, Decidable (C i j)] (f : Int → Int → PD) : W → W → MS → Option (W × MS)
  | .d _ (.int i), .d _ (.int j), M => if C i j then some (.d true (f i j), M) else none
  | _, _, _ => none
theorem gIC_ok {K : PySem.W.Frag} {C : Int → Int → Prop} [∀ i j, Decidable (C i j)] {f : Int → Int → PD} {g : Int → Int → V} (h : ∀ H i j, Dq [] H (g i j) (f i j)) : OpD K (rI C g) (gIC C f) := by
  intro Z φ M H x y wx wy w M' Q m rx ry hg q
  unfold gIC at hg
  split at hg
  · split at hg
    · cases hg
      cases rx
      cases ry
      exact ⟨_, _, rfl, rfl, by assumption, q.same m (h _ _ _)⟩
    · cases hg
  · cases hg
section
variable {X : Cx}
theorem opr_imp {f : Value → Value → Sem Value} {r r' : R2} (h : OpR X f r) (i : ∀ x y H Q, r' x y H Q → r x y H Q) : OpR X f r' := fun pins s σ H x y v u Q I rx ry q => h pins s σ H x y v u Q I rx ry (i _ _ _ _ q)
theorem callr_imp {f : Value} {r r' : List V → Hp → VK → Prop} (h : CallR X f r) (i : ∀ xs H Q, r' xs H Q → r xs H Q) : CallR X f r' := fun pins s σ H xs us Q I rx q => h pins s σ H xs us Q I rx (i _ _ _ q)
theorem callr_or {f : Value} {r r' : List V → Hp → VK → Prop} (h : CallR X f r) (h' : CallR X f r') : CallR X f (fun xs H Q => r xs H Q ∨ r' xs H Q) := fun pins s σ H xs us Q I rx q => q.elim (fun q => h pins s σ H xs us Q I rx q) (fun q => h' pins s σ H xs us Q I rx q)
/-! ### + -/
def rCatR : R2 := fun x y H Q => ∃ l b xs zs, x = .ref l ∧ y = .ref b ∧ Rd H l (.lst xs) ∧ Rd H b (.lst zs) ∧ xs.length + zs.length ≤ sizeLine ∧ ∀ p, H p = none → Q (.ref p) (upd H p (.lst (xs ++ zs)))
theorem lstR {pins : List (Addr × Obj)} {σ : L2.St} {H : Hp} {s : Shared} {l : Addr} {xs : List V} (I : L2.Inv X pins σ H s) (hH : Rd H l (.lst xs)) : xs.length ≤ sizeLine ∧ ∃ (its : List Value) (n : Nat), Vals xs its ∧ xs.length = its.length ∧ s.heap.get? l = some { cls := .type "list", data := .seq its.toArray n } := by
  obtain ⟨z, its, n, r, e⟩ := hH.ok I.hok
  exact ⟨z, its, n, r, r.length, e⟩
theorem op_catR : OpR X (binaryOp .Add) rCatR := by
  intro pins s σ H x y v u Q I rx ry h
  obtain ⟨l, b, xs, zs, rfl, rfl, hH, hB, hz, q⟩ := h
  cases rx
  cases ry
  obtain ⟨z, its, n, r, hl, e⟩ := lstR I hH
  obtain ⟨z2, its2, n2, r2, hl2, e2⟩ := lstR I hB
  refine PySem.P.add_list e e2 ?_ (by rw [List.size_toArray, List.size_toArray]; omega)
  have ea : its.toArray ++ its2.toArray = (its ++ its2).toArray := by simp
  rw [ea]
  exact ⟨.ref _, _, I.lnew (t' := s.toks) (r.append r2) (by rw [List.length_append]; omega), rfl, q _ I.fresh⟩
def rAddR (K : PySem.W.Frag) : R2 := fun x y H Q => rI0 (fun i j => .int (i + j)) x y H Q ∨ (∃ i j, x = .str i ∧ y = .str j ∧ i.length + j.length ≤ sizeLine ∧ Q (.str (i ++ j)) H) ∨ rCatT K x y H Q ∨ rCatR x y H Q
theorem op_addR : OpR X (binaryOp .Add) (rAddR X.K) := op_add.or (op_add_str.or (op_catT.or op_catR))
def gAdd : W → W → MS → Option (W × MS)
  | .d _ (.int i), .d _ (.int j), M => some (.d true (.int (i + j)), M)
  | .d _ (.str a), .d _ (.str b), M => if a.length + b.length ≤ 1000000 then some (.d true (.str (a ++ b)), M) else none
  | .d t (.tuple (x :: xs)), .d s (.tuple ys), M => if (x :: xs).length + ys.length ≤ 10000 then some (.d (t && s) (.tuple (x :: xs ++ ys)), M) else none
  | x, y, M => match rdM x M, rdM y M with
    | some (t, xs), some (s, ys) => if xs.length + ys.length ≤ 10000 then some (.d (t && s) (.list (xs ++ ys)), M) else none
    | _, _ => none
theorem gAdd_ok {K : PySem.W.Frag} : OpD K (rAddR K) gAdd := by
  intro Z φ M H x y wx wy w M' Q m rx ry hg q
  unfold gAdd at hg
  split at hg
  · cases hg
    cases rx
    cases ry
    exact .inl ⟨_, _, rfl, rfl, q.same m (.int _)⟩
  · split at hg
    · rename_i hl
      cases hg
      cases rx
      cases ry
      exact .inr (.inl ⟨_, _, rfl, rfl, Nat.le_trans hl (by decide), q.same m (.str _)⟩)
    · cases hg
  · split at hg
    · rename_i hl
      cases hg
      cases rx with
      | tup hs ha =>
        cases ry with
        | tup hs2 ha2 =>
          have l1 := dpa_length ha
          have l2 := dpa_length ha2
          refine .inr (.inr (.inl ⟨_, _, _, _, rfl, rfl, (tupU (sq_t fz_sub hs)).sq, (tupU (sq_t fz_sub hs2)).sq, ?_, ?_, ?_, ?_⟩))
          · intro e
            rw [e] at l1
            simp at l1
          · exact Nat.le_trans (by rw [l1, l2]; exact hl) (by decide : (10000 : Nat) ≤ sizeLine)
          · intro e
            subst e
            cases ha2
            exact q.same m (by rw [List.append_nil]; exact kkL _ (.tup hs ha))
          · intro _
            exact q.newT m (dpa_append (kkLs _ ha) (kkRs _ ha2))
    · cases hg
  · split at hg
    · rename_i t xs s ys h1 h2
      split at hg
      · rename_i hl
        cases hg
        obtain ⟨a, vs, rfl, ra, da⟩ := rdM_ok m rx h1
        obtain ⟨b, us, rfl, rb, db⟩ := rdM_ok m ry h2
        exact .inr (.inr (.inr ⟨a, b, vs, us, rfl, rfl, ra, rb, Nat.le_trans (by rw [dpa_length da, dpa_length db]; exact hl) (by decide : (10000 : Nat) ≤ sizeLine), q.newL m (dpa_append (kkLs s da) (kkRs t db))⟩))
      · cases hg
    · cases hg
def gSub : W → W → MS → Option (W × MS) := gI fun i j => .int (i - j)
theorem gSub_ok {K : PySem.W.Frag} : OpD K (rI0 fun i j => .int (i - j)) gSub := gI_ok fun _ _ _ => .int _
/-! ### * -/
def CMulE (i j : Int) : Prop := CMul i j ∨ CMulW i j
instance (i j : Int) : Decidable (CMulE i j) := by unfold CMulE CMul CMulW; exact inferInstance
def rMulR : R2 := fun x y H Q => rI CMul (fun i j => .int (i * j)) x y H Q ∨ rI CMulW (fun i j => .int (i * j)) x y H Q ∨ rRep x y H Q
theorem op_mulR : OpR X (binaryOp .Mult) rMulR := op_mul.or (op_mulW.or op_rep)
def gMul : W → W → MS → Option (W × MS)
  | .d _ (.int i), .d _ (.int j), M => if CMulE i j then some (.d true (.int (i * j)), M) else none
  | .d t (.list xs), .d _ (.int k), M => if 0 ≤ k ∧ k ≤ 1000 ∧ xs.length ≤ 1000 then some (.d t (.list (List.replicate k.toNat xs).flatten), M) else none
  | _, _, _ => none
theorem dpa_flat {K : PySem.W.Frag} {H : Hp} {vs : List V} {ds : List PD} (h : DqAll K H vs ds) : ∀ n, DqAll K H (List.replicate n vs).flatten (List.replicate n ds).flatten
  | 0 => .nil
  | n + 1 => by
    rw [List.replicate_succ, List.replicate_succ, List.flatten_cons, List.flatten_cons]
    exact dpa_append h (dpa_flat h n)
theorem gMul_ok {K : PySem.W.Frag} : OpD K rMulR gMul := by
  intro Z φ M H x y wx wy w M' Q m rx ry hg q
  unfold gMul at hg
  split at hg
  · split at hg
    · rename_i hc
      cases hg
      cases rx
      cases ry
      rcases hc with hc | hc
      · exact .inl ⟨_, _, rfl, rfl, hc, q.same m (.int _)⟩
      · exact .inr (.inl ⟨_, _, rfl, rfl, hc, q.same m (.int _)⟩)
    · cases hg
  · split at hg
    · rename_i hc
      obtain ⟨h0, h1, h2⟩ := hc
      cases hg
      cases ry
      cases rx with
      | lst hs ha =>
        refine .inr (.inr ⟨_, _, _, rfl, rfl, fz_sub _ _ hs, by omega, by omega, ?_, q.newL m (dpa_flat ha _)⟩)
        rw [dpa_length ha]
        exact Nat.le_trans (Nat.mul_le_mul h2 (by omega : _ ≤ 1000)) (by decide : 1000 * 1000 ≤ sizeLine)
    · cases hg
  · cases hg
/-! ### //, %, ** -/
instance (i j : Int) : Decidable (CDivW i j) := by unfold CDivW; exact inferInstance
instance (i j : Int) : Decidable (CPow i j) := by unfold CPow; exact inferInstance
def gFdiv : W → W → MS → Option (W × MS) := gIC CDivW fun i j => .int (i / j)
theorem gFdiv_ok {K : PySem.W.Frag} : OpD K (rI CDivW fun i j => .int (i / j)) gFdiv := gIC_ok fun _ _ _ => .int _
def gMod : W → W → MS → Option (W × MS) := gIC (fun _ j => 0 < j) fun i j => .int (i % j)
theorem gMod_ok {K : PySem.W.Frag} : OpD K (rI (fun _ j => 0 < j) fun i j => .int (i % j)) gMod := gIC_ok fun _ _ _ => .int _
def gPow : W → W → MS → Option (W × MS) := gIC CPow fun i j => .int (i ^ j.toNat)
theorem gPow_ok {K : PySem.W.Frag} : OpD K (rI CPow fun i j => .int (i ^ j.toNat)) gPow := gIC_ok fun _ _ _ => .int _
def gNeg : W → MS → Option (W × MS)
  | .d _ (.int i), M => some (.d true (.int (-i)), M)
  | _, _ => none
theorem gNeg_ok {K : PySem.W.Frag} : UnD K (rU fun i => .int (-i)) gNeg := by
  intro Z φ M H x wx w M' Q m rx hg q
  unfold gNeg at hg
  split at hg
  · cases hg
    cases rx
    exact ⟨_, rfl, q.same m (.int _)⟩
  · cases hg
/-! ### comparisons -/
def gLt : W → W → MS → Option (W × MS) := gI fun i j => .bool (decide (i < j))
def gLe : W → W → MS → Option (W × MS) := gI fun i j => .bool (decide (i ≤ j))
def gGt : W → W → MS → Option (W × MS) := gI fun i j => .bool (decide (j < i))
def gGe : W → W → MS → Option (W × MS) := gI fun i j => .bool (decide (j ≤ i))
def gEq : W → W → MS → Option (W × MS) := fun x y M => match rdD x M, rdD y M with
  | some d, some e => if SeqAt.shaped d = true ∧ SeqAt.shaped e = true then some (.d true (.bool (PyData.eqv d e)), M) else none
  | _, _ => none
def gNe : W → W → MS → Option (W × MS) := fun x y M => match rdD x M, rdD y M with
  | some d, some e => if SeqAt.shaped d = true ∧ SeqAt.shaped e = true then some (.d true (.bool (!PyData.eqv d e)), M) else none
  | _, _ => none
theorem gEq_ok {K : PySem.W.Frag} : OpD K (rEqD K) gEq := by
  intro Z φ M H x y wx wy w M' Q m rx ry hg q
  unfold gEq at hg
  split at hg
  · rename_i d e h1 h2
    split at hg
    · rename_i hc
      cases hg
      exact ⟨d, e, dq_dp _ (rdD_ok m rx h1), dq_dp _ (rdD_ok m ry h2), hc.1, hc.2, q.same m (.bl _)⟩
    · cases hg
  · cases hg
theorem gNe_ok {K : PySem.W.Frag} : OpD K (rNeD K) gNe := by
  intro Z φ M H x y wx wy w M' Q m rx ry hg q
  unfold gNe at hg
  split at hg
  · rename_i d e h1 h2
    split at hg
    · rename_i hc
      cases hg
      exact ⟨d, e, dq_dp _ (rdD_ok m rx h1), dq_dp _ (rdD_ok m ry h2), hc.1, hc.2, q.same m (.bl _)⟩
    · cases hg
  · cases hg
def gIn (neg : Bool) : W → W → MS → Option (W × MS) := fun x y M => match rdD x M, rdD y M with
  | some d, some (.list ds) => if SeqAt.shaped d = true ∧ SeqAt.shaped (.list ds) = true then some (.d true (.bool (neg != ds.any fun z => PyData.eqv z d)), M) else none
  | _, _ => none
/-- is None, is not None -/
def isNon : W → Bool
  | .d _ .none => true
  | _ => false
def gIs : W → MS → Option (W × MS) := fun x M => some (.d true (.bool (isNon x)), M)
def gIsN : W → MS → Option (W × MS) := fun x M => some (.d true (.bool (!isNon x)), M)
theorem isNon_ok {K : PySem.W.Frag} {F : Hp} {φ : List Addr} {v : V} {w : W} (r : RW K F φ v w) : decide (v = .non) = isNon w := by
  cases w with
  | d t x =>
    cases x <;> cases r <;> rfl
  | loc n =>
    obtain ⟨a, _, rfl⟩ := r
    rfl
  | s ys =>
    obtain ⟨a, _, rfl, _⟩ := r
    rfl
/-! ### items -/
def gIx : W → W → MS → Option (W × MS)
  | x, .d _ (.int i), M => match rdQ x M with
    | some (t, xs) => (match atI xs i with
      | some y => some (.d (nf t y) y, M)
      | none => none)
    | none => none
  | _, _, _ => none
theorem atI_dq {K : PySem.W.Frag} {H : Hp} {vs : List V} {ds : List PD} {i : Int} {d : PD} (h : DqAll K H vs ds) (e : atI ds i = some d) : ∃ v, atI vs i = some v ∧ Dq K H v d := by
  unfold atI at e ⊢
  rw [dpa_length h]
  cases hj : ixN ds.length i with
  | none => rw [hj] at e; cases e
  | some j =>
    rw [hj] at e
    exact dpa_getD (i := j) h e
theorem gIx_ok {K : PySem.W.Frag} : OpD K (rIx K) gIx := by
  intro Z φ M H x y wx wy w M' Q m rx ry hg q
  unfold gIx at hg
  split at hg
  · split at hg
    · rename_i t xs hx
      split at hg
      · rename_i z hz
        cases hg
        cases ry
        obtain ⟨a, vs, rfl, ha, hd⟩ := rdQ_ok m rx hx
        obtain ⟨v, hv, dv⟩ := atI_dq hd hz
        rcases ha with ha | ha
        · exact .inl ⟨a, vs, _, v, rfl, rfl, ha, hv, q.same m (dq_nf dv)⟩
        · exact .inr (.inl ⟨a, vs, _, v, rfl, rfl, (tupU ha).sq, hv, q.same m (dq_nf dv)⟩)
      · cases hg
    · cases hg
  · cases hg
end
end Ek

/-! Ek4: calls, built-ins, slices, chains -/
namespace Ek
open PySem PySem.Spec PyProof.Rows L2
abbrev Fd := List W → MS → Option (W × MS)
/-- a def's promise by a plain function -/
def spOf (K : PySem.W.Frag) (n : Nat) (f : Fd) : Sp := fun vs H Q _ => ∃ Z φ M ws w M', Mem K Z H φ M ∧ RWs K (Fz Z φ M H) φ vs ws ∧ ws.length = n ∧ f ws M = some (w, M') ∧ PostE K Z φ M H w M' Q
theorem spOf_len {K : PySem.W.Frag} {n : Nat} {f : Fd} {vs : List V} {H : Hp} {Q : VK} {E : XK} (h : spOf K n f vs H Q E) : vs.length = n := by
  obtain ⟨Z, φ, M, ws, w, M', _, r, l, _⟩ := h
  rw [r.length]
  exact l
theorem spOf_imp {K : PySem.W.Frag} {n : Nat} {f g : Fd} (h : ∀ ws M r, ws.length = n → f ws M = some r → g ws M = some r) {vs : List V} {H : Hp} {Q : VK} {E : XK} (q : spOf K n f vs H Q E) : spOf K n g vs H Q E := by
  obtain ⟨Z, φ, M, ws, w, M', m, r, l, e, p⟩ := q
  exact ⟨Z, φ, M, ws, w, M', m, r, l, h _ _ _ l e, p⟩
def mCall (n : Nat) (f : Fd) (a : Sm (List W)) : Sm W := fun Δ M => match a Δ M with
  | some (ws, M1) => if ws.length = n then f ws M1 else none
  | none => none
section
variable {X : Cx} {a b c e : Expr} {es : List Expr} {p pos : Pos} {x : Str} {k : Nat} {f : Addr} {fd : FuncData} {ps : List Str} {n : Nat} {g : Fd} {ms : Sm (List W)}
theorem tCall_of {E : XK} {K : PySem.W.Frag} : ∀ σ H Q, tOf K (mCall n g ms) σ H Q → tCall (spOf K n g) [] E (tOfA K ms) σ H Q := by
  intro σ H Q ⟨Z, φ, Δ, M, w, M', R, h, q⟩
  unfold mCall at h
  split at h
  · rename_i ws M1 hx
    split at h
    · rename_i hl
      refine ⟨Z, φ, Δ, M, ws, M1, R, hx, fun vs φ1 H1 e1 m1 r1 => ?_⟩
      show spOf K n g (vs ++ []) H1 Q E
      rw [List.append_nil]
      exact ⟨Z, φ1, M1, ws, w, M', m1, r1, hl, h, q.step e1⟩
    · cases h
  · cases h
theorem pe_mcall (F : FnOk X.prog X.w X.K X.mg X.base CX0 k f fd ps (spOf X.K n g)) (hr : Room k X.A) (hg : Gl X x) (hm : X.mg x = some (.ref f)) (hk : PySem.W.keepIn X.K (.ref f) = true) (hb : Binds X.K fd ps [])
    (ha : PA X (e :: es) (tOfA X.K ms)) (hdb : (x == ("__debug__" : Str)) = false) (he : starEach (e :: es) X.env = (false, eval e X.env) :: starEach es X.env) (hpl : (backTo pos (starEach es X.env)).any (·.1) = false) :
    PE X (.Call (.Name x p) (e :: es) [] pos) (tOf X.K (mCall n g ms)) :=
  pe_imp (pe_call F hr hg hm hk hb .nil (pass0 (X := X)) ha hdb he hpl) tCall_of
theorem pe_mcall0 (F : FnOk X.prog X.w X.K X.mg X.base CX0 k f fd ps (spOf X.K n g)) (hr : Room k X.A) (hg : Gl X x) (hm : X.mg x = some (.ref f)) (hk : PySem.W.keepIn X.K (.ref f) = true) (hb : Binds X.K fd ps [])
    (hdb : (x == ("__debug__" : Str)) = false) : PE X (.Call (.Name x p) [] [] pos) (tOf X.K (mCall n g (mArgs []))) := by
  refine pe_imp (pe_call0 F hr hg hm hk hb .nil (pass0 (X := X)) hdb) fun σ H Q h => ?_
  obtain ⟨Z, φ, Δ, M, ws, M', R, h1, q⟩ := tCall_of (E := E0) σ H Q h
  cases h1
  exact q [] φ H Ext.refl R.mem .nil

/-! ### built-ins by name -/
theorem pe_mcb {id : String} {r : List V → Hp → VK → Prop} (hd : FnD X.K r g) (hc : CallR X (.builtin id) r) (hg : Gl X x) (hm : X.mg x = none) (hv : bootBuiltins x = some (.builtin id)) (ha : PA X (e :: es) (tOfA X.K ms)) (hn : x ≠ "__name__") (hdb : (x == ("__debug__" : Str)) = false)
    (he : starEach (e :: es) X.env = (false, eval e X.env) :: starEach es X.env) (hpl : (backTo pos (starEach es X.env)).any (·.1) = false) : PE X (.Call (.Name x p) (e :: es) [] pos) (tOf X.K (mFn g ms)) := by
  refine pe_imp (pe_callB hc hg hm hv ha hn hdb he hpl) fun σ H Q ⟨Z, φ, Δ, M, w, M', R, h, q⟩ => ?_
  unfold mFn at h
  split at h
  · rename_i ws M1 hx
    exact ⟨Z, φ, Δ, M, ws, M1, R, hx, fun vs φ1 H1 e1 m1 r1 => hd Z φ1 M1 H1 vs ws w M' Q m1 r1 h (q.step e1)⟩
  · cases h
theorem pe_mct {T : String} {r : List V → Hp → VK → Prop} (hd : FnD X.K r g) (hc : CallR X (.type T) r) (hg : Gl X x) (hm : X.mg x = none) (hv : bootBuiltins x = some (.type T)) (ha : PA X (e :: es) (tOfA X.K ms)) (hn : x ≠ "__name__") (hdb : (x == ("__debug__" : Str)) = false)
    (he : starEach (e :: es) X.env = (false, eval e X.env) :: starEach es X.env) (hpl : (backTo pos (starEach es X.env)).any (·.1) = false) : PE X (.Call (.Name x p) (e :: es) [] pos) (tOf X.K (mFn g ms)) := by
  refine pe_imp (pe_callTy hc hg hm hv ha hn hdb he hpl) fun σ H Q ⟨Z, φ, Δ, M, w, M', R, h, q⟩ => ?_
  unfold mFn at h
  split at h
  · rename_i ws M1 hx
    exact ⟨Z, φ, Δ, M, ws, M1, R, hx, fun vs φ1 H1 e1 m1 r1 => hd Z φ1 M1 H1 vs ws w M' Q m1 r1 h (q.step e1)⟩
  · cases h
end
theorem rws1 {K : PySem.W.Frag} {F : Hp} {φ : List Addr} {vs : List V} {w : W} (r : RWs K F φ vs [w]) : ∃ v, vs = [v] ∧ RW K F φ v w := by
  cases r with
  | cons h t => cases t; exact ⟨_, rfl, h⟩
theorem rws2 {K : PySem.W.Frag} {F : Hp} {φ : List Addr} {vs : List V} {w w' : W} (r : RWs K F φ vs [w, w']) : ∃ v v', vs = [v, v'] ∧ RW K F φ v w ∧ RW K F φ v' w' := by
  cases r with
  | cons h t =>
    obtain ⟨v', rfl, h'⟩ := rws1 t
    exact ⟨_, _, rfl, h, h'⟩
/-! ### the built-ins, as plain functions -/
def bLen : Fd
  | [.d _ (.str s)], M => if s.length ≤ 1000000 then some (.d true (.int s.length), M) else none
  | [w], M => match rdQ w M with
    | some (_, xs) => some (.d true (.int xs.length), M)
    | none => none
  | _, _ => none
theorem bLen_ok {K : PySem.W.Frag} : FnD K (fun xs H Q => ∃ x n, xs = [x] ∧ LenV K x H n ∧ Q (.int n) H) bLen := by
  intro Z φ M H xs ws w M' Q m r h q
  unfold bLen at h
  split at h
  · split at h
    · rename_i hl
      cases h
      obtain ⟨v, rfl, rv⟩ := rws1 r
      cases rv
      exact ⟨_, _, rfl, ⟨Nat.le_trans hl (by decide), rfl⟩, q.same m (.int _)⟩
    · cases h
  · split at h
    · rename_i t ys hy
      cases h
      obtain ⟨v, rfl, rv⟩ := rws1 r
      obtain ⟨a, vs, rfl, ha, hd⟩ := rdQ_ok m rv hy
      rcases ha with ha | ha
      · exact ⟨_, ys.length, rfl, .inl ⟨vs, ha, (dpa_length hd).symm⟩, q.same m (.int _)⟩
      · exact ⟨_, ys.length, rfl, .inr ⟨vs, (tupU ha).sq, (dpa_length hd).symm⟩, q.same m (.int _)⟩
    · cases h
  · cases h
def bI1 (f : Int → Int) : Fd
  | [.d _ (.int i)], M => some (.d true (.int (f i)), M)
  | _, _ => none
def bI2 (f : Int → Int → Int) : Fd
  | [.d _ (.int i), .d _ (.int j)], M => some (.d true (.int (f i j)), M)
  | _, _ => none
theorem bI1_ok {K : PySem.W.Frag} {f : Int → Int} : FnD K (fun xs H Q => ∃ i, xs = [.int i] ∧ Q (.int (f i)) H) (bI1 f) := by
  intro Z φ M H xs ws w M' Q m r h q
  unfold bI1 at h
  split at h
  · cases h
    obtain ⟨v, rfl, rv⟩ := rws1 r
    cases rv
    exact ⟨_, rfl, q.same m (.int _)⟩
  · cases h
theorem bI2_ok {K : PySem.W.Frag} {f : Int → Int → Int} : FnD K (fun xs H Q => ∃ i j, xs = [.int i, .int j] ∧ Q (.int (f i j)) H) (bI2 f) := by
  intro Z φ M H xs ws w M' Q m r h q
  unfold bI2 at h
  split at h
  · cases h
    obtain ⟨v, u, rfl, rv, ru⟩ := rws2 r
    cases rv
    cases ru
    exact ⟨_, _, rfl, q.same m (.int _)⟩
  · cases h
def bAbs : Fd := bI1 fun i => if i < 0 then -i else i
def bMax : Fd := bI2 fun i j => if j > i then j else i
def bMin : Fd := bI2 fun i j => if j < i then j else i
def bInt : Fd
  | [.d _ (.int i)], M => some (.d true (.int i), M)
  | _, _ => none
theorem bInt_ok {K : PySem.W.Frag} : FnD K (fun xs H Q => (∃ i, xs = [.int i] ∧ Q (.int i) H) ∨ ∃ k, xs = [.bl k] ∧ Q (.int (if k then 1 else 0)) H) bInt := by
  intro Z φ M H xs ws w M' Q m r h q
  unfold bInt at h
  split at h
  · cases h
    obtain ⟨v, rfl, rv⟩ := rws1 r
    cases rv
    exact .inl ⟨_, rfl, q.same m (.int _)⟩
  · cases h
/-- ints of a list, bools of a list -/
def asInts : List PD → Option (List Int)
  | [] => some []
  | .int i :: r => match asInts r with
    | some l => some (i :: l)
    | none => none
  | _ => none
def asBools : List PD → Option (List Bool)
  | [] => some []
  | .bool i :: r => match asBools r with
    | some l => some (i :: l)
    | none => none
  | _ => none
theorem asInts_eq : ∀ {ds : List PD} {l : List Int}, asInts ds = some l → ds = l.map PyData.int
  | [], l, h => by cases h; rfl
  | .int i :: r, l, h => by
    unfold asInts at h
    split at h
    · rename_i l' hl
      cases h
      rw [asInts_eq hl]
      rfl
    · cases h
  | .none :: _, _, h => by cases h
  | .bool _ :: _, _, h => by cases h
  | .str _ :: _, _, h => by cases h
  | .list _ :: _, _, h => by cases h
  | .tuple _ :: _, _, h => by cases h
  | .dict _ :: _, _, h => by cases h
theorem asBools_eq : ∀ {ds : List PD} {l : List Bool}, asBools ds = some l → ds = l.map PyData.bool
  | [], l, h => by cases h; rfl
  | .bool i :: r, l, h => by
    unfold asBools at h
    split at h
    · rename_i l' hl
      cases h
      rw [asBools_eq hl]
      rfl
    · cases h
  | .none :: _, _, h => by cases h
  | .int _ :: _, _, h => by cases h
  | .str _ :: _, _, h => by cases h
  | .list _ :: _, _, h => by cases h
  | .tuple _ :: _, _, h => by cases h
  | .dict _ :: _, _, h => by cases h
theorem asInts_map : ∀ l : List Int, asInts (l.map PyData.int) = some l
  | [] => rfl
  | i :: r => by simp [asInts, asInts_map r]
theorem asBools_map : ∀ l : List Bool, asBools (l.map PyData.bool) = some l
  | [] => rfl
  | i :: r => by simp [asBools, asBools_map r]
theorem dq_ints {K : PySem.W.Frag} {H : Hp} : ∀ {l : List Int} {vs : List V}, DqAll K H vs (l.map PyData.int) → vs = l.map V.int
  | [], _, h => by cases h; rfl
  | i :: r, _, h => by
    cases h with
    | cons h1 h2 =>
      cases h1
      rw [dq_ints h2]
      rfl
theorem dq_bools {K : PySem.W.Frag} {H : Hp} : ∀ {l : List Bool} {vs : List V}, DqAll K H vs (l.map PyData.bool) → vs = l.map V.bl
  | [], _, h => by cases h; rfl
  | i :: r, _, h => by
    cases h with
    | cons h1 h2 =>
      cases h1
      rw [dq_bools h2]
      rfl
theorem ints_dq {K : PySem.W.Frag} {H : Hp} : ∀ l : List Int, DqAll K H (l.map V.int) (l.map PyData.int)
  | [] => .nil
  | i :: r => .cons (.int i) (ints_dq r)
def bSum : Fd
  | [w], M => match rdL w M with
    | some (_, xs) => (match asInts xs with
      | some l => some (.d true (.int l.sum), M)
      | none => none)
    | none => none
  | _, _ => none
theorem bSum_ok {K : PySem.W.Frag} : FnD K (rSum K) bSum := by
  intro Z φ M H xs ws w M' Q m r h q
  unfold bSum at h
  split at h
  · split at h
    · rename_i t ys hy
      split at h
      · rename_i l hl
        cases h
        obtain ⟨v, rfl, rv⟩ := rws1 r
        obtain ⟨a, vs, rfl, ha, hd⟩ := rdL_ok m rv hy
        rw [asInts_eq hl] at hd
        refine ⟨a, l, rfl, ?_, q.same m (.int _)⟩
        rw [← dq_ints hd]
        exact ha
      · cases h
    · cases h
  · cases h
def bBs (f : List Bool → Bool) : Fd
  | [w], M => match rdL w M with
    | some (_, xs) => (match asBools xs with
      | some l => some (.d true (.bool (f l)), M)
      | none => none)
    | none => none
  | _, _ => none
theorem bBs_ok {K : PySem.W.Frag} {f : List Bool → Bool} : FnD K (fun vs H Q => ∃ (a : Addr) (bs : List Bool), vs = [V.ref a] ∧ SqL K H a (bs.map V.bl) ∧ Q (.bl (f bs)) H) (bBs f) := by
  intro Z φ M H xs ws w M' Q m r h q
  unfold bBs at h
  split at h
  · split at h
    · rename_i t ys hy
      split at h
      · rename_i l hl
        cases h
        obtain ⟨v, rfl, rv⟩ := rws1 r
        obtain ⟨a, vs, rfl, ha, hd⟩ := rdL_ok m rv hy
        rw [asBools_eq hl] at hd
        refine ⟨a, l, rfl, ?_, q.same m (.bl _)⟩
        rw [← dq_bools hd]
        exact ha
      · cases h
    · cases h
  · cases h
def bAll : Fd := bBs fun bs => bs.all id
def bAny : Fd := bBs fun bs => bs.any id
def bTuple : Fd
  | [.d t (.tuple xs)], M => some (.d t (.tuple xs), M)
  | [w], M => match rdL w M with
    | some (t, xs) => some (.d t (.tuple xs), M)
    | none => none
  | _, _ => none
theorem bTuple_ok {K : PySem.W.Frag} : FnD K (fun xs H Q => ∃ p ys, xs = [.ref p] ∧ ((SqL K H p ys ∧ ∀ l, H l = none → Q (.ref l) (upd H l (.tup ys))) ∨ (SqT K H p ys ∧ Q (.ref p) H))) bTuple := by
  intro Z φ M H xs ws w M' Q m r h q
  unfold bTuple at h
  split at h
  · cases h
    obtain ⟨v, rfl, rv⟩ := rws1 r
    cases rv with
    | tup h1 h2 => exact ⟨_, _, rfl, .inr ⟨(tupU (sq_t fz_sub h1)).sq, q.same m (.tup h1 h2)⟩⟩
  · split at h
    · rename_i t ys hy
      cases h
      obtain ⟨v, rfl, rv⟩ := rws1 r
      obtain ⟨a, vs, rfl, ha, hd⟩ := rdL_ok m rv hy
      exact ⟨a, vs, rfl, .inl ⟨ha, q.newT m hd⟩⟩
    · cases h
  · cases h
def bList : Fd
  | [w], M => match rdQ w M with
    | some (t, xs) => some (.d t (.list xs), M)
    | none => none
  | _, _ => none
theorem bList_ok {K : PySem.W.Frag} : FnD K (fun xs H Q => ∃ p ys, xs = [.ref p] ∧ (SqL K H p ys ∨ SqT K H p ys) ∧ ∀ l, H l = none → Q (.ref l) (upd H l (.lst ys))) bList := by
  intro Z φ M H xs ws w M' Q m r h q
  unfold bList at h
  split at h
  · split at h
    · rename_i t ys hy
      cases h
      obtain ⟨v, rfl, rv⟩ := rws1 r
      obtain ⟨a, vs, rfl, ha, hd⟩ := rdQ_ok m rv hy
      exact ⟨a, vs, rfl, ha.imp id (fun h => (tupU h).sq), q.newL m hd⟩
    · cases h
  · cases h
instance (i j : Int) : Decidable (CDiv i j) := by unfold CDiv; exact inferInstance
def bDivmod : Fd
  | [.d _ (.int i), .d _ (.int j)], M => if CDiv i j then some (.d true (.tuple [.int (i / j), .int (i % j)]), M) else none
  | _, _ => none
theorem bDivmod_ok {K : PySem.W.Frag} : FnD K (fun xs H Q => ∃ i j, xs = [.int i, .int j] ∧ CDiv i j ∧ ∀ p, H p = none → Q (.ref p) (upd H p (.tup [.int (i / j), .int (i % j)]))) bDivmod := by
  intro Z φ M H xs ws w M' Q m r h q
  unfold bDivmod at h
  split at h
  · split at h
    · rename_i hc
      cases h
      obtain ⟨v, u, rfl, rv, ru⟩ := rws2 r
      cases rv
      cases ru
      exact ⟨_, _, rfl, hc, q.newT m (.cons (.int _) (dpa_one (.int _)))⟩
    · cases h
  · cases h
/-! ### isinstance(e, T), T a built-in class by its name -/
def tyN : PD → String
  | .none => "NoneType"
  | .bool _ => "bool"
  | .int _ => "int"
  | .str _ => "str"
  | .list _ => "list"
  | .tuple _ => "tuple"
  | .dict _ => "dict"
/-- which of our classes a thing of the first kind is one of -/
def isiN (T : String) : PD → Option Bool
  | .none => if T = "tuple" ∨ T = "int" ∨ T = "bool" ∨ T = "str" ∨ T = "list" then some false else none
  | .bool _ => if T = "int" ∨ T = "bool" then some true else if T = "tuple" ∨ T = "str" ∨ T = "list" then some false else none
  | .int _ => if T = "int" then some true else if T = "tuple" ∨ T = "bool" ∨ T = "str" ∨ T = "list" then some false else none
  | .str _ => if T = "str" then some true else if T = "tuple" ∨ T = "bool" ∨ T = "int" ∨ T = "list" then some false else none
  | .list _ => if T = "list" then some true else if T = "tuple" ∨ T = "bool" ∨ T = "int" ∨ T = "str" then some false else none
  | .tuple _ => if T = "tuple" then some true else if T = "str" ∨ T = "bool" ∨ T = "int" ∨ T = "list" then some false else none
  | .dict _ => none
theorem isiN_ok {T : String} {d : PD} {b : Bool} (h : isiN T d = some b) : kitB (tyN d) T = some b := by
  have two : ∀ {P Q : Prop} [Decidable P] [Decidable Q] {b : Bool}, (if P then some true else if Q then some false else none) = some b → (P ∧ b = true) ∨ (Q ∧ b = false) := by
    intro P Q _ _ b h
    split at h
    · cases h; exact .inl ⟨by assumption, rfl⟩
    · split at h
      · cases h; exact .inr ⟨by assumption, rfl⟩
      · cases h
  cases d with
  | none =>
    simp only [isiN] at h
    split at h
    · cases h
      rename_i hh
      rcases hh with rfl | rfl | rfl | rfl | rfl <;> decide +kernel
    · cases h
  | bool k =>
    rcases two h with ⟨rfl | rfl, rfl⟩ | ⟨rfl | rfl | rfl, rfl⟩ <;> (simp only [tyN]; decide +kernel)
  | int k =>
    rcases two h with ⟨rfl, rfl⟩ | ⟨rfl | rfl | rfl | rfl, rfl⟩ <;> (simp only [tyN]; decide +kernel)
  | str k =>
    rcases two h with ⟨rfl, rfl⟩ | ⟨rfl | rfl | rfl | rfl, rfl⟩ <;> (simp only [tyN]; decide +kernel)
  | list k =>
    rcases two h with ⟨rfl, rfl⟩ | ⟨rfl | rfl | rfl | rfl, rfl⟩ <;> (simp only [tyN]; decide +kernel)
  | tuple k =>
    rcases two h with ⟨rfl, rfl⟩ | ⟨rfl | rfl | rfl | rfl, rfl⟩ <;> (simp only [tyN]; decide +kernel)
  | dict k => cases h
theorem tyX_of {K : PySem.W.Frag} {H : Hp} {v : V} {d : PD} (h : Dq K H v d) : TyX K H v (.type (tyN d)) := by
  cases h with
  | non => exact .base .non
  | bl b => exact .base (.bl b)
  | int i => exact .base (.int i)
  | str x => exact .base (.str x)
  | lst h1 h2 => exact .base (.lst h1)
  | tup h1 h2 =>
    rcases h1 with h1 | ⟨o, its, n, h1, h3, _⟩
    · exact .base (.tup h1)
    · exact .kTuple h1 h3
def gIsi (T : String) : W → MS → Option (W × MS) := fun w M => match rdD w M with
  | some d => (match isiN T d with
    | some b => some (.d true (.bool b), M)
    | none => none)
  | none => none
section
variable {X : Cx} {a b c e : Expr} {es : List Expr} {p p2 pos : Pos} {x : Str}
theorem pe_misi {T : String} {m : Sm W} (hg : Gl X "isinstance") (hm : X.mg "isinstance" = none) (ha : PE X e (tOf X.K m)) {y : Str} (hT : PE X (.Name y p2) (tC (.ty T)))
    (he : starEach [e, .Name y p2] X.env = (false, eval e X.env) :: starEach [.Name y p2] X.env) : PE X (.Call (.Name "isinstance" p) [e, .Name y p2] [] pos) (tOf X.K (mUn (gIsi T) m)) := by
  refine pe_imp (pe_callB call_isi hg hm (by decide +kernel) (pa_cons ha (pa_cons hT pa_nil) he) (by decide) (by decide) he) fun σ H Q ⟨Z, φ, Δ, M, w, M', R, h, q⟩ => ?_
  unfold mUn at h
  split at h
  · rename_i w1 M1 hx
    refine ⟨Z, φ, Δ, M, w1, M1, R, hx, fun v φ1 H1 e1 m1 r1 => ?_⟩
    unfold gIsi at h
    split at h
    · rename_i d hd
      split at h
      · rename_i b hb
        cases h
        exact ⟨v, .ty T, _, _, b, rfl, .ty T, tyX_of (rdD_ok m1 r1 hd), kit_ty (isiN_ok hb), q _ φ1 H1 e1 m1 (.bl _)⟩
      · cases h
    · cases h
  · cases h
/-! ### is None -/
theorem pe_mis {j p2} {m : Sm W} (ha : PE X a (tOf X.K m)) : PE X (.Compare a [.Is] [.Constant .none j p2] pos) (tOf X.K (mUn gIs m)) := by
  refine pe_imp (pe_cmp (pc_isN ha) (by rfl)) fun σ H Q ⟨Z, φ, Δ, M, w, M', R, h, q⟩ => ?_
  unfold mUn at h
  split at h
  · rename_i w1 M1 hx
    cases h
    refine ⟨Z, φ, Δ, M, w1, _, R, hx, fun v φ1 H1 e1 m1 r1 => ?_⟩
    show Q (V.bl (decide (v = V.non))) H1
    rw [isNon_ok r1]
    exact q _ φ1 H1 e1 m1 (.bl _)
  · cases h
theorem pe_misn {j p2} {m : Sm W} (ha : PE X a (tOf X.K m)) : PE X (.Compare a [.IsNot] [.Constant .none j p2] pos) (tOf X.K (mUn gIsN m)) := by
  refine pe_imp (pe_cmp (pc_notN ha) (by rfl)) fun σ H Q ⟨Z, φ, Δ, M, w, M', R, h, q⟩ => ?_
  unfold mUn at h
  split at h
  · rename_i w1 M1 hx
    cases h
    refine ⟨Z, φ, Δ, M, w1, _, R, hx, fun v φ1 H1 e1 m1 r1 => ?_⟩
    show Q (V.bl (!decide (v = V.non))) H1
    rw [isNon_ok r1]
    exact q _ φ1 H1 e1 m1 (.bl _)
  · cases h
/-! ### a < b < c -/
def mChain (g g' : W → W → MS → Option (W × MS)) (a b c : Sm W) : Sm W := fun Δ M => match a Δ M with
  | some (x, M1) => (match b Δ M1 with
    | some (y, M2) => (match g x y M2 with
      | some (.d _ (.bool k), M3) => if k = true then (match c Δ M3 with
          | some (z, M4) => g' y z M4
          | none => none) else some (.d true (.bool false), M3)
      | _ => none)
    | none => none)
  | none => none
theorem tChain_of {r r' : R2} {g g' : W → W → MS → Option (W × MS)} {ma mb mc : Sm W} {K : PySem.W.Frag} (hr : OpD K r g) (hr' : OpD K r' g') : ∀ σ H Q, tOf K (mChain g g' ma mb mc) σ H Q → tChain r r' (tOf K ma) (tOf K mb) (tOf K mc) σ H Q := by
  intro σ H Q ⟨Z, φ, Δ, M, w, M', R, h, q⟩
  unfold mChain at h
  split at h
  · rename_i x M1 hx
    split at h
    · rename_i y M2 hy
      split at h
      · rename_i t k M3 hk
        refine ⟨Z, φ, Δ, M, x, M1, R, hx, fun v φ1 H1 e1 m1 r1 => ?_⟩
        have R1 := R.step e1 m1
        refine ⟨Z, φ1, Δ, M1, y, M2, R1, hy, fun u φ2 H2 e2 m2 r2 => ?_⟩
        have R2 := R1.step e2 m2
        refine hr Z φ2 M2 H2 v u x y _ M3 _ m2 (r1.ext e2) r2 hk fun z φ3 H3 e3 m3 r3 => ?_
        cases r3
        refine ⟨k, rfl, ?_⟩
        cases k with
        | true =>
          simp only [if_true] at h ⊢
          split at h
          · rename_i z M4 hz
            refine ⟨Z, φ3, Δ, M3, z, M4, R2.step e3 m3, hz, fun t φ4 H4 e4 m4 r4 => ?_⟩
            exact hr' Z φ4 M4 H4 u t y z w M' Q m4 (r2.ext (e3.trans e4)) r4 h (q.step (((e1.trans e2).trans e3).trans e4))
          · cases h
        | false =>
          simp only [Bool.false_eq_true, if_false] at h ⊢
          cases h
          exact q _ φ3 H3 ((e1.trans e2).trans e3) m3 (.bl _)
      · cases h
    · cases h
  · cases h
end
end Ek

/-! Ek5: targets, what is walked, comprehensions -/
namespace Ek
open PySem PySem.Spec PyProof.Rows L2
section
variable {K : PySem.W.Frag} {Z : Addr → Prop} {σ σ' : L2.St} {H H' H1 H2 : Hp} {φ φ' φ1 φ2 : List Addr} {Δ Δ' : Sl} {M M' M1 M2 : MS} {D : Addr}
/-! ### hiding -/
def hid (Z : Addr → Prop) (D : Addr) : Addr → Prop := fun b => Z b ∨ b = D
/-- a new thing is hidden -/
theorem Mem.hide (m : Mem K Z H φ M) (hp : H D = none) (u : HO) : Fz (hid Z D) φ M (upd H D u) = Fz Z φ M H ∧ Mem K (hid Z D) (upd H D u) φ M := by
  obtain ⟨f1, f2, f3⟩ := m.fresh hp
  have hf : Fz (hid Z D) φ M (upd H D u) = Fz Z φ M H := by
    funext b
    by_cases hb : b = D
    · subst hb
      unfold Fz
      rw [if_pos (.inl (.inr rfl)), if_neg (by rintro (z | z); exact f2 z; exact f3 z), hp]
    · unfold Fz
      rw [upd_ne hb, show hid Z D b = Z b from propext ⟨fun h => h.resolve_right hb, .inl⟩]
  refine ⟨hf, ⟨m.len, m.nd, fun z hz => ?_, fun z hz => ?_, fun i a o h1 h2 => ?_⟩⟩
  · by_cases hb : z = D
    · subst hb; exact ⟨u, upd_same⟩
    · obtain ⟨y, hy⟩ := m.zk z (hz.resolve_right hb)
      exact ⟨y, (upd_ne hb).trans hy⟩
  · rcases hz with hz | hz
    · exact m.zl z hz
    · subst hz; exact f3
  · rw [hf]
    have hb : a ≠ D := fun e => f1 (e ▸ List.mem_of_getElem? h1)
    exact objr_mono (same_refl _) (fun _ => upd_ne hb) (m.obj i a o h1 h2)
/-- a hidden thing is given another content -/
theorem Mem.turn (m : Mem K Z H φ M) (hz : Z D) (hd : ∀ i : Nat, φ[i]? ≠ some D) (u : HO) : Fz Z φ M (upd H D u) = Fz Z φ M H ∧ Mem K Z (upd H D u) φ M := by
  have hf : Fz Z φ M (upd H D u) = Fz Z φ M H := by
    funext b
    by_cases hb : b = D
    · subst hb
      unfold Fz
      rw [if_pos (.inl hz), if_pos (.inl hz)]
    · unfold Fz
      rw [upd_ne hb]
  refine ⟨hf, ⟨m.len, m.nd, fun z hz' => ?_, m.zl, fun i a o h1 h2 => ?_⟩⟩
  · by_cases hb : z = D
    · subst hb; exact ⟨u, upd_same⟩
    · obtain ⟨y, hy⟩ := m.zk z hz'
      exact ⟨y, (upd_ne hb).trans hy⟩
  · rw [hf]
    have hb : a ≠ D := fun e => hd i (e ▸ h1)
    exact objr_mono (same_refl _) (fun _ => upd_ne hb) (m.obj i a o h1 h2)
/-- a hidden list comes forth as a live one -/
theorem Mem.unhide {t : Bool} {xs : List PD} {vs : List V} (m : Mem K (hid Z D) H φ M) (nz : ¬ Z D) (hd : ∀ i : Nat, φ[i]? ≠ some D) (hv : H D = some (.lst vs)) (hx : DqAll (kk t K) (Fz (hid Z D) φ M H) vs xs) :
    Fz Z (φ ++ [D]) (M ++ [.lst t xs]) H = Fz (hid Z D) φ M H ∧ Mem K Z H (φ ++ [D]) (M ++ [.lst t xs]) := by
  have nl : ¬ Lv φ M D := m.zl D (.inr rfl)
  have lp : Lv (φ ++ [D]) (M ++ [.lst t xs]) D := ⟨φ.length, .lst t xs, by simp, by rw [m.len]; simp, rfl⟩
  have lo : ∀ b, b ≠ D → (Lv (φ ++ [D]) (M ++ [.lst t xs]) b ↔ Lv φ M b) := fun b hb => by
    constructor
    · rintro ⟨i, x, h1, h2, h3⟩
      by_cases hi : i < φ.length
      · rw [List.getElem?_append_left hi] at h1
        rw [List.getElem?_append_left (by rw [← m.len]; exact hi)] at h2
        exact ⟨i, x, h1, h2, h3⟩
      · exfalso
        rw [List.getElem?_append_right (Nat.le_of_not_lt hi)] at h1
        cases hk : i - φ.length with
        | zero => rw [hk] at h1; simp at h1; exact hb h1.symm
        | succ k => rw [hk] at h1; simp at h1
    · rintro ⟨i, x, h1, h2, h3⟩
      have hi : i < φ.length := (List.getElem?_eq_some_iff.mp h1).1
      exact ⟨i, x, by rw [List.getElem?_append_left hi]; exact h1, by rw [List.getElem?_append_left (by rw [← m.len]; exact hi)]; exact h2, h3⟩
  have hf : Fz Z (φ ++ [D]) (M ++ [.lst t xs]) H = Fz (hid Z D) φ M H := by
    funext b
    by_cases hb : b = D
    · subst hb
      unfold Fz
      rw [if_pos (.inr lp), if_pos (.inl (.inr rfl))]
    · unfold Fz
      rw [show Lv (φ ++ [D]) (M ++ [.lst t xs]) b = Lv φ M b from propext (lo b hb), show hid Z D b = Z b from propext ⟨fun h => h.resolve_right hb, .inl⟩]
  refine ⟨hf, ⟨by simp [m.len], ?_, fun z hz => m.zk z (.inl hz), fun z hz => ?_, fun i b x h1 h2 => ?_⟩⟩
  · rw [List.nodup_append]
    refine ⟨m.nd, by simp, fun x hxm y hy e => ?_⟩
    rw [List.mem_singleton] at hy
    subst hy
    subst e
    obtain ⟨i, hi⟩ := List.getElem?_of_mem hxm
    exact hd i hi
  · have hb : z ≠ D := fun e => nz (e ▸ hz)
    rw [lo z hb]
    exact m.zl z (.inl hz)
  · rw [hf]
    by_cases hi : i < φ.length
    · rw [List.getElem?_append_left hi] at h1
      rw [List.getElem?_append_left (by rw [← m.len]; exact hi)] at h2
      exact m.obj i b x h1 h2
    · rw [List.getElem?_append_right (Nat.le_of_not_lt hi)] at h1
      rw [List.getElem?_append_right (by rw [← m.len]; exact Nat.le_of_not_lt hi), ← m.len] at h2
      cases hk : i - φ.length with
      | zero =>
        rw [hk] at h1 h2
        simp at h1 h2
        subst h1
        subst h2
        exact ⟨vs, hv, hx⟩
      | succ k => rw [hk] at h1; simp at h1

/-! ### targets -/
abbrev Tg := Bool → PD → Sl → Option Sl
abbrev Tgs := Bool → List PD → Sl → Option Sl
def gNm (i : Nat) : Tg := fun t x Δ => some (Δ.set i (some (.d (nf t x) x)))
def gsNil : Tgs
  | _, [], Δ => some Δ
  | _, _, _ => none
def gsCons (g : Tg) (r : Tgs) : Tgs
  | t, x :: xs, Δ => match g t x Δ with
    | some Δ1 => r t xs Δ1
    | none => none
  | _, _, _ => none
def gTp (r : Tgs) : Tg
  | t, .tuple xs, Δ => r t xs Δ
  | _, _, _ => none
/-- only these slots -/
def Only (S : List Nat) (σ σ' : L2.St) : Prop := σ'.length = σ.length ∧ ∀ j, j ∉ S → σ'[j]? = σ[j]?
def tOfG (K : PySem.W.Frag) (g : Tg) (S : List Nat) : TG := fun v σ H Q => ∃ Z φ Δ M t x Δ', Rep K Z σ H φ Δ M ∧ Dq (kk t K) (Fz Z φ M H) v x ∧ g t x Δ = some Δ' ∧ ∀ σ', Only S σ σ' → Rep K Z σ' H φ Δ' M → Q σ' H
def tOfGs (K : PySem.W.Frag) (g : Tgs) (S : List Nat) : TGs := fun vs σ H Q => ∃ Z φ Δ M t xs Δ', Rep K Z σ H φ Δ M ∧ DqAll (kk t K) (Fz Z φ M H) vs xs ∧ g t xs Δ = some Δ' ∧ ∀ σ', Only S σ σ' → Rep K Z σ' H φ Δ' M → Q σ' H
theorem Rep.set (R : Rep K Z σ H φ Δ M) (i : Nat) {v : V} {w : W} (h : RW K (Fz Z φ M H) φ v w) : Rep K Z (σ.set i (some v)) H φ (Δ.set i (some w)) M := by
  refine ⟨R.mem, by simp [R.len], fun j u hj => ?_⟩
  by_cases hij : i = j
  · subst hij
    by_cases hi : i < Δ.length
    · rw [List.getElem?_set_self hi] at hj
      cases hj
      exact ⟨v, by rw [List.getElem?_set_self (by rw [← R.len]; exact hi)], h⟩
    · rw [List.getElem?_eq_none (by simpa using hi)] at hj
      cases hj
  · rw [List.getElem?_set_ne hij] at hj
    obtain ⟨x, h1, h2⟩ := R.sl j u hj
    exact ⟨x, by rw [List.getElem?_set_ne hij]; exact h1, h2⟩
theorem only_set (σ : L2.St) (i : Nat) (v : Option V) : Only [i] σ (σ.set i v) := ⟨by simp, fun j hj => List.getElem?_set_ne (fun e => hj (by simp [e]))⟩
theorem Only.trans {S T : List Nat} {σ1 σ2 : L2.St} (a : Only S σ σ1) (b : Only T σ1 σ2) : Only (S ++ T) σ σ2 :=
  ⟨b.1.trans a.1, fun j hj => (b.2 j fun h => hj (List.mem_append_right _ h)).trans (a.2 j fun h => hj (List.mem_append_left _ h))⟩
end
section
variable {X : Cx} {pos : Pos}
theorem pg_imp {tg : Expr} {t t' : TG} (h : PG X tg t) (i : ∀ v σ H Q, t' v σ H Q → t v σ H Q) : PG X tg t' := ⟨fun pins s σ H v u Q I r q => h.run pins s σ H v u Q I r (i v σ H Q q)⟩
theorem pgs_imp {ts : List Expr} {t t' : TGs} (h : PGs X ts t) (i : ∀ v σ H Q, t' v σ H Q → t v σ H Q) : PGs X ts t' := ⟨fun pins s σ H v u Q I r q => h.run pins s σ H v u Q I r (i v σ H Q q)⟩
theorem pg_mnm {i : Nat} {x : Str} (hN : X.N.Nodup) (hi : X.N[i]? = some x) (hx : Loc X.env.scope x) (hf : X.fn x = true ∨ X.env.scope.names.lookup x = some .local) : PG X (.Name x pos) (tOfG X.K (gNm i) [i]) := by
  refine pg_imp (pg_name hN hi hx hf) fun v σ H Q ⟨Z, φ, Δ, M, t, d, Δ', R, hd, h, q⟩ => ?_
  cases h
  exact q _ (only_set σ i _) (R.set i (w := .d (nf t d) d) (dq_nf hd))
theorem pgs_mnil : PGs X [] (tOfGs X.K gsNil []) := by
  refine pgs_imp pgs_nil fun vs σ H Q ⟨Z, φ, Δ, M, t, ds, Δ', R, hd, h, q⟩ => ?_
  cases ds with
  | nil =>
    cases hd
    cases h
    exact ⟨rfl, q σ ⟨rfl, fun _ _ => rfl⟩ R⟩
  | cons d ds => cases h
theorem pgs_mcons {e : Expr} {es : List Expr} {g : Tg} {r : Tgs} {S T : List Nat} (h1 : PG X e (tOfG X.K g S)) (h2 : PGs X es (tOfGs X.K r T)) (hs : (assignEach (e :: es) X.env).map (·.2) = assign e X.env :: (assignEach es X.env).map (·.2)) :
    PGs X (e :: es) (tOfGs X.K (gsCons g r) (S ++ T)) := by
  refine pgs_imp (pgs_cons h1 h2 hs) fun vs σ H Q ⟨Z, φ, Δ, M, t, ds, Δ', R, hd, h, q⟩ => ?_
  cases ds with
  | nil => cases h
  | cons d ds =>
    cases hd with
    | cons d1 d2 =>
      simp only [gsCons] at h
      split at h
      · rename_i Δ1 hg
        refine ⟨_, _, rfl, Z, φ, Δ, M, t, d, Δ1, R, d1, hg, fun σ1 o1 R1 => ?_⟩
        exact ⟨Z, φ, Δ1, M, t, ds, Δ', R1, d2, h, fun σ2 o2 R2 => q σ2 (o1.trans o2) R2⟩
      · cases h
theorem pg_mtp {es : List Expr} {k : Nat} {r : Tgs} {S : List Nat} (hc : X.calm = true) (h : PGs X es (tOfGs X.K r S)) (hl : ∀ t xs Δ Δ', r t xs Δ = some Δ' → xs.length = es.length)
    (hn : (assignEach es X.env).length = es.length) (hst : (assignEach es X.env).findIdx? (·.1) = none) : PG X (.Tuple es k pos) (tOfG X.K (gTp r) S) := by
  refine pg_imp (pg_tup hc h hn hst) fun v σ H Q ⟨Z, φ, Δ, M, t, d, Δ', R, hd, h, q⟩ => ?_
  unfold gTp at h
  split at h
  · cases hd with
    | tup h1 h2 => exact ⟨_, _, rfl, (tupU (sq_t fz_sub h1)).sq, by rw [dpa_length h2]; exact hl _ _ _ _ h, Z, φ, Δ, M, _, _, Δ', R, h2, h, q⟩
  · cases h
end
/-! ### what is walked -/
def Walks (K : PySem.W.Frag) (t : Bool) (J : It) (F : Hp) (xs : List PD) : Prop := ∀ (Z : Addr → Prop) (φ : List Addr) (M : MS) (H : Hp), Mem K Z H φ M → Same F (Fz Z φ M H) →
  (∀ (i : Nat) (x : PD), xs[i]? = some x → J.go i H ∧ ∀ v H', J.yld i H v H' → Ext Z φ M H φ M H' ∧ Mem K Z H' φ M ∧ Dq (kk t K) (Fz Z φ M H') v x) ∧ (∀ i : Nat, xs.length ≤ i → J.stop i H)
def tOfI (K : PySem.W.Frag) (m : Sm (Bool × List PD)) : TI := fun σ H R => ∃ Z φ Δ M t xs M', Rep K Z σ H φ Δ M ∧ m Δ M = some ((t, xs), M') ∧ ∀ J φ' H', Ext Z φ M H φ' M' H' → Mem K Z H' φ' M' → Walks K t J (Fz Z φ' M' H') xs → R J H'
/-- what a list or tuple walks as; a list at a place stands still from here on -/
def fzQ : W → MS → Option ((Bool × List PD) × MS)
  | .d t (.tuple xs), M => some ((t, xs), M)
  | .d t (.list xs), M => some ((t, xs), M)
  | .loc n, M => match M[n]? with
    | some (.lst t xs) => some ((t, xs), M.set n (.fzn t xs))
    | some (.fzn t xs) => some ((t, xs), M)
    | _ => none
  | .s xs, M => some ((true, xs), M)
  | _, _ => none
def mItems (a : Sm W) : Sm (Bool × List PD) := fun Δ M => match a Δ M with
  | some (w, M1) => fzQ w M1
  | none => none
section
variable {K : PySem.W.Frag} {Z : Addr → Prop} {H : Hp} {φ : List Addr} {M M' : MS}
theorem rd_mono {F F' : Hp} {a : Addr} {u : HO} (e : Same F F') (h : Rd F a u) : Rd F' a u := h.elim (fun h => .inl (e _ _ h)) fun ⟨o, h⟩ => .inr ⟨o, e _ _ h⟩
theorem walks_l {t : Bool} {F : Hp} {a : Addr} {vs : List V} {xs : List PD} (ha : SqL K F a vs) (hd : DqAll (kk t K) F vs xs) : Walks K t (Itl K a) F xs := by
  intro Z φ M H m s
  have hs : SqL K H a vs := sq_l (same_tr s fz_sub) ha
  refine ⟨fun i x hx => ?_, fun i hi => ⟨vs, hs, by rw [dpa_length hd]; exact hi⟩⟩
  obtain ⟨v, hv, dv⟩ := dpa_getD hd hx
  refine ⟨⟨vs, v, hs, hv⟩, fun u H' ⟨e, hu⟩ => ?_⟩
  subst e
  have : u = v := Option.some.inj ((hu vs hs).symm.trans hv)
  subst this
  exact ⟨Ext.refl, m, dp_mono s _ dv⟩
theorem walks_t {t : Bool} {F : Hp} {a : Addr} {vs : List V} {xs : List PD} (ha : TupR K F a vs) (hd : DqAll (kk t K) F vs xs) : Walks K t (Itt K a) F xs := by
  intro Z φ M H m s
  have hs : SqT K H a vs := (sq_t (same_tr s fz_sub) ha).sq
  refine ⟨fun i x hx => ?_, fun i hi => ⟨vs, hs, by rw [dpa_length hd]; exact hi⟩⟩
  obtain ⟨v, hv, dv⟩ := dpa_getD hd hx
  refine ⟨⟨vs, v, hs, hv⟩, fun u H' ⟨e, hu⟩ => ?_⟩
  subst e
  have : u = v := Option.some.inj ((hu vs hs).symm.trans hv)
  subst this
  exact ⟨Ext.refl, m, dp_mono s _ dv⟩
def rangeD (lo : Int) (n : Nat) : List PD := (List.range n).map fun (i : Nat) => PyData.int (lo + (i : Int))
theorem walks_r {F : Hp} (lo : Int) (n : Nat) : Walks K true (Itr lo n) F (rangeD lo n) := by
  intro Z φ M H m s
  refine ⟨fun i x hx => ?_, fun i hi => by
    have : n ≤ i := by simpa [rangeD] using hi
    exact this⟩
  unfold rangeD at hx
  rw [List.getElem?_map] at hx
  by_cases hi : i < n
  · rw [List.getElem?_range hi] at hx
    cases hx
    refine ⟨hi, fun v H' ⟨e, ev⟩ => ?_⟩
    subst e
    subst ev
    exact ⟨Ext.refl, m, .int _⟩
  · rw [List.getElem?_eq_none (by simpa using hi)] at hx
    cases hx
end
def mRange1 (a : Sm (List W)) : Sm (Bool × List PD) := fun Δ M => match a Δ M with
  | some ([.d _ (.int j)], M1) => if -(2 ^ 62) ≤ j ∧ j < 2 ^ 62 then some ((true, rangeD 0 j.toNat), M1) else none
  | _ => none
def mRange2 (a : Sm (List W)) : Sm (Bool × List PD) := fun Δ M => match a Δ M with
  | some ([.d _ (.int i), .d _ (.int j)], M1) => if -(2 ^ 62) ≤ i ∧ i < 2 ^ 62 ∧ -(2 ^ 62) ≤ j ∧ j < 2 ^ 62 then some ((true, rangeD i (j - i).toNat), M1) else none
  | _ => none
section
variable {X : Cx} {tg l a b e : Expr} {p pos : Pos}
theorem pi_imp {w w' : TI} (h : PI X tg l w) (i : ∀ σ H R, w' σ H R → w σ H R) : PI X tg l w' := ⟨fun pins s σ H R I q => h.run pins s σ H R I (i σ H R q)⟩
theorem pi_or {w w' : TI} (h : PI X tg l w) (h' : PI X tg l w') : PI X tg l (fun σ H R => w σ H R ∨ w' σ H R) := ⟨fun pins s σ H R I q => q.elim (fun q => h.run pins s σ H R I q) fun q => h'.run pins s σ H R I q⟩
theorem pi_mitems {m : Sm W} (hl : PE X l (tOf X.K m)) : PI X tg l (tOfI X.K (mItems m)) := by
  refine pi_imp (pi_or (pi_list hl) (pi_tup hl)) fun σ H Q ⟨Z, φ, Δ, M, t, xs, M', R, h, q⟩ => ?_
  unfold mItems at h
  split at h
  · rename_i w M1 hx
    by_cases ht : ∃ s ys, w = .d s (.tuple ys)
    · obtain ⟨s, ys, rfl⟩ := ht
      refine .inr ⟨Z, φ, Δ, M, _, M1, R, hx, fun v φ1 H1 e1 m1 r1 => ?_⟩
      cases h
      cases r1 with
      | tup h1 h2 => exact ⟨_, rfl, ⟨_, (tupU (sq_t fz_sub h1)).sq⟩, q _ φ1 H1 e1 m1 (walks_t (tupU h1) h2)⟩
    · refine .inl ⟨Z, φ, Δ, M, _, M1, R, hx, fun v φ1 H1 e1 m1 r1 => ?_⟩
      have hl : ∃ a vs, v = .ref a ∧ Ext Z φ1 M1 H1 φ1 M' H1 ∧ Mem X.K Z H1 φ1 M' ∧ SqL X.K (Fz Z φ1 M' H1) a vs ∧ DqAll (kk t X.K) (Fz Z φ1 M' H1) vs xs := by
        unfold fzQ at h
        split at h
        · exact absurd ⟨_, _, rfl⟩ ht
        · cases h
          cases r1 with
          | lst h1 h2 => exact ⟨_, _, rfl, Ext.refl, m1, .inl (.inl h1), h2⟩
        · obtain ⟨a, ha, rfl⟩ := r1
          split at h
          · rename_i s ys hy
            cases h
            obtain ⟨e, m', d⟩ := m1.freeze hy ha
            cases d with
            | lst h1 h2 => exact ⟨a, _, rfl, e, m', .inl (.inl h1), h2⟩
          · rename_i ys hy
            cases h
            obtain ⟨vs, hv, hd⟩ := m1.obj _ _ _ ha hy
            exact ⟨a, _, rfl, Ext.refl, m1, .inl (.inl hv), hd⟩
          · cases h
        · cases h
          obtain ⟨a, vs, rfl, h1, h2⟩ := r1
          exact ⟨a, vs, rfl, Ext.refl, m1, h1, h2⟩
        · cases h
      obtain ⟨a, vs, rfl, e2, m2, hr, hd⟩ := hl
      exact ⟨a, rfl, ⟨vs, sq_l fz_sub hr⟩, q _ φ1 H1 (e1.trans e2) m2 (walks_l hr hd)⟩
  · cases h
theorem pi_mrange1 {ms : Sm (List W)} (hg : Gl X "range") (hm : X.mg "range" = none) (ha : PA X [a] (tOfA X.K ms)) (hs : starEach [a] X.env = [(false, eval a X.env)]) : PI X tg (.Call (.Name "range" p) [a] [] pos) (tOfI X.K (mRange1 ms)) := by
  refine pi_imp (pi_range1 hg hm ha hs) fun σ H Q ⟨Z, φ, Δ, M, t, xs, M', R, h, q⟩ => ?_
  unfold mRange1 at h
  split at h
  · rename_i s j M1 hx
    split at h
    · rename_i hc
      cases h
      refine ⟨Z, φ, Δ, M, _, _, R, hx, fun vs φ1 H1 e1 m1 r1 => ?_⟩
      obtain ⟨v, rfl, rv⟩ := rws1 r1
      cases rv
      exact ⟨j, rfl, hc.1, hc.2, q _ φ1 H1 e1 m1 (walks_r 0 _)⟩
    · cases h
  · cases h
theorem pi_mrange2 {ms : Sm (List W)} (hg : Gl X "range") (hm : X.mg "range" = none) (ha : PA X [a, b] (tOfA X.K ms)) (hs : starEach [a, b] X.env = [(false, eval a X.env), (false, eval b X.env)]) (hs2 : starEach [b] X.env = [(false, eval b X.env)]) : PI X tg (.Call (.Name "range" p) [a, b] [] pos) (tOfI X.K (mRange2 ms)) := by
  refine pi_imp (pi_range2 hg hm ha hs hs2) fun σ H Q ⟨Z, φ, Δ, M, t, xs, M', R, h, q⟩ => ?_
  unfold mRange2 at h
  split at h
  · rename_i s i s2 j M1 hx
    split at h
    · rename_i hc
      cases h
      refine ⟨Z, φ, Δ, M, _, _, R, hx, fun vs φ1 H1 e1 m1 r1 => ?_⟩
      obtain ⟨v, u, rfl, rv, ru⟩ := rws2 r1
      cases rv
      cases ru
      exact ⟨i, j, rfl, hc, q _ φ1 H1 e1 m1 (walks_r i _)⟩
    · cases h
  · cases h
end
/-! ### comprehensions -/
def wipeD (Δ : Sl) : List Nat → Sl
  | [] => Δ
  | v :: vs => (wipeD Δ vs).set v none
theorem wipeD_length (Δ : Sl) : ∀ vs : List Nat, (wipeD Δ vs).length = Δ.length
  | [] => rfl
  | v :: vs => by unfold wipeD; rw [List.length_set, wipeD_length Δ vs]
theorem wipe_get {σ : L2.St} {j : Nat} : ∀ {vs : List Nat}, j ∉ vs → (wipe σ vs)[j]? = σ[j]?
  | [], _ => rfl
  | v :: vs, h => by
    unfold wipe
    rw [List.getElem?_set_ne (fun e => h (by simp [e]))]
    exact wipe_get fun z => h (List.mem_cons_of_mem _ z)
theorem wipe_in {σ : L2.St} {j : Nat} : ∀ {vs : List Nat}, j ∈ vs → j < σ.length → (wipe σ vs)[j]? = some none
  | v :: vs, h, hl => by
    unfold wipe
    by_cases e : v = j
    · subst e
      rw [List.getElem?_set_self (by rw [wipe_length]; exact hl)]
    · rw [List.getElem?_set_ne e]
      exact wipe_in ((List.mem_cons.mp h).resolve_left fun z => e z.symm) hl
theorem wipeD_get {Δ : Sl} {j : Nat} {w : W} : ∀ {vs : List Nat}, (wipeD Δ vs)[j]? = some (some w) → Δ[j]? = some (some w) ∧ j ∉ vs
  | [], h => ⟨h, by simp⟩
  | v :: vs, h => by
    unfold wipeD at h
    by_cases hi : v = j
    · subst hi
      by_cases hv : v < (wipeD Δ vs).length
      · rw [List.getElem?_set_self hv] at h; cases h
      · rw [List.getElem?_eq_none (by simpa using hv)] at h; cases h
    · rw [List.getElem?_set_ne hi] at h
      obtain ⟨h1, h2⟩ := wipeD_get h
      exact ⟨h1, by simp only [List.mem_cons, not_or]; exact ⟨fun e => hi e.symm, h2⟩⟩
theorem wipe_only {σ σ' : L2.St} {S vs : List Nat} (hS : ∀ i ∈ S, i ∈ vs) (o : Only S (wipe σ vs) σ') : wipe σ' vs = wipe σ vs := by
  apply List.ext_getElem?
  intro j
  have hl : σ'.length = σ.length := by rw [o.1, wipe_length]
  by_cases hj : j ∈ vs
  · by_cases hlt : j < σ.length
    · rw [wipe_in hj hlt, wipe_in hj (by rw [hl]; exact hlt)]
    · rw [List.getElem?_eq_none (by rw [wipe_length, hl]; exact Nat.le_of_not_lt hlt), List.getElem?_eq_none (by rw [wipe_length]; exact Nat.le_of_not_lt hlt)]
  · rw [wipe_get hj]
    exact o.2 j fun z => hj (hS j z)
theorem Rep.wipe {K : PySem.W.Frag} {Z : Addr → Prop} {σ : L2.St} {H : Hp} {φ : List Addr} {Δ : Sl} {M : MS} (R : Rep K Z σ H φ Δ M) (vs : List Nat) : Rep K Z (L2.wipe σ vs) H φ (wipeD Δ vs) M := by
  refine ⟨R.mem, by rw [wipeD_length, wipe_length]; exact R.len, fun j w h => ?_⟩
  obtain ⟨h1, h2⟩ := wipeD_get h
  obtain ⟨v, h3, h4⟩ := R.sl j w h1
  exact ⟨v, by rw [wipe_get h2]; exact h3, h4⟩
def tTrue : Sm Bool := fun _ M => some (true, M)
def lcGo (t : Bool) (g : Tg) (tt : Sm Bool) (te : Sm W) (Δ : Sl) : List PD → MS → Option ((Bool × List PD) × MS)
  | [], M => some ((true, []), M)
  | x :: xs, M => match g t x Δ with
    | some Δ1 => (match tt Δ1 M with
      | some (true, M1) => (match te Δ1 M1 with
        | some (w, M2) => (match fz1 w M2 with
          | some (s, y, M3) => (match lcGo t g tt te Δ xs M3 with
            | some ((r, ys), M4) => some ((s && r, y :: ys), M4)
            | none => none)
          | none => none)
        | none => none)
      | some (false, M1) => lcGo t g tt te Δ xs M1
      | none => none)
    | none => none
def mLc (it : Sm (Bool × List PD)) (g : Tg) (tt : Sm Bool) (te : Sm W) (vs : List Nat) : Sm (Bool × List PD) := fun Δ M => match it Δ M with
  | some ((t, xs), M1) => if xs.length ≤ 100000 then lcGo t g tt te (wipeD Δ vs) xs M1 else none
  | none => none
theorem tLc_of {K : PySem.W.Frag} {it : Sm (Bool × List PD)} {g : Tg} {S : List Nat} {tt : Sm Bool} {te : Sm W} {vs : List Nat} (hS : ∀ i ∈ S, i ∈ vs) :
    ∀ σ H Q, tOfN K (mLc it g tt te vs) σ H Q → tLc (tOfI K it) (tOfG K g S) (tOfT K tt) (tOf K te) vs σ H Q := by
  intro σ H Q ⟨Z, φ, Δ, M, tr, ys, M', R, h, q⟩
  unfold mLc at h
  split at h
  · rename_i tx xs M1 hx
    split at h
    · rename_i hlen
      refine ⟨Z, φ, Δ, M, tx, xs, M1, R, hx, fun J φ1 H1 e1 m1 wk D hD => ?_⟩
      have R1 := R.step e1 m1
      obtain ⟨fD1, fD2, fD3⟩ := m1.fresh hD
      refine ⟨fun i m H => m = xs.length - i ∧ i ≤ xs.length ∧ ∃ φi Mi accV ta acc tz rest, (∃ t, φi = φ1 ++ t) ∧ Mem K (hid Z D) H φi Mi ∧ (∀ a, a ∈ φi → a ∈ φ1 ∨ ¬ hid Z D a) ∧ H D = some (.lst accV) ∧ accV.length ≤ i ∧ DqAll (kk ta K) (Fz (hid Z D) φi Mi H) accV acc ∧
        lcGo tx g tt te (wipeD Δ vs) (xs.drop i) Mi = some ((tz, rest), M') ∧ tr = (ta && tz) ∧ ys = acc ++ rest ∧ Same (Fz Z φ1 M1 H1) (Fz (hid Z D) φi Mi H) ∧ (∀ z, Z z → H z = H1 z), ⟨xs.length, ?_⟩, ?_⟩
      · obtain ⟨hf, hm⟩ := m1.hide hD (.lst [])
        refine ⟨rfl, Nat.zero_le _, φ1, M1, [], true, [], tr, ys, ⟨[], by simp⟩, hm, fun _ h => .inl h, upd_same, Nat.le_refl _, .nil, h, rfl, rfl, by rw [hf]; exact same_refl _, fun z hz => upd_ne fun e => fD2 (e ▸ hz)⟩
      · rintro i m H2 ⟨rfl, hi, φi, Mi, accV, ta, acc, tz, rest, ⟨t, ht⟩, mi, nD, hDv, hacc, dacc, hgo, htr, hys, sm, hz⟩
        have wi := wk (hid Z D) φi Mi H2 mi sm
        by_cases hlt : i < xs.length
        · have hxi : xs[i]? = some xs[i] := List.getElem?_eq_getElem hlt
          obtain ⟨go, yl⟩ := wi.1 i xs[i] hxi
          refine .inr ⟨go, fun H' => ∃ φi Mi accV ta acc tz rest, (∃ t, φi = φ1 ++ t) ∧ Mem K (hid Z D) H' φi Mi ∧ (∀ a, a ∈ φi → a ∈ φ1 ∨ ¬ hid Z D a) ∧ H' D = some (.lst accV) ∧ accV.length ≤ i + 1 ∧ DqAll (kk ta K) (Fz (hid Z D) φi Mi H') accV acc ∧
            lcGo tx g tt te (wipeD Δ vs) (xs.drop (i + 1)) Mi = some ((tz, rest), M') ∧ tr = (ta && tz) ∧ ys = acc ++ rest ∧ Same (Fz Z φ1 M1 H1) (Fz (hid Z D) φi Mi H') ∧ (∀ z, Z z → H' z = H1 z), fun H' hN => ⟨xs.length - (i + 1), by omega, rfl, hlt, hN⟩, fun v H' hy => ?_⟩
          obtain ⟨ey, my, dy⟩ := yl v H' hy
          rw [List.drop_eq_getElem_cons hlt] at hgo
          unfold lcGo at hgo
          -- the slots at this turn
          have Ri : Rep K (hid Z D) (L2.wipe σ vs) H' φi (wipeD Δ vs) Mi := by
            refine Rep.wipe ⟨my, R.len, fun j w hj => ?_⟩ vs
            obtain ⟨u, h1, h2⟩ := R1.sl j w hj
            exact ⟨u, h1, rw_mono (same_tr sm ey.fz) ⟨t, ht⟩ h2⟩
          split at hgo
          · rename_i Δ1 hg
            refine ⟨hid Z D, φi, wipeD Δ vs, Mi, tx, xs[i], Δ1, Ri, dy, hg, fun σ2 o2 R2 => ⟨wipe_only hS o2, ?_⟩⟩
            have hD' : H' D = some (.lst accV) := (ey.z D (.inr rfl)).trans hDv
            have dacc' := dpa_mono ey.fz _ dacc
            have sm' := same_tr sm ey.fz
            have hz' : ∀ z, Z z → H' z = H1 z := fun z zz => (ey.z z (.inl zz)).trans (hz z zz)
            split at hgo
            · rename_i M2 htt
              refine ⟨hid Z D, φi, Δ1, Mi, true, M2, R2, htt, fun φ3 H3 e3 m3 => ?_⟩
              simp only [if_true]
              split at hgo
              · rename_i w M3 hte
                split at hgo
                · rename_i ty y M4 hfz
                  split at hgo
                  · rename_i tq ys' M5 hrest
                    cases hgo
                    refine ⟨hid Z D, φ3, Δ1, M2, w, M3, R2.step e3 m3, hte, fun u φ4 H4 e4 m4 r4 => ?_⟩
                    obtain ⟨e5, m5, d5⟩ := fz1_ok m4 r4 hfz
                    have e35 := e3.trans (e4.trans e5)
                    obtain ⟨t3, ht3⟩ := e3.pre
                    obtain ⟨t4, ht4⟩ := e4.pre
                    have n4' : ∀ a, a ∈ φ4 → a ∈ φ1 ∨ ¬ hid Z D a := fun a ha => ((e3.trans e4).nz a ha).elim (nD a) .inr
                    have n4 : ∀ j : Nat, φ4[j]? ≠ some D := fun j hj => (n4' D (List.mem_of_getElem? hj)).elim fD1 fun z => z (.inr rfl)
                    have hD4 : H4 D = some (.lst accV) := ((e3.trans e4).z D (.inr rfl)).trans hD'
                    obtain ⟨hf, mt⟩ := m5.turn (D := D) (.inr rfl) n4 (.lst (accV ++ [u]))
                    refine ⟨accV, hD4, Nat.lt_of_le_of_lt hacc (Nat.lt_of_lt_of_le hlt (Nat.le_trans hlen (by decide))), φ4, M4, accV ++ [u], ta && ty, acc ++ [y], tq, ys', ⟨t ++ t3 ++ t4, by rw [ht4, ht3, ht]; simp⟩, mt, n4', upd_same, by simp; omega, ?_, hrest, by rw [htr, Bool.and_assoc], by rw [hys]; simp, ?_, fun z zz => ?_⟩
                    · rw [hf]
                      exact dpa_append (kkLs _ (dpa_mono e35.fz _ dacc')) (dpa_one (kkR _ d5))
                    · rw [hf]
                      exact same_tr sm' e35.fz
                    · have hne : z ≠ D := fun e => fD2 (e ▸ zz)
                      rw [upd_ne hne]
                      exact ((e3.trans e4).z z (.inl zz)).trans (hz' z zz)
                  · cases hgo
                · cases hgo
              · cases hgo
            · rename_i M2 htt
              refine ⟨hid Z D, φi, Δ1, Mi, false, M2, R2, htt, fun φ3 H3 e3 m3 => ?_⟩
              simp only [Bool.false_eq_true, if_false]
              obtain ⟨t3, ht3⟩ := e3.pre
              refine ⟨φ3, M2, accV, ta, acc, tz, rest, ⟨t ++ t3, by rw [ht3, ht]; simp⟩, m3, fun a ha => (e3.nz a ha).elim (nD a) .inr, (e3.z D (.inr rfl)).trans hD', by omega, dpa_mono e3.fz _ dacc', hgo, htr, hys, same_tr sm' e3.fz, fun z zz => (e3.z z (.inl zz)).trans (hz' z zz)⟩
            · cases hgo
          · cases hgo
        · have e : i = xs.length := by omega
          subst e
          refine .inl ⟨wi.2 _ (Nat.le_refl _), ?_⟩
          rw [List.drop_length] at hgo
          cases hgo
          rw [List.append_nil] at hys
          rw [Bool.and_true] at htr
          subst hys
          subst htr
          have nD' : ∀ j : Nat, φi[j]? ≠ some D := fun j hj => (nD D (List.mem_of_getElem? hj)).elim fD1 fun z => z (.inr rfl)
          obtain ⟨hf, mu⟩ := mi.unhide fD2 nD' hDv dacc
          obtain ⟨t1, ht1⟩ := e1.pre
          refine q D φi H2 ⟨t1 ++ t, by rw [ht, ht1]; simp⟩ ⟨by rw [hf]; exact same_tr e1.fz sm, fun z zz => (hz z zz).trans (e1.z z zz), ⟨t1 ++ t ++ [D], by rw [ht, ht1]; simp⟩, fun a ha => ?_⟩ mu
          rcases List.mem_append.mp ha with ha | ha
          · exact (nD a ha).elim (e1.nz a) fun z => .inr fun zz => z (.inl zz)
          · rw [List.mem_singleton.mp ha]
            exact .inr fD2
    · cases h
  · cases h
end Ek

/-! Ek6: statements -/
namespace Ek
open PySem PySem.Spec PyProof.Rows L2
inductive Fl where
  | nx | rt (w : W) | bk | ct
abbrev Ss := Sl → MS → Option (Fl × Sl × MS)
def PostS (K : PySem.W.Frag) (Z : Addr → Prop) (φ : List Addr) (M : MS) (H : Hp) (D : Ends) (Δ' : Sl) (M' : MS) : Fl → Prop
  | .nx => ∀ σ' φ' H', Ext Z φ M H φ' M' H' → Rep K Z σ' H' φ' Δ' M' → D.nx σ' H'
  | .bk => ∀ σ' φ' H', Ext Z φ M H φ' M' H' → Rep K Z σ' H' φ' Δ' M' → D.bk σ' H'
  | .ct => ∀ σ' φ' H', Ext Z φ M H φ' M' H' → Rep K Z σ' H' φ' Δ' M' → D.ct σ' H'
  | .rt w => PostE K Z φ M H w M' D.rt
def tOfS (K : PySem.W.Frag) (m : Ss) : TS := fun D σ H => ∃ Z φ Δ M f Δ' M', Rep K Z σ H φ Δ M ∧ m Δ M = some (f, Δ', M') ∧ PostS K Z φ M H D Δ' M' f
section
variable {K : PySem.W.Frag} {Z : Addr → Prop} {φ φ1 : List Addr} {M M1 M' : MS} {H H1 : Hp} {D : Ends} {Δ' : Sl}
theorem PostS.step {f : Fl} (q : PostS K Z φ M H D Δ' M' f) (e : Ext Z φ M H φ1 M1 H1) : PostS K Z φ1 M1 H1 D Δ' M' f := by
  cases f with
  | nx => exact fun σ' φ' H' e' R => q σ' φ' H' (e.trans e') R
  | bk => exact fun σ' φ' H' e' R => q σ' φ' H' (e.trans e') R
  | ct => exact fun σ' φ' H' e' R => q σ' φ' H' (e.trans e') R
  | rt w => exact PostE.step q e
theorem PostS.ends {D' : Ends} {f : Fl} (q : PostS K Z φ M H D Δ' M' f) (h1 : f = .nx → D.nx = D'.nx) (h2 : D.rt = D'.rt) (h3 : D.bk = D'.bk) (h4 : D.ct = D'.ct) : PostS K Z φ M H D' Δ' M' f := by
  cases f with
  | nx => exact fun σ' φ' H' e' R => (h1 rfl) ▸ q σ' φ' H' e' R
  | bk => exact fun σ' φ' H' e' R => h3 ▸ q σ' φ' H' e' R
  | ct => exact fun σ' φ' H' e' R => h4 ▸ q σ' φ' H' e' R
  | rt w => exact fun v φ' H' e' m r => h2 ▸ q v φ' H' e' m r
end
/-! ### the data side -/
def sNo : Ss := fun _ _ => none
def sNext : Ss := fun Δ M => some (.nx, Δ, M)
def sBreak : Ss := fun Δ M => some (.bk, Δ, M)
def sCont : Ss := fun Δ M => some (.ct, Δ, M)
def sSeq (a b : Ss) : Ss := fun Δ M => match a Δ M with
  | some (.nx, Δ1, M1) => b Δ1 M1
  | some (.rt w, Δ1, M1) => some (.rt w, Δ1, M1)
  | some (.bk, Δ1, M1) => some (.bk, Δ1, M1)
  | some (.ct, Δ1, M1) => some (.ct, Δ1, M1)
  | none => none
/-- return e: a list at a place is let go | handed on -/
def sRet (e : Sm W) : Ss := fun Δ M => match e Δ M with
  | some (w, M1) => (match fz1 w M1 with
    | some (t, x, M2) => some (.rt (.d t x), Δ, M2)
    | none => none)
  | none => none
def sRetW (e : Sm W) : Ss := fun Δ M => match e Δ M with
  | some (w, M1) => some (.rt w, Δ, M1)
  | none => none
def sRetN : Ss := fun Δ M => some (.rt (.d true .none), Δ, M)
def sDrop (e : Sm W) : Ss := fun Δ M => match e Δ M with
  | some (_, M1) => some (.nx, Δ, M1)
  | none => none
def sIf (c : Sm Bool) (a b : Ss) : Ss := fun Δ M => match c Δ M with
  | some (k, M1) => if k = true then a Δ M1 else b Δ M1
  | none => none
def sSet (i : Nat) (e : Sm W) : Ss := fun Δ M => match e Δ M with
  | some (w, M1) => some (.nx, Δ.set i (some w), M1)
  | none => none
/-- targets that take a value apart -/
def sAsg (g : Tg) (e : Sm W) : Ss := fun Δ M => match e Δ M with
  | some (w, M1) => (match fz1 w M1 with
    | some (t, x, M2) => (match g t x Δ with
      | some Δ1 => some (.nx, Δ1, M2)
      | none => none)
    | none => none)
  | none => none
def sPar (i j : Nat) (a : Sm (List W)) : Ss := fun Δ M => match a Δ M with
  | some ([u, v], M1) => some (.nx, (Δ.set i (some u)).set j (some v), M1)
  | _ => none
def sPar3 (i j k : Nat) (a : Sm (List W)) : Ss := fun Δ M => match a Δ M with
  | some ([u, v, w], M1) => some (.nx, ((Δ.set i (some u)).set j (some v)).set k (some w), M1)
  | _ => none
def forGo (t : Bool) (g : Tg) (b : Ss) : List PD → Sl → MS → Option (Fl × Sl × MS)
  | [], Δ, M => some (.nx, Δ, M)
  | x :: xs, Δ, M => match g t x Δ with
    | some Δ1 => (match b Δ1 M with
      | some (.nx, Δ2, M2) => forGo t g b xs Δ2 M2
      | some (.ct, Δ2, M2) => forGo t g b xs Δ2 M2
      | some (.bk, Δ2, M2) => some (.nx, Δ2, M2)
      | some (.rt w, Δ2, M2) => some (.rt w, Δ2, M2)
      | none => none)
    | none => none
def sFor (it : Sm (Bool × List PD)) (g : Tg) (b : Ss) : Ss := fun Δ M => match it Δ M with
  | some ((t, xs), M1) => forGo t g b xs Δ M1
  | none => none
def whileN (c : Sm Bool) (b : Ss) : Nat → Ss
  | 0, _, _ => none
  | n + 1, Δ, M => match c Δ M with
    | some (true, M1) => (match b Δ M1 with
      | some (.nx, Δ2, M2) => whileN c b n Δ2 M2
      | some (.ct, Δ2, M2) => whileN c b n Δ2 M2
      | some (.bk, Δ2, M2) => some (.nx, Δ2, M2)
      | some (.rt w, Δ2, M2) => some (.rt w, Δ2, M2)
      | none => none)
    | some (false, M1) => some (.nx, Δ, M1)
    | none => none
theorem whileN_more (c : Sm Bool) (b : Ss) : ∀ (n : Nat) (Δ : Sl) (M : MS) (r : Fl × Sl × MS), whileN c b n Δ M = some r → whileN c b (n + 1) Δ M = some r
  | 0, _, _, _, h => by cases h
  | n + 1, Δ, M, r, h => by
    unfold whileN at h ⊢
    split at h
    · split at h
      · exact whileN_more c b n _ _ r h
      · exact whileN_more c b n _ _ r h
      · exact h
      · exact h
      · exact h
    · exact h
    · exact h
theorem whileN_le (c : Sm Bool) (b : Ss) {n m : Nat} (h : n ≤ m) {Δ : Sl} {M : MS} {r : Fl × Sl × MS} (q : whileN c b n Δ M = some r) : whileN c b m Δ M = some r := by
  induction h with
  | refl => exact q
  | step _ ih => exact whileN_more c b _ _ _ _ ih
open Classical in
noncomputable def sWhile (c : Sm Bool) (b : Ss) : Ss := fun Δ M => if h : ∃ n, (whileN c b n Δ M).isSome = true then whileN c b h.choose Δ M else none
theorem sWhile_of {c : Sm Bool} {b : Ss} {n : Nat} {Δ : Sl} {M : MS} {r : Fl × Sl × MS} (h : whileN c b n Δ M = some r) : sWhile c b Δ M = some r := by
  have he : ∃ n, (whileN c b n Δ M).isSome = true := ⟨n, by rw [h]; rfl⟩
  unfold sWhile
  rw [dif_pos he]
  obtain ⟨r', hr⟩ := Option.isSome_iff_exists.mp he.choose_spec
  have h1 := whileN_le c b (Nat.le_max_left n he.choose) h
  have h2 := whileN_le c b (Nat.le_max_right n he.choose) hr
  rw [hr, ← h2, h1]
theorem of_sWhile {c : Sm Bool} {b : Ss} {Δ : Sl} {M : MS} {r : Fl × Sl × MS} (h : sWhile c b Δ M = some r) : ∃ n, whileN c b n Δ M = some r := by
  unfold sWhile at h
  split at h
  · exact ⟨_, h⟩
  · cases h
section
variable {X : Cx} {a b c e : Expr} {st : Stmt} {sts : List Stmt} {pos : Pos}
theorem ps_imp {t t' : TS} (h : PS X st t) (i : ∀ D σ H, t' D σ H → t D σ H) : PS X st t' := ⟨fun pins s σ H D I q => h.run pins s σ H D I (i D σ H q)⟩
theorem pss_imp {t t' : TS} (h : PSs X sts t) (i : ∀ D σ H, t' D σ H → t D σ H) : PSs X sts t' := ⟨fun pins s σ H D I q => h.run pins s σ H D I (i D σ H q)⟩
theorem ps_no : PS X st (tOfS X.K sNo) := ⟨fun pins s σ H D I ⟨_, _, _, _, _, _, _, _, h, _⟩ => by cases h⟩
theorem pss_mnil : PSs X [] (tOfS X.K sNext) := by
  refine pss_imp pss_nil fun D σ H ⟨Z, φ, Δ, M, f, Δ', M', R, h, q⟩ => ?_
  cases h
  exact q σ φ H Ext.refl R
theorem pss_mcons {m n : Ss} (h1 : PS X st (tOfS X.K m)) (h2 : PSs X sts (tOfS X.K n)) : PSs X (st :: sts) (tOfS X.K (sSeq m n)) := by
  refine pss_imp (pss_cons h1 h2) fun D σ H ⟨Z, φ, Δ, M, f, Δ', M', R, h, q⟩ => ?_
  unfold sSeq at h
  split at h
  · rename_i Δ1 M1 hm
    exact ⟨Z, φ, Δ, M, _, Δ1, M1, R, hm, fun σ1 φ1 H1 e1 R1 => ⟨Z, φ1, Δ1, M1, f, Δ', M', R1, h, q.step e1⟩⟩
  · rename_i w Δ1 M1 hm
    cases h
    exact ⟨Z, φ, Δ, M, _, Δ', M', R, hm, q⟩
  · rename_i Δ1 M1 hm
    cases h
    exact ⟨Z, φ, Δ, M, _, Δ', M', R, hm, q⟩
  · rename_i Δ1 M1 hm
    cases h
    exact ⟨Z, φ, Δ, M, _, Δ', M', R, hm, q⟩
  · cases h
theorem ps_mpass : PS X (.Pass pos) (tOfS X.K sNext) := ps_imp ps_pass fun D σ H ⟨Z, φ, Δ, M, f, Δ', M', R, h, q⟩ => by cases h; exact q σ φ H Ext.refl R
theorem ps_mbreak : PS X (.Break pos) (tOfS X.K sBreak) := ps_imp ps_break fun D σ H ⟨Z, φ, Δ, M, f, Δ', M', R, h, q⟩ => by cases h; exact q σ φ H Ext.refl R
theorem ps_mcont : PS X (.Continue pos) (tOfS X.K sCont) := ps_imp ps_continue fun D σ H ⟨Z, φ, Δ, M, f, Δ', M', R, h, q⟩ => by cases h; exact q σ φ H Ext.refl R
theorem ps_mretN : PS X (.Return none pos) (tOfS X.K sRetN) := ps_imp ps_retN fun D σ H ⟨Z, φ, Δ, M, f, Δ', M', R, h, q⟩ => by cases h; exact q _ φ H Ext.refl R.mem .non
theorem ps_mret {m : Sm W} (he : PE X e (tOf X.K m)) : PS X (.Return (some e) pos) (tOfS X.K (sRet m)) := by
  refine ps_imp (ps_ret he) fun D σ H ⟨Z, φ, Δ, M, f, Δ', M', R, h, q⟩ => ?_
  unfold sRet at h
  split at h
  · rename_i w M1 hm
    split at h
    · rename_i t x M2 hf
      cases h
      refine ⟨Z, φ, Δ, M, w, M1, R, hm, fun v φ1 H1 e1 m1 r1 => ?_⟩
      obtain ⟨e2, m2, d2⟩ := fz1_ok m1 r1 hf
      exact q v φ1 H1 (e1.trans e2) m2 d2
    · cases h
  · cases h
theorem ps_mretW {m : Sm W} (he : PE X e (tOf X.K m)) : PS X (.Return (some e) pos) (tOfS X.K (sRetW m)) := by
  refine ps_imp (ps_ret he) fun D σ H ⟨Z, φ, Δ, M, f, Δ', M', R, h, q⟩ => ?_
  unfold sRetW at h
  split at h
  · rename_i w M1 hm
    cases h
    exact ⟨Z, φ, Δ, M, w, _, R, hm, q⟩
  · cases h
theorem ps_mdrop {m : Sm W} (he : PE X e (tOf X.K m)) (hs : swapsWith e none pos.line X.env = pure false) : PS X (.Expr e pos) (tOfS X.K (sDrop m)) := by
  refine ps_imp (ps_expr he hs) fun D σ H ⟨Z, φ, Δ, M, f, Δ', M', R, h, q⟩ => ?_
  unfold sDrop at h
  split at h
  · rename_i w M1 hm
    cases h
    exact ⟨Z, φ, Δ, M, w, _, R, hm, fun v φ1 H1 e1 m1 r1 => q σ φ1 H1 e1 (R.step e1 m1)⟩
  · cases h
theorem ps_mif {A B : List Stmt} {mc : Sm Bool} {m n : Ss} (hc : PT X c (tOfT X.K mc)) (ha : PSs X A (tOfS X.K m)) (hb : PSs X B (tOfS X.K n)) : PS X (.If c A B pos) (tOfS X.K (sIf mc m n)) := by
  refine ps_imp (ps_if hc ha hb) fun D σ H ⟨Z, φ, Δ, M, f, Δ', M', R, h, q⟩ => ?_
  unfold sIf at h
  split at h
  · rename_i k M1 hm
    refine ⟨Z, φ, Δ, M, k, M1, R, hm, fun φ1 H1 e1 m1 => ?_⟩
    cases k with
    | true =>
      simp only [if_true] at h ⊢
      exact ⟨Z, φ1, Δ, M1, f, Δ', M', R.step e1 m1, h, q.step e1⟩
    | false =>
      simp only [Bool.false_eq_true, if_false] at h ⊢
      exact ⟨Z, φ1, Δ, M1, f, Δ', M', R.step e1 m1, h, q.step e1⟩
  · cases h
theorem tSet_of {K : PySem.W.Frag} {i : Nat} {m : Sm W} : ∀ D σ H, tOfS K (sSet i m) D σ H → tAsg (tOf K m) (gName i) D σ H := by
  intro D σ H ⟨Z, φ, Δ, M, f, Δ', M', R, h, q⟩
  unfold sSet at h
  split at h
  · rename_i w M1 hm
    cases h
    exact ⟨Z, φ, Δ, M, w, _, R, hm, fun v φ1 H1 e1 m1 r1 => q _ φ1 H1 e1 ((R.step e1 m1).set i r1)⟩
  · cases h
theorem tAsg_of {K : PySem.W.Frag} {g : Tg} {S : List Nat} {m : Sm W} : ∀ D σ H, tOfS K (sAsg g m) D σ H → tAsg (tOf K m) (tOfG K g S) D σ H := by
  intro D σ H ⟨Z, φ, Δ, M, f, Δ', M', R, h, q⟩
  unfold sAsg at h
  split at h
  · rename_i w M1 hm
    split at h
    · rename_i t x M2 hf
      split at h
      · rename_i Δ1 hg
        cases h
        refine ⟨Z, φ, Δ, M, w, M1, R, hm, fun v φ1 H1 e1 m1 r1 => ?_⟩
        obtain ⟨e2, m2, d2⟩ := fz1_ok m1 r1 hf
        exact ⟨Z, φ1, Δ, _, t, x, _, R.step (e1.trans e2) m2, d2, hg, fun σ' _ R' => q σ' φ1 H1 (e1.trans e2) R'⟩
      · cases h
    · cases h
  · cases h
theorem tPar_of {K : PySem.W.Frag} {i j : Nat} {m : Sm (List W)} : ∀ D σ H, tOfS K (sPar i j m) D σ H → tPar i j (tOfA K m) D σ H := by
  intro D σ H ⟨Z, φ, Δ, M, f, Δ', M', R, h, q⟩
  unfold sPar at h
  split at h
  · rename_i u v M1 hm
    cases h
    refine ⟨Z, φ, Δ, M, _, _, R, hm, fun vs φ1 H1 e1 m1 r1 => ?_⟩
    obtain ⟨x, y, rfl, rx, ry⟩ := rws2 r1
    exact ⟨x, y, rfl, q _ φ1 H1 e1 (((R.step e1 m1).set i rx).set j ry)⟩
  · cases h
theorem tPar3_of {K : PySem.W.Frag} {i j k : Nat} {m : Sm (List W)} : ∀ D σ H, tOfS K (sPar3 i j k m) D σ H → tPar3 i j k (tOfA K m) D σ H := by
  intro D σ H ⟨Z, φ, Δ, M, f, Δ', M', R, h, q⟩
  unfold sPar3 at h
  split at h
  · rename_i u v w M1 hm
    cases h
    refine ⟨Z, φ, Δ, M, _, _, R, hm, fun vs φ1 H1 e1 m1 r1 => ?_⟩
    cases r1 with
    | cons rx r1 =>
      obtain ⟨y, z, rfl, ry, rz⟩ := rws2 r1
      exact ⟨_, y, z, rfl, q _ φ1 H1 e1 ((((R.step e1 m1).set i rx).set j ry).set k rz)⟩
  · cases h
theorem tFor_of {K : PySem.W.Frag} {it : Sm (Bool × List PD)} {g : Tg} {S : List Nat} {b : Ss} : ∀ D σ H, tOfS K (sFor it g b) D σ H → tFor (tOfI K it) (tOfG K g S) (tOfS K b) D σ H := by
  intro D σ H ⟨Z, φ, Δ, M, f, Δ', M', R, h, q⟩
  unfold sFor at h
  split at h
  · rename_i tx xs M1 hx
    refine ⟨Z, φ, Δ, M, tx, xs, M1, R, hx, fun J φ1 H1 e1 m1 wk => ?_⟩
    refine ⟨fun i m σ2 H2 => m = xs.length - i ∧ i ≤ xs.length ∧ ∃ φ2 Δ2 M2, Rep K Z σ2 H2 φ2 Δ2 M2 ∧ Ext Z φ1 M1 H1 φ2 M2 H2 ∧ forGo tx g b (xs.drop i) Δ2 M2 = some (f, Δ', M'),
      ⟨xs.length, rfl, Nat.zero_le _, φ1, Δ, M1, R.step e1 m1, Ext.refl, h⟩, ?_⟩
    rintro i m σ2 H2 ⟨rfl, hi, φ2, Δ2, M2, R2, e2, hgo⟩
    have w2 := wk Z φ2 M2 H2 R2.mem e2.fz
    by_cases hlt : i < xs.length
    · have hxi : xs[i]? = some xs[i] := List.getElem?_eq_getElem hlt
      obtain ⟨go, yl⟩ := w2.1 i xs[i] hxi
      rw [List.drop_eq_getElem_cons hlt] at hgo
      unfold forGo at hgo
      refine .inr ⟨go, fun σ3 H3 => ∃ φ3 Δ3 M3, Rep K Z σ3 H3 φ3 Δ3 M3 ∧ Ext Z φ1 M1 H1 φ3 M3 H3 ∧ forGo tx g b (xs.drop (i + 1)) Δ3 M3 = some (f, Δ', M'), fun σ3 H3 hN => ⟨xs.length - (i + 1), by omega, rfl, hlt, hN⟩, fun v H3 hy => ?_⟩
      obtain ⟨ey, my, dy⟩ := yl v H3 hy
      split at hgo
      · rename_i Δ3 hg
        refine ⟨Z, φ2, Δ2, M2, tx, xs[i], Δ3, R2.step ey my, dy, hg, fun σ4 _ R4 => ?_⟩
        split at hgo
        · rename_i Δ5 M5 hb
          exact ⟨Z, φ2, Δ3, M2, _, Δ5, M5, R4, hb, fun σ5 φ5 H5 e5 R5 => ⟨φ5, Δ5, M5, R5, (e2.trans ey).trans e5, hgo⟩⟩
        · rename_i Δ5 M5 hb
          exact ⟨Z, φ2, Δ3, M2, _, Δ5, M5, R4, hb, fun σ5 φ5 H5 e5 R5 => ⟨φ5, Δ5, M5, R5, (e2.trans ey).trans e5, hgo⟩⟩
        · rename_i Δ5 M5 hb
          cases hgo
          exact ⟨Z, φ2, Δ3, M2, _, _, _, R4, hb, fun σ5 φ5 H5 e5 R5 => q σ5 φ5 H5 (((e1.trans e2).trans ey).trans e5) R5⟩
        · rename_i w Δ5 M5 hb
          cases hgo
          exact ⟨Z, φ2, Δ3, M2, _, _, _, R4, hb, fun v5 φ5 H5 e5 m5 r5 => q v5 φ5 H5 (((e1.trans e2).trans ey).trans e5) m5 r5⟩
        · cases hgo
      · cases hgo
    · have ei : i = xs.length := by omega
      subst ei
      rw [List.drop_length] at hgo
      cases hgo
      exact .inl ⟨w2.2 _ (Nat.le_refl _), q σ2 φ2 H2 (e1.trans e2) R2⟩
  · cases h
theorem tWhile_of {K : PySem.W.Frag} {c : Sm Bool} {b : Ss} : ∀ D σ H, tOfS K (sWhile c b) D σ H → tWhile (tOfT K c) (tOfS K b) D σ H := by
  intro D σ H ⟨Z, φ, Δ, M, f, Δ', M', R, h, q⟩
  obtain ⟨n, hn⟩ := of_sWhile h
  refine ⟨fun m σ2 H2 => ∃ φ2 Δ2 M2, Rep K Z σ2 H2 φ2 Δ2 M2 ∧ Ext Z φ M H φ2 M2 H2 ∧ whileN c b m Δ2 M2 = some (f, Δ', M'), ⟨n, φ, Δ, M, R, Ext.refl, hn⟩, ?_⟩
  rintro m σ2 H2 ⟨φ2, Δ2, M2, R2, e2, hw⟩
  cases m with
  | zero => cases hw
  | succ m =>
    unfold whileN at hw
    split at hw
    · rename_i M3 hc
      refine ⟨Z, φ2, Δ2, M2, true, M3, R2, hc, fun φ3 H3 e3 m3 => ?_⟩
      simp only [if_true]
      refine ⟨fun σ4 H4 => ∃ φ4 Δ4 M4, Rep K Z σ4 H4 φ4 Δ4 M4 ∧ Ext Z φ M H φ4 M4 H4 ∧ whileN c b m Δ4 M4 = some (f, Δ', M'), fun σ4 H4 hN => ⟨m, Nat.lt_succ_self m, hN⟩, ?_⟩
      have R3 := R2.step e3 m3
      split at hw
      · rename_i Δ5 M5 hb
        exact ⟨Z, φ3, Δ2, M3, _, Δ5, M5, R3, hb, fun σ5 φ5 H5 e5 R5 => ⟨φ5, Δ5, M5, R5, (e2.trans e3).trans e5, hw⟩⟩
      · rename_i Δ5 M5 hb
        exact ⟨Z, φ3, Δ2, M3, _, Δ5, M5, R3, hb, fun σ5 φ5 H5 e5 R5 => ⟨φ5, Δ5, M5, R5, (e2.trans e3).trans e5, hw⟩⟩
      · rename_i Δ5 M5 hb
        cases hw
        exact ⟨Z, φ3, Δ2, M3, _, _, _, R3, hb, fun σ5 φ5 H5 e5 R5 => q σ5 φ5 H5 ((e2.trans e3).trans e5) R5⟩
      · rename_i w Δ5 M5 hb
        cases hw
        exact ⟨Z, φ3, Δ2, M3, _, _, _, R3, hb, fun v5 φ5 H5 e5 m5 r5 => q v5 φ5 H5 ((e2.trans e3).trans e5) m5 r5⟩
      · cases hw
    · rename_i M3 hc
      cases hw
      refine ⟨Z, φ2, _, M2, false, _, R2, hc, fun φ3 H3 e3 m3 => ?_⟩
      simp only [Bool.false_eq_true, if_false]
      exact q σ2 φ3 H3 (e2.trans e3) (R2.step e3 m3)
    · cases hw
end
end Ek

/-! Ek7: further operations: slices, append, items stored; keywords -/
namespace Ek
open PySem PySem.Spec PyProof.Rows L2
/-! ### slices -/
def cutD (xs : List PD) (lo hi : Option Int) : List PD := (xs.drop (HT.sIx xs.length 0 lo)).take (HT.sIx xs.length xs.length hi - HT.sIx xs.length 0 lo)
theorem cut_dq {K : PySem.W.Frag} {H : Hp} {vs : List V} {ds : List PD} (h : DqAll K H vs ds) (lo hi : Option Int) : DqAll K H (cutV vs lo hi) (cutD ds lo hi) := by
  unfold cutV cutD
  rw [dpa_length h]
  exact dpa_take _ (dpa_drop _ h)
theorem cut_all {xs : List PD} {lo hi : Option Int} (h : HT.sIx xs.length 0 lo = 0 ∧ HT.sIx xs.length xs.length hi = xs.length) : cutD xs lo hi = xs := by
  unfold cutD
  rw [h.1, h.2]
  simp
/-- an end of a slice -/
def mPart : Option (Sm W) → Sm (Option Int)
  | none => fun _ M => some (none, M)
  | some m => fun Δ M => match m Δ M with
    | some (.d _ (.int i), M1) => some (some i, M1)
    | _ => none
def mSl (a : Sm W) (l h : Sm (Option Int)) : Sm W := fun Δ M => match a Δ M with
  | some (w, M1) => (match l Δ M1 with
    | some (lo, M2) => (match h Δ M2 with
      | some (hi, M3) => (match w with
        | .d t (.tuple xs) => some (.d t (.tuple (cutD xs lo hi)), M3)
        | _ => (match rdL w M3 with
          | some (t, xs) => some (.d t (.list (cutD xs lo hi)), M3)
          | none => none))
      | none => none)
    | none => none)
  | none => none
def mRev (a : Sm W) : Sm W := fun Δ M => match a Δ M with
  | some (w, M1) => (match rdL w M1 with
    | some (t, xs) => some (.d t (.list xs.reverse), M1)
    | none => none)
  | none => none
def tOfO (K : PySem.W.Frag) (m : Sm (Option Int)) : TO := fun σ H Q => ∃ Z φ Δ M o M', Rep K Z σ H φ Δ M ∧ m Δ M = some (o, M') ∧ ∀ φ' H', Ext Z φ M H φ' M' H' → Mem K Z H' φ' M' → Q o H'
theorem dpa_rev {K : PySem.W.Frag} {H : Hp} : ∀ {vs : List V} {ds : List PD}, DqAll K H vs ds → DqAll K H vs.reverse ds.reverse
  | _, [], h => by cases h; exact .nil
  | _, d :: ds, h => by
    cases h with
    | cons h1 h2 =>
      rw [List.reverse_cons, List.reverse_cons]
      exact dpa_append (dpa_rev h2) (dpa_one h1)
section
variable {X : Cx} {a b c e o : Expr} {es : List Expr} {p p1 p2 p3 pos : Pos} {x : Str}
theorem po_imp {oe : Option Expr} {t t' : TO} (h : PO X oe t) (i : ∀ σ H Q, t' σ H Q → t σ H Q) : PO X oe t' := ⟨fun pins s σ H Q I q => h.run pins s σ H Q I (i σ H Q q)⟩
theorem po_mnone : PO X none (tOfO X.K (mPart none)) := po_imp po_none fun σ H Q ⟨Z, φ, Δ, M, o, M', R, h, q⟩ => by cases h; exact q φ H Ext.refl R.mem
theorem po_msome {m : Sm W} (h : PE X e (tOf X.K m)) : PO X (some e) (tOfO X.K (mPart (some m))) := by
  refine po_imp (po_some h) fun σ H Q ⟨Z, φ, Δ, M, o, M', R, h, q⟩ => ?_
  simp only [mPart] at h
  split at h
  · rename_i t i M1 hx
    cases h
    refine ⟨Z, φ, Δ, M, _, _, R, hx, fun v φ1 H1 e1 m1 r1 => ?_⟩
    cases r1
    exact ⟨i, rfl, q φ1 H1 e1 m1⟩
  · cases h
theorem pe_msl {m : Sm W} {l h : Sm (Option Int)} {lo hi : Option Expr} (he : PE X e (tOf X.K m)) (hl : PO X lo (tOfO X.K l)) (hh : PO X hi (tOfO X.K h)) : PE X (.Subscript e (.Slice lo hi none p2) pos) (tOf X.K (mSl m l h)) := by
  refine pe_imp (pe_slice (sl_tupA.or sl_list) he hl hh) fun σ H Q ⟨Z, φ, Δ, M, w, M', R, h, q⟩ => ?_
  unfold mSl at h
  split at h
  · rename_i w1 M1 hx
    split at h
    · rename_i lo' M2 hlo
      split at h
      · rename_i hi' M3 hhi
        refine ⟨Z, φ, Δ, M, w1, M1, R, hx, fun v φ1 H1 e1 m1 r1 => ?_⟩
        have R1 := R.step e1 m1
        refine ⟨Z, φ1, Δ, M1, lo', M2, R1, hlo, fun φ2 H2 e2 m2 => ?_⟩
        have R2 := R1.step e2 m2
        refine ⟨Z, φ2, Δ, M2, hi', M3, R2, hhi, fun φ3 H3 e3 m3 => ?_⟩
        have r3 := r1.ext (e2.trans e3)
        have q3 := q.step ((e1.trans e2).trans e3)
        split at h
        · cases h
          cases r3 with
          | tup h1 h2 => exact .inl ⟨_, _, rfl, (tupU (sq_t fz_sub h1)).sq, fun hw => q3.same m3 (by
              rw [cut_all (by rw [← dpa_length h2]; exact hw)]
              exact .tup h1 h2), fun _ => q3.newT m3 (cut_dq h2 _ _)⟩
        · split at h
          · rename_i t xs hr
            cases h
            obtain ⟨a, vs, rfl, ha, hd⟩ := rdL_ok m3 r3 hr
            exact .inr ⟨a, vs, rfl, ha, q3.newL m3 (cut_dq hd _ _)⟩
          · cases h
      · cases h
    · cases h
  · cases h
theorem pe_mrev {m : Sm W} {k : Nat} (he : PE X e (tOf X.K m)) : PE X (.Subscript e (.Slice none none (some (.UnaryOp .USub (.Constant (.int 1) k p1) p2)) p3) pos) (tOf X.K (mRev m)) := by
  refine pe_imp (pe_revL he) fun σ H Q ⟨Z, φ, Δ, M, w, M', R, h, q⟩ => ?_
  unfold mRev at h
  split at h
  · rename_i w1 M1 hx
    split at h
    · rename_i t xs hr
      cases h
      refine ⟨Z, φ, Δ, M, w1, _, R, hx, fun v φ1 H1 e1 m1 r1 => ?_⟩
      obtain ⟨a, vs, rfl, ha, hd⟩ := rdL_ok m1 r1 hr
      exact ⟨a, vs, rfl, ha, (q.step e1).newL m1 (dpa_rev hd)⟩
    · cases h
  · cases h
/-! ### append -/
def mApp (o : Sm W) (e : Sm W) : Sm W := fun Δ M => match o Δ M with
  | some (.loc n, M1) => (match M1[n]? with
    | some (.lst _ _) => (match e Δ M1 with
      | some (w, M2) => (match fz1 w M2 with
        | some (s, x, M3) => (match M3[n]? with
          | some (.lst t xs) => if xs.length ≤ 100000 then some (.d true .none, M3.set n (.lst (t && s) (xs ++ [x]))) else none
          | _ => none)
        | none => none)
      | none => none)
    | _ => none)
  | _ => none
theorem pe_mapp {m n : Sm W} {apos cpos : Pos} (ho : PE X o (tOf X.K m)) (he : PE X e (tOf X.K n)) (hbase : attributeBase o "append" X.env (eval o X.env) = eval o X.env) (hs : starEach [e] X.env = [(false, eval e X.env)])
    (hline : (apos.endLine == cpos.line) = true) : PE X (.Call (.Attribute o "append" apos) [e] [] cpos) (tOf X.K (mApp m n)) := by
  have ha : PA X [e] (tOfA X.K (mArgs [n])) := pa_mcons he pa_mnil hs
  refine pe_imp (pe_bm PySem.F.plainAttrs_list PySem.F.slot_list_append PySem.F.type_list_append mt_append ho ha hbase (by rw [hs]; rfl) hline hs rfl) fun σ H Q ⟨Z, φ, Δ, M, w, M', R, h, q⟩ => ?_
  unfold mApp at h
  split at h
  · rename_i k M1 hx
    split at h
    · rename_i t0 xs0 h0
      split at h
      · rename_i w2 M2 hy
        split at h
        · rename_i s y M3 hf
          split at h
          · rename_i t xs hn
            split at h
            · rename_i hl
              cases h
              refine ⟨Z, φ, Δ, M, _, M1, R, hx, fun v φ1 H1 e1 m1 r1 => ?_⟩
              obtain ⟨a, ha1, rfl⟩ := r1
              obtain ⟨vs0, hv0, _⟩ := m1.obj k a _ ha1 h0
              refine ⟨.inl ⟨rfl, vs0, .inl (.inl hv0)⟩, Z, φ1, Δ, M1, [w2], M2, R.step e1 m1, by simp only [mArgs, hy], fun us φ2 H2 e2 m2 r2 => ?_⟩
              obtain ⟨u, rfl, ru⟩ := rws1 r2
              obtain ⟨e3, m3, d3⟩ := fz1_ok m2 ru hf
              obtain ⟨tl, htl⟩ := e2.pre
              have ha2 : φ2[k]? = some a := by
                rw [htl, List.getElem?_append_left (List.getElem?_eq_some_iff.mp ha1).1]
                exact ha1
              obtain ⟨vs, hv, hd⟩ := m3.obj k a _ ha2 hn
              refine ⟨a, vs, u, rfl, rfl, hv, by rw [dpa_length hd]; exact Nat.lt_of_le_of_lt hl (by decide), ?_⟩
              obtain ⟨e4, m4, f4⟩ := m3.put (o' := .lst (t && s) (xs ++ [y])) (u := .lst (vs ++ [u])) ha2 hn rfl rfl ⟨_, upd_same, dpa_append (kkLs s hd) (dpa_one (kkR t d3))⟩
              exact q _ φ2 _ (((e1.trans e2).trans e3).trans e4) m4 .non
            · cases h
          · cases h
        · cases h
      · cases h
    · cases h
  · cases h
/-! ### xs[i] = e -/
def setAt (n : Nat) (i : Int) (s : Bool) (x : PD) (M : MS) : Option MS := match M[n]? with
  | some (.lst t xs) => (match ixN xs.length i with
    | some j => some (M.set n (.lst (t && s) (xs.set j x)))
    | none => none)
  | _ => none
theorem setAt_ok {K : PySem.W.Frag} {Z : Addr → Prop} {H : Hp} {φ : List Addr} {M M' : MS} {n : Nat} {i : Int} {s : Bool} {x : PD} {v : V} {a : Addr} {Q : Hp → Prop} (m : Mem K Z H φ M) (ha : φ[n]? = some a) (hd : Dq (kk s K) (Fz Z φ M H) v x) (h : setAt n i s x M = some M')
    (q : ∀ H', Ext Z φ M H φ M' H' → Mem K Z H' φ M' → Q H') : rSetL (.ref a) (.int i) v H Q := by
  unfold setAt at h
  split at h
  · rename_i t xs hn
    split at h
    · rename_i j hj
      cases h
      obtain ⟨vs, hv, hd2⟩ := m.obj n a _ ha hn
      obtain ⟨e4, m4, f4⟩ := m.put (o' := .lst (t && s) (xs.set j x)) (u := .lst (vs.set j v)) ha hn rfl rfl ⟨_, upd_same, dpa_set (kkR t hd) j (kkLs s hd2)⟩
      exact ⟨a, vs, i, j, rfl, rfl, hv, by rw [dpa_length hd2]; exact hj, q _ e4 m4⟩
    · cases h
  · cases h
def sSub (o i e : Sm W) : Ss := fun Δ M => match e Δ M with
  | some (w, M1) => (match fz1 w M1 with
    | some (s, x, M2) => (match o Δ M2 with
      | some (.loc n, M3) => (match i Δ M3 with
        | some (.d _ (.int k), M4) => (match setAt n k s x M4 with
          | some M5 => some (.nx, Δ, M5)
          | none => none)
        | _ => none)
      | _ => none)
    | none => none)
  | none => none
theorem ps_msub {mo mi me : Sm W} {i : Expr} {tpos : Pos} (ho : PE X o (tOf X.K mo)) (hi : PE X i (tOf X.K mi)) (he : PE X e (tOf X.K me)) (hg : ∀ {to ti : TE}, PE X o to → PE X i ti → PG X (.Subscript o i tpos) (L2.gSub to ti rSetL))
    (hs : swapsWithSole [.Subscript o i tpos] e pos.line X.env = pure false) (hw : swappedStores [.Subscript o i tpos] e X.env = pure none) : PS X (.Assign [.Subscript o i tpos] e pos) (tOfS X.K (sSub mo mi me)) := by
  refine ps_imp (ps_asg he (hg ho hi) hs hw rfl) fun D σ H ⟨Z, φ, Δ, M, f, Δ', M', R, h, q⟩ => ?_
  unfold sSub at h
  split at h
  · rename_i w M1 hx
    split at h
    · rename_i s x M2 hf
      split at h
      · rename_i n M3 hn
        split at h
        · rename_i t k M4 hk
          split at h
          · rename_i M5 h5
            cases h
            refine ⟨Z, φ, Δ, M, w, M1, R, hx, fun v φ1 H1 e1 m1 r1 => ?_⟩
            obtain ⟨e2, m2, d2⟩ := fz1_ok m1 r1 hf
            have R2 := R.step (e1.trans e2) m2
            refine ⟨Z, φ1, Δ, M2, _, M3, R2, hn, fun u φ3 H3 e3 m3 r3 => ?_⟩
            obtain ⟨a, ha, rfl⟩ := r3
            refine ⟨Z, φ3, Δ, M3, _, M4, R2.step e3 m3, hk, fun z φ4 H4 e4 m4 r4 => ?_⟩
            cases r4
            obtain ⟨tl, htl⟩ := e4.pre
            have ha4 : φ4[n]? = some a := by
              rw [htl, List.getElem?_append_left (List.getElem?_eq_some_iff.mp ha).1]
              exact ha
            refine setAt_ok m4 ha4 (dp_mono (e3.trans e4).fz _ d2) h5 fun H5 e5 m5 => ?_
            have e := (((e1.trans e2).trans e3).trans e4).trans e5
            exact q σ φ4 H5 e (R.step e m5)
          · cases h
        · cases h
      · cases h
    · cases h
  · cases h
/-! ### o[i], x = e -/
def sSubNm (o i : Sm W) (j : Nat) (e : Sm W) : Ss := fun Δ M => match e Δ M with
  | some (.d t (.tuple [x, y]), M1) => (match o Δ M1 with
    | some (.loc n, M3) => (match i Δ M3 with
      | some (.d _ (.int k), M4) => (match setAt n k t x M4 with
        | some M5 => some (.nx, Δ.set j (some (.d (nf t y) y)), M5)
        | none => none)
      | _ => none)
    | _ => none)
  | _ => none
theorem ps_msubnm {mo mi me : Sm W} {i : Expr} {tg : Expr} {n : Nat} (ho : PE X o (tOf X.K mo)) (hi : PE X i (tOf X.K mi)) (he : PE X e (tOf X.K me)) (hg : ∀ {to ti : TE}, PE X o to → PE X i ti → PG X tg (gTup X.K 2 (gCons (L2.gSub to ti rSetL) (gCons (gName n) gNil))))
    (hs : swapsWithSole [tg] e pos.line X.env = pure false) (hw : swappedStores [tg] e X.env = pure none) (h1 : (assignEach [tg] X.env).map (·.2) = [assign tg X.env]) : PS X (.Assign [tg] e pos) (tOfS X.K (sSubNm mo mi n me)) := by
  refine ps_imp (ps_asg he (hg ho hi) hs hw h1) fun D σ H ⟨Z, φ, Δ, M, f, Δ', M', R, h, q⟩ => ?_
  unfold sSubNm at h
  split at h
  · rename_i t x y M1 hx
    split at h
    · rename_i n M3 hn
      split at h
      · rename_i t k M4 hk
        split at h
        · rename_i M5 h5
          cases h
          refine ⟨Z, φ, Δ, M, _, M1, R, hx, fun v φ1 H1 e1 m1 r1 => ?_⟩
          cases r1 with
          | tup ht hd =>
            cases hd with
            | cons dx hd =>
              cases hd with
              | cons dy hd =>
                cases hd
                refine ⟨_, _, rfl, (tupU (sq_t fz_sub ht)).sq, rfl, _, _, rfl, ?_⟩
                have R1 := R.step e1 m1
                refine ⟨Z, φ1, Δ, M1, _, M3, R1, hn, fun u φ3 H3 e3 m3 r3 => ?_⟩
                obtain ⟨a, ha, rfl⟩ := r3
                refine ⟨Z, φ3, Δ, M3, _, M4, R1.step e3 m3, hk, fun z φ4 H4 e4 m4 r4 => ?_⟩
                cases r4
                obtain ⟨tl, htl⟩ := e4.pre
                have ha4 : φ4[n]? = some a := by
                  rw [htl, List.getElem?_append_left (List.getElem?_eq_some_iff.mp ha).1]
                  exact ha
                refine setAt_ok m4 ha4 (dp_mono (e3.trans e4).fz _ dx) h5 fun H5 e5 m5 => ?_
                have e := ((e1.trans e3).trans e4).trans e5
                refine ⟨_, _, rfl, rfl, q _ φ4 H5 e ((R.step e m5).set _ (w := .d _ y) (dq_nf (dp_mono ((e3.trans e4).trans e5).fz _ dy)))⟩
        · cases h
      · cases h
    · cases h
  · cases h
/-! ### keywords -/
theorem pk_imp {kws : List Keyword} {t t' : TA} (h : PK X kws t) (i : ∀ σ H Q, t' σ H Q → t σ H Q) : PK X kws t' := ⟨fun pos pins s σ H Q I q => h.run pos pins s σ H Q I (i σ H Q q)⟩
theorem pk_mnil : PK X [] (tOfA X.K (mArgs [])) := by
  refine pk_imp pk_nil fun σ H Q ⟨Z, φ, Δ, M, w, M', R, h, q⟩ => ?_
  cases h
  exact q [] φ H Ext.refl R.mem .nil
theorem pk_mcons {m : Sm W} {ms : List (Sm W)} {kws : List Keyword} {nm : Option Str} {kpos : Pos} (ha : PE X e (tOf X.K m)) (hr : PK X kws (tOfA X.K (mArgs ms))) : PK X (⟨nm, e, kpos⟩ :: kws) (tOfA X.K (mArgs (m :: ms))) := by
  refine pk_imp (pk_cons ha hr) fun σ H Q ⟨Z, φ, Δ, M, w, M', R, h, q⟩ => ?_
  unfold mArgs at h
  split at h
  · rename_i x M1 hx
    split at h
    · rename_i xs M2 hxs
      cases h
      refine ⟨Z, φ, Δ, M, x, M1, R, hx, fun v φ1 H1 e1 m1 r1 => ?_⟩
      exact ⟨Z, φ1, Δ, M1, xs, M', R.step e1 m1, hxs, fun vs φ2 H2 e2 m2 r2 => q _ φ2 H2 (e1.trans e2) m2 (.cons (r1.ext e2) r2)⟩
    · cases h
  · cases h
/-- the places of the parameters behind the given ones, by the keywords' places -/
def pick {α : Type} (pm : List Nat) (zs : List α) : List α := pm.filterMap fun i => zs[i]?
def pickK {α : Type} (n0 nk : Nat) (pm : List Nat) (us zs : List α) : List α := if us.length = n0 ∧ zs.length = nk then us ++ pick pm zs else []
def mCallK (n n0 nk : Nat) (pm : List Nat) (f : Fd) (a k : Sm (List W)) : Sm W := fun Δ M => match a Δ M with
  | some (ws, M1) => (match k Δ M1 with
    | some (zs, M2) => if (pickK n0 nk pm ws zs).length = n then f (pickK n0 nk pm ws zs) M2 else none
    | none => none)
  | none => none
theorem rws_append {K : PySem.W.Frag} {F : Hp} {φ : List Addr} : ∀ {vs us : List V} {ws zs : List W}, RWs K F φ vs ws → RWs K F φ us zs → RWs K F φ (vs ++ us) (ws ++ zs)
  | _, _, _, _, .nil, r => r
  | _, _, _, _, .cons h t, r => .cons h (rws_append t r)
theorem rws_get {K : PySem.W.Frag} {F : Hp} {φ : List Addr} : ∀ {vs : List V} {ws : List W} (i : Nat), RWs K F φ vs ws → (vs[i]? = none ∧ ws[i]? = none) ∨ ∃ v w, vs[i]? = some v ∧ ws[i]? = some w ∧ RW K F φ v w
  | _, _, _, .nil => .inl ⟨rfl, rfl⟩
  | _, _, 0, .cons h t => .inr ⟨_, _, rfl, rfl, h⟩
  | _, _, i + 1, .cons h t => by simpa using rws_get i t
theorem rws_pick {K : PySem.W.Frag} {F : Hp} {φ : List Addr} {vs : List V} {ws : List W} (r : RWs K F φ vs ws) : ∀ pm : List Nat, RWs K F φ (pick pm vs) (pick pm ws)
  | [] => .nil
  | i :: pm => by
    have ih := rws_pick r pm
    unfold pick at ih ⊢
    rcases rws_get i r with ⟨h1, h2⟩ | ⟨v, w, h1, h2, h3⟩
    · rw [List.filterMap_cons_none h1, List.filterMap_cons_none h2]
      exact ih
    · rw [List.filterMap_cons_some h1, List.filterMap_cons_some h2]
      exact .cons h3 ih
theorem vals_get : ∀ {vs : List V} {us : List Value} (i : Nat), Vals vs us → (vs[i]? = none ∧ us[i]? = none) ∨ ∃ v u, vs[i]? = some v ∧ us[i]? = some u ∧ RelV v u
  | _, _, _, .nil => .inl ⟨rfl, rfl⟩
  | _, _, 0, .cons h t => .inr ⟨_, _, rfl, rfl, h⟩
  | _, _, i + 1, .cons h t => by simpa using vals_get i t
theorem vals_pick {vs : List V} {us : List Value} (r : Vals vs us) : ∀ pm : List Nat, Vals (pick pm vs) (pick pm us)
  | [] => .nil
  | i :: pm => by
    have ih := vals_pick r pm
    unfold pick at ih ⊢
    rcases vals_get i r with ⟨h1, h2⟩ | ⟨v, w, h1, h2, h3⟩
    · rw [List.filterMap_cons_none h1, List.filterMap_cons_none h2]
      exact ih
    · rw [List.filterMap_cons_some h1, List.filterMap_cons_some h2]
      exact .cons h3 ih
/-- how a call with keywords ks binds, told for this def -/
structure KwOk (K : PySem.W.Frag) (fd : FuncData) (ps ks : List Str) (pm : List Nat) : Prop where
  ne : ps ≠ []
  to : ∀ (s : Shared) (us ws : List Value), us.length = ps.length - ks.length → ws.length = ks.length → BindsTo s fd ⟨us, ks.zip ws⟩ (ps.zip (us ++ pick pm ws))
theorem KwOk.kb {K : PySem.W.Frag} {fd : FuncData} {ps ks : List Str} {pm : List Nat} (h : KwOk K fd ps ks pm) : KBinds K fd ps ks (pickK (ps.length - ks.length) ks.length pm) (pickK (ps.length - ks.length) ks.length pm) := by
  refine ⟨fun s us ws _ hl => ?_, fun {vs us zs ws} r z => ?_⟩
  · unfold pickK at hl ⊢
    split at hl
    · rename_i hh
      rw [if_pos hh]
      exact h.to s us ws hh.1 hh.2
    · exact absurd (List.length_eq_zero_iff.mp hl.symm) h.ne
  · unfold pickK
    rw [← r.length, ← z.length]
    split
    · exact r.append (vals_pick z pm)
    · exact .nil
theorem rws_pickK {K : PySem.W.Frag} {F : Hp} {φ : List Addr} {vs us : List V} {ws zs : List W} (r : RWs K F φ vs ws) (q : RWs K F φ us zs) (n0 nk : Nat) (pm : List Nat) : RWs K F φ (pickK n0 nk pm vs us) (pickK n0 nk pm ws zs) := by
  unfold pickK
  rw [r.length, q.length]
  split
  · exact rws_append r (rws_pick q pm)
  · exact .nil
variable {k : Nat} {f : Addr} {fd : FuncData} {ps ks : List Str} {n : Nat} {g : Fd} {ms mk : Sm (List W)} {pm : List Nat} {n0 nk : Nat}
theorem tCallK_of {E : XK} {K : PySem.W.Frag} : ∀ σ H Q, tOf K (mCallK n n0 nk pm g ms mk) σ H Q → tCallK (spOf K n g) (pickK n0 nk pm) E (tOfA K ms) (tOfA K mk) σ H Q := by
  intro σ H Q ⟨Z, φ, Δ, M, w, M', R, h, q⟩
  unfold mCallK at h
  split at h
  · rename_i ws M1 hx
    split at h
    · rename_i zs M2 hz
      split at h
      · rename_i hl
        refine ⟨Z, φ, Δ, M, ws, M1, R, hx, fun vs φ1 H1 e1 m1 r1 => ?_⟩
        refine ⟨Z, φ1, Δ, M1, zs, M2, R.step e1 m1, hz, fun us φ2 H2 e2 m2 r2 => ?_⟩
        exact ⟨Z, φ2, M2, _, w, M', m2, rws_pickK (r1.ext e2) r2 n0 nk pm, hl, h, q.step (e1.trans e2)⟩
      · cases h
    · cases h
  · cases h
theorem pe_mcallK {kws : List Keyword} (F : FnOk X.prog X.w X.K X.mg X.base CX0 k f fd ps (spOf X.K n g)) (hr : Room k X.A) (hg : Gl X x) (hm : X.mg x = some (.ref f)) (hk : PySem.W.keepIn X.K (.ref f) = true) (hb : KwOk X.K fd ps ks pm)
    (ha : PA X (e :: es) (tOfA X.K ms)) (hkw : PK X kws (tOfA X.K mk)) (hall : (backToKw pos (keywordEach kws X.env)).all (·.1.isSome) = true) (hks : (backToKw pos (keywordEach kws X.env)).filterMap (·.1) = ks)
    (hdb : (x == ("__debug__" : Str)) = false) (he : starEach (e :: es) X.env = (false, eval e X.env) :: starEach es X.env)
    (hpl : ((backTo pos (starEach (e :: es) X.env)).any (·.1) || (backToKw pos (keywordEach kws X.env)).any (·.1.isNone)) = false) : PE X (.Call (.Name x p) (e :: es) kws pos) (tOf X.K (mCallK n (ps.length - ks.length) ks.length pm g ms mk)) :=
  pe_imp (pe_callK F hr hg hm hk hb.kb (pass0 (X := X)) ha hkw hall hks hdb he hpl) tCallK_of
theorem pe_callK0 {kws : List Keyword} {sp : Sp} {tk : TA} {g : List Value → List Value → List Value} {gV : List V → List V → List V} {E : XK} (F : FnOk X.prog X.w X.K X.mg X.base CX0 k f fd ps sp) (hr : Room k X.A) (hg : Gl X x) (hm : X.mg x = some (.ref f)) (hk : PySem.W.keepIn X.K (.ref f) = true) (hb : KBinds X.K fd ps ks g gV) (hx : Passes CX0 X E)
    (hkw : PK X kws tk) (hall : (backToKw pos (keywordEach kws X.env)).all (·.1.isSome) = true) (hks : (backToKw pos (keywordEach kws X.env)).filterMap (·.1) = ks) (hdb : (x == ("__debug__" : Str)) = false)
    (hpl : ((backTo pos (starEach [] X.env)).any (·.1) || (backToKw pos (keywordEach kws X.env)).any (·.1.isNone)) = false) : PE X (.Call (.Name x p) [] kws pos) (tCallK sp gV E tNil tk) := by
  refine ⟨fun pins s σ H Q I h => ?_⟩
  refine wpAny_Call_Name_kw (ld_glob I hg hm ?_ hdb)
  refine PySem.W.callWith_KW0 (h₀ := X.base) I.ok.mod.kin hk hall (thn (hkw.run pos pins s σ H _ I h) fun ws s2 ⟨zs, H2, I2, rz, q2⟩ => ⟨I2.kIn, ?_⟩) hpl
  rw [hks]
  exact run_fnk F hr hb hx I2 .nil rz q2
theorem pe_mcallK0 {kws : List Keyword} (F : FnOk X.prog X.w X.K X.mg X.base CX0 k f fd ps (spOf X.K n g)) (hr : Room k X.A) (hg : Gl X x) (hm : X.mg x = some (.ref f)) (hk : PySem.W.keepIn X.K (.ref f) = true) (hb : KwOk X.K fd ps ks pm)
    (hkw : PK X kws (tOfA X.K mk)) (hall : (backToKw pos (keywordEach kws X.env)).all (·.1.isSome) = true) (hks : (backToKw pos (keywordEach kws X.env)).filterMap (·.1) = ks)
    (hdb : (x == ("__debug__" : Str)) = false) (hpl : ((backTo pos (starEach [] X.env)).any (·.1) || (backToKw pos (keywordEach kws X.env)).any (·.1.isNone)) = false) : PE X (.Call (.Name x p) [] kws pos) (tOf X.K (mCallK n (ps.length - ks.length) ks.length pm g (mArgs []) mk)) := by
  refine pe_imp (pe_callK0 F hr hg hm hk hb.kb (pass0 (X := X)) hkw hall hks hdb hpl) fun σ H Q h => ?_
  obtain ⟨Z, φ, Δ, M, ws, M', R, h1, q⟩ := tCallK_of (E := E0) σ H Q h
  cases h1
  exact q [] φ H Ext.refl R.mem .nil
end
end Ek

/-! EkS: sorted(set(xs)), xs a list of ints -/
namespace Ek
open PySem PySem.Spec PyProof.Rows L2
/-- an empty set, just made -/
abbrev mtS (w : World) : Obj := { cls := .type "set", dict := none, data := .set #[] 0 (.fresh 0 0 (!w.params.followText "set-order")) }
set_option maxHeartbeats 3200000 in
theorem setL {P : Program} {w : World} {A : Around} {E : Value → Shared → Prop} {s : Shared} {l : Addr} {xs : Array Value} (ns : List Int) {Q : Value → Shared → Prop}
    (hh : A.handled = none) (hl : s.heap.IsList l xs) (ia : IntsAre xs.toList ns) (hb : ns.length + 1 < scanBound)
    (fin : ∀ (h' : Heap) (tk c : Nat), SetR w h' s.heap.objs.size (fun j => decide (j ∈ ns)) c → c ≤ ns.length → (∀ b o, s.heap.get? b = some o → h'.get? b = some o) → Q (.ref s.heap.objs.size) { s with heap := h', toks := tk }) :
    wpAny (model P w) A (call (.type "set") [.ref l]) Q E s := by
  have sz : xs.size = ns.length := by have q := IntsAre.length ia; rw [Array.length_toList] at q; exact q
  obtain ⟨c, tl, mr⟩ := F.called_set.mro
  have md := F.called_set.made; have sb := F.called_set.sub
  refine wpAny_call (codeAny_of_tree (show wpAny _ _ (callAny (.type "set") _) _ _ _ from ?_))
  refine wpAny_pure ⟨Code.quiet_builtin _ (by decide +kernel), codeAny_builtin F.entry_type_call ?_⟩
  rw [show A.under _ = _ from Around.under_plain (weight_type_call_type "set" [.ref l] []) rfl]
  have n1 := F.called_set.notType; have n2 := F.called_set.canCreate; have n3 := F.typeCall_set_1 (.ref l)
  repeat any_goals first | assumption | wp_step
  refine codeAny_mono (code_set_led1 (.ref l) (E := E) (Q₁ := fun obj s₁ => obj = .ref s.heap.objs.size ∧ s₁ = { s with heap := s.heap.push (mtS w) }) ⟨rfl, rfl⟩) fun r s₁ hr => ?_
  rcases r with e | fl
  · exact hr
  rcases fl with _ | _ | _ | obj
  · exact hr.elim
  · exact hr.elim
  · exact hr.elim
  · obtain ⟨rfl, rfl⟩ := hr
    have g0 : (s.heap.push (mtS w)).get? s.heap.objs.size = some (mtS w) := Heap.get?_push_size _ rfl
    have ty : Shared.TypeIs { s with heap := s.heap.push (mtS w) } (.ref s.heap.objs.size) "set" := ⟨_, g0, rfl⟩
    have i1 := F.called_set.init.lookup; have i2 := F.called_set.init.bind (.ref s.heap.objs.size)
    repeat any_goals first | assumption | wp_step
    refine codeAny_mono (codeAny_call_builtin (R := wants (fun r s₂ => r = .none ∧ ∃ h' tk c, s₂ = { s with heap := h', toks := tk } ∧ SetR w h' s.heap.objs.size (fun j => decide (j ∈ ns)) c ∧ c ≤ ns.length ∧ (∀ b o, s.heap.get? b = some o → h'.get? b = some o)) E) F.called_set.init.plain F.entry_set_init (check_set_init_1 ty ?_)) fun r₂ s₂ hr₂ => ?_
    · obtain ⟨⟨cl, od, dt, sl⟩, gl, cl1, nl, dt1⟩ := hl
      obtain rfl : cl = _ := cl1
      obtain rfl : dt = _ := dt1
      have gl' : (s.heap.push (mtS w)).get? l = some { cls := .type "list", dict := od, data := .seq xs nl, slots := sl } := Heap.get?_push_of_some _ gl
      have q1 := F.sub_list_set; have q2 := F.sub_list_frozenset
      have q3 : (Value.type "list" == Value.type "dict") = false := by decide
      have hl1 : (s.heap.push (mtS w)).IsList l xs := ⟨_, gl', rfl, nl, rfl⟩
      unfold Builtin.«set.__init__» noKeywords Builtin.Frozenset.updateFrom
      generalize hP : pyIter = PI
      wp_walk
      subst hP
      refine wpAny_pyIter_list hl1 (wpAny_bind (wpAny_runValue ?_))
      have ls : l < s.heap.objs.size := Heap.lt_size gl
      have h3 : A.in1.in1.in1.handled = none := by simp [hh]
      have ne1 : l ≠ (s.heap.push (mtS w)).objs.size := by rw [Heap.size_push]; exact Nat.ne_of_lt (Nat.lt_succ_of_lt ls)
      have nf : s.heap.objs.size ∉ [(s.heap.push (mtS w)).objs.size, l] := by
        rw [Heap.size_push]
        intro z
        rcases List.mem_cons.mp z with z | z
        · exact absurd z (Nat.ne_of_lt (Nat.lt_succ_self _))
        · exact absurd (List.mem_singleton.mp z) (Nat.ne_of_gt ls)
      have vals : ∀ (i : Nat) (v : Value), xs[i]? = some v → ∃ k t, ns[i]? = some k ∧ v = .int k t := fun i v hv => by
        have hi : i < ns.length := sz ▸ (Array.getElem?_eq_some_iff.mp hv).1
        obtain ⟨t, e⟩ := IntsAre.int_at ia i v (by rw [Array.getElem?_toList]; exact hv)
        exact ⟨ns[i], t, List.getElem?_eq_getElem hi, by rw [e, List.getD_eq_getElem?_getD, List.getElem?_eq_getElem hi] <;> rfl⟩
      refine set_update_ints ((Walks.list h3 _ l ne1 xs).toS) s.heap.objs.size nf ns sz hb vals (xs.size - 0) 0 _ (by omega) (Nat.zero_le _) ⟨⟨_, Heap.get?_push_size _ rfl, rfl, rfl⟩, hl1.push _⟩ ⟨0, Nat.le_refl 0, setR_new_at (Heap.get?_push_of_some _ g0)⟩ ?_
      rintro ⟨h', g2, d', tk', os'⟩ c' mv hc' hS'
      obtain rfl : g2 = s.gens := mv.gens
      obtain rfl : d' = s.drawn := mv.drawn
      obtain rfl : os' = s.os := mv.os
      show wpAny _ _ _ _ _ _
      refine wpAny_pure ?_
      (show wpAny _ _ (ret Value.none) _ _ _); refine wpAny_pure ⟨rfl, h', tk', c', rfl, hS', sz ▸ hc', fun b o e => ?_⟩
      have b0 : b < s.heap.objs.size := Heap.lt_size e
      refine mv.heap b o (fun z => ?_) (Heap.get?_push_of_some _ (Heap.get?_push_of_some _ e))
      rcases List.mem_cons.mp z with z | z
      · exact absurd z (Nat.ne_of_lt b0)
      · have z := List.mem_singleton.mp z
        rw [Heap.size_push] at z
        rw [z] at b0
        exact absurd b0 (Nat.not_lt_of_le (Nat.le_succ _))
    · rcases r₂ with e | fl₂
      · exact hr₂
      rcases fl₂ with _ | _ | _ | r
      · exact hr₂.elim
      · exact hr₂.elim
      · exact hr₂.elim
      · obtain ⟨rfl, h', tk, c', rfl, hS', hc', hk'⟩ := hr₂
        repeat any_goals first | assumption | wp_step
        exact fin _ _ _ hS' hc' hk'
/-! ### the one strictly rising list of some ints -/
def insU (x : Int) : List Int → List Int
  | [] => [x]
  | y :: r => if x < y then x :: y :: r else if x = y then y :: r else y :: insU x r
def upI : List Int → List Int
  | [] => []
  | x :: r => insU x (upI r)
theorem insU_mem {x k : Int} : ∀ {l : List Int}, k ∈ insU x l ↔ k = x ∨ k ∈ l
  | [] => by simp [insU]
  | y :: r => by
    unfold insU
    split
    · simp
    · split
      · rename_i h
        subst h
        simp
      · have ih := insU_mem (x := x) (k := k) (l := r)
        simp only [List.mem_cons, ih]
        constructor
        · rintro (h | h | h)
          · exact .inr (.inl h)
          · exact .inl h
          · exact .inr (.inr h)
        · rintro (h | h | h)
          · exact .inr (.inl h)
          · exact .inl h
          · exact .inr (.inr h)
theorem insU_up {x : Int} : ∀ {l : List Int}, l.Pairwise (· < ·) → (insU x l).Pairwise (· < ·)
  | [], _ => by simp [insU]
  | y :: r, h => by
    have hh := List.pairwise_cons.mp h
    unfold insU
    split
    · rename_i hx
      refine List.pairwise_cons.mpr ⟨fun z hz => ?_, h⟩
      rcases List.mem_cons.mp hz with rfl | hz
      · exact hx
      · have := hh.1 z hz; omega
    · split
      · exact h
      · refine List.pairwise_cons.mpr ⟨fun z hz => ?_, insU_up hh.2⟩
        rcases insU_mem.mp hz with rfl | hz
        · omega
        · exact hh.1 z hz
theorem upI_up : ∀ l : List Int, (upI l).Pairwise (· < ·)
  | [] => .nil
  | x :: r => insU_up (upI_up r)
theorem upI_mem {k : Int} : ∀ {l : List Int}, k ∈ upI l ↔ k ∈ l
  | [] => by simp [upI]
  | x :: r => by
    unfold upI
    rw [insU_mem, upI_mem, List.mem_cons]
theorem up_one : ∀ {a b : List Int}, a.Pairwise (· < ·) → b.Pairwise (· < ·) → (∀ k, k ∈ a ↔ k ∈ b) → a = b
  | [], [], _, _, _ => rfl
  | [], y :: r, _, _, h => by have := (h y).mpr (by simp); simp at this
  | x :: r, [], _, _, h => by have := (h x).mp (by simp); simp at this
  | x :: r, y :: t, ha, hb, h => by
    have a1 := List.pairwise_cons.mp ha
    have b1 := List.pairwise_cons.mp hb
    have e : x = y := by
      rcases List.mem_cons.mp ((h x).mp (by simp)) with e | e
      · exact e
      · rcases List.mem_cons.mp ((h y).mpr (by simp)) with e2 | e2
        · exact e2.symm
        · have := b1.1 x e
          have := a1.1 y e2
          omega
    subst e
    congr 1
    refine up_one a1.2 b1.2 fun k => ⟨fun hk => ?_, fun hk => ?_⟩
    · rcases List.mem_cons.mp ((h k).mp (by simp [hk])) with e | e
      · have := a1.1 k hk; omega
      · exact e
    · rcases List.mem_cons.mp ((h k).mpr (by simp [hk])) with e | e
      · have := b1.1 k hk; omega
      · exact e
section
variable {X : Cx}
def rSetI (K : PySem.W.Frag) (w : World) : List V → Hp → VK → Prop := fun xs H Q => ∃ (a : Addr) (ns : List Int), xs = [V.ref a] ∧ SqL K H a (ns.map V.int) ∧ ns.length < 64 ∧ ∀ p c, H p = none → c ≤ ns.length → Q (.ref p) (upd H p (SetO w p (fun j => decide (j ∈ ns)) c))
theorem cr_setI (hc : X.calm = true) : CallR X (.type "set") (rSetI X.K X.w) := by
  intro pins s σ H xs us Q I r h
  obtain ⟨a, ns, rfl, hs, hl, q⟩ := h
  obtain ⟨its, rv, pl, hz⟩ := I.list hs
  rw [Vals.ref1 r]
  refine setL ns (I.ok.hd hc) pl.isList (intsAre_of rv) (Nat.lt_of_lt_of_le (Nat.succ_lt_succ hl) (by decide)) fun h' tk c R hcl keep => ?_
  exact ⟨.ref _, upd H s.heap.objs.size (SetO X.w s.heap.objs.size (fun j => decide (j ∈ ns)) c), I.laid (t' := tk) (fun b u e => keep b u e) (Nat.le_refl _) (setO_new R), rfl, q _ c I.fresh hcl⟩
def mSortSet (e : Sm W) : Sm (Bool × List PD) := fun Δ M => match e Δ M with
  | some (w, M1) => (match rdL w M1 with
    | some (_, xs) => (match asInts xs with
      | some l => if l.length < 64 then some ((true, (upI l).map PyData.int), M1) else none
      | none => none)
    | none => none)
  | none => none
theorem pe_msortset {e : Expr} {m : Sm W} {p p2 pos pos2 : Pos} (hc : X.calm = true) (h1 : Gl X "sorted") (m1 : X.mg "sorted" = none) (h2 : Gl X "set") (m2 : X.mg "set" = none) (he : PE X e (tOf X.K m)) (hs : starEach [e] X.env = [(false, eval e X.env)]) :
    PE X (.Call (.Name "sorted" p) [.Call (.Name "set" p2) [e] [] pos2] [] pos) (tOfN X.K (mSortSet m)) := by
  have ha : PA X [e] (tOfA X.K (mArgs [m])) := pa_mcons he pa_mnil hs
  refine pe_imp (pe_callB (cr_sortedSet hc) h1 m1 (by decide +kernel) (pa_cons (pe_callTy (cr_setI hc) h2 m2 (by decide +kernel) ha (by decide) (by decide) hs rfl) pa_nil rfl) (by decide) (by decide) rfl rfl) fun σ H Q ⟨Z, φ, Δ, M, t, xs, M', R, h, q⟩ => ?_
  unfold mSortSet at h
  split at h
  · rename_i w1 M1 hx
    split at h
    · rename_i t1 ys hy
      split at h
      · rename_i l hl
        split at h
        · rename_i h64
          cases h
          refine ⟨Z, φ, Δ, M, [w1], M', R, by simp only [mArgs, hx], fun vs φ1 H1 e1 n1 r1 => ?_⟩
          obtain ⟨v, rfl, rv⟩ := rws1 r1
          obtain ⟨a, us, rfl, ha, hd⟩ := rdL_ok n1 rv hy
          rw [asInts_eq hl] at hd
          have hu := dq_ints hd
          subst hu
          refine ⟨a, l, rfl, ha, h64, fun p c hp hcl => ?_⟩
          obtain ⟨e2, n2, _⟩ := n1.new hp (SetO X.w p (fun j => decide (j ∈ l)) c)
          refine ⟨p, _, c, rfl, upd_same, Nat.lt_of_le_of_lt hcl h64, fun ns p2 hpw hmem hlen hp2 => ?_⟩
          have en : ns = upI l := up_one hpw (upI_up l) fun k => by rw [hmem, upI_mem, decide_eq_true_eq]
          subst en
          obtain ⟨e3, n3, _⟩ := n2.born (o := .lst true ((upI l).map PyData.int)) hp2 (u := .lst ((upI l).map V.int)) rfl ⟨_, upd_same, ints_dq _⟩
          exact q p2 φ1 _ e1.pre ((e1.trans e2).trans e3) n3
        · cases h
      · cases h
    · cases h
  · cases h
end
end Ek

/-! EkT: t[::-1], t a tuple -/
namespace Ek
open PySem PySem.Spec PyProof.Rows L2
section
variable {P : Program} {w : World} {A : Around} {E : Value → Shared → Prop} {s : Shared}
theorem adj_rev (n : Nat) : Builtin.Slice.sliceAdjust none none (-1) (n : Int) = ((n : Int) - 1, -1) := by
  unfold Builtin.Slice.sliceAdjust
  simp
theorem plc_rev (n : Nat) : Builtin.Slice.slicePlaces ((n : Int) - 1) (-1) (-1) = n := by
  unfold Builtin.Slice.slicePlaces
  simp
  split <;> omega
theorem fm_congr {α β : Type} {f g : α → Option β} : ∀ {l : List α}, (∀ a ∈ l, f a = g a) → l.filterMap f = l.filterMap g
  | [], _ => rfl
  | a :: r, h => by
    have e := h a (by simp)
    have ih := fm_congr (l := r) fun x hx => h x (by simp [hx])
    rw [List.filterMap_cons, List.filterMap_cons, e, ih]
theorem pick_rev (xs : Array Value) : ((List.range xs.size).filterMap fun (k : Nat) => xs[((xs.size : Int) - 1 + (k : Int) * (-1)).toNat]?).toArray = xs.toList.reverse.toArray := by
  congr 1
  have e : ((List.range xs.size).filterMap fun (k : Nat) => xs[((xs.size : Int) - 1 + (k : Int) * (-1)).toNat]?) = (List.range xs.size).filterMap fun k => xs.toList.reverse[k]? := by
    refine fm_congr fun k hk => ?_
    have hk' : k < xs.size := List.mem_range.mp hk
    rw [List.getElem?_reverse (by simpa using hk')]
    have : ((xs.size : Int) - 1 + (k : Int) * (-1)).toNat = xs.size - 1 - k := by omega
    rw [this, Array.getElem?_toList]
    rfl
  rw [e]
  have hl : xs.size = xs.toList.reverse.length := by simp
  rw [hl]
  generalize xs.toList.reverse = l
  clear hl e
  induction l with
  | nil => rfl
  | cons a r ih =>
    rw [List.length_cons, List.range_succ_eq_map, List.filterMap_cons_some (show (a :: r)[0]? = some a from rfl), List.filterMap_map]
    congr 1
theorem sl_rev {sl : Addr} {vl vu vs : Value} {n : Nat} {Q : Int × Int × Nat → Shared → Prop} (hs : s.heap.IsSliceOf sl vl vu vs) (pl : IsPart vl none) (pu : IsPart vu none) (ps : IsPart vs (some (-1)))
    (h : Q ((n : Int) - 1, -1, n) s) : wpAny (model P w) A (Builtin.Slice.sliceApplied (.ref sl) (pure (n : Int))) Q E s := by
  obtain ⟨os, g, cs, ds⟩ := id hs
  unfold Builtin.Slice.sliceApplied Builtin.Slice.sliceFields
  refine wpAny_bind (wpAny_bind (wpAny_field g ds (x := vl) rfl (wpAny_bind (wpAny_field g ds (x := vu) rfl (wpAny_bind (wpAny_field g ds (x := vs) rfl (wpAny_pure ?_)))))))
  refine wpAny_bind (HT.slicePart_ ps ?_)
  (show wpAny _ _ (if ((-1 : Int) == 0) = true then _ else _) _ _ s); rw [if_neg (by decide)]
  refine wpAny_bind (HT.slicePart_ pl (wpAny_bind (HT.slicePart_ pu (wpAny_bind (wpAny_pure ?_)))))
  show wpAny _ _ (match Builtin.Slice.sliceAdjust none none (-1) (n : Int) with | (lo, hi) => pure (lo, (-1 : Int), Builtin.Slice.slicePlaces lo hi (-1))) _ _ s
  rw [adj_rev n]
  show wpAny _ _ (pure ((n : Int) - 1, (-1 : Int), Builtin.Slice.slicePlaces ((n : Int) - 1) (-1) (-1))) _ _ s
  rw [plc_rev]
  exact wpAny_pure h
theorem item_rev {t sl : Addr} {xs : Array Value} {vl vu vs : Value} {Q : Value → Shared → Prop} (ht : IsTup s.heap t xs) (hs : s.heap.IsSliceOf sl vl vu vs) (pl : IsPart vl none) (pu : IsPart vu none) (ps : IsPart vs (some (-1)))
    (h : Q (.ref s.heap.objs.size) { s with heap := s.heap.push { cls := .type "tuple", data := .seq xs.toList.reverse.toArray } }) (hsz : xs.size ≤ sizeLine) : wpAny (model P w) A (getItem (.ref t) (.ref sl)) Q E s := by
  have ok : sizeOk (.seq xs.toList.reverse.toArray) := (show xs.toList.reverse.toArray.size ≤ sizeLine by simpa using hsz)
  obtain ⟨os, g, cs, ds⟩ := id hs
  have ty : s.TypeIs (.ref sl) "slice" := ⟨os, g, cs⟩
  unfold getItem
  try (with_reducible refine wpAny_holding ?_)
  first | refine wpAny_bind (wpAny_pure ?_) | skip
  refine wpAny_bind (wpAny_sequenceKey ht.typeIs (by decide) (wpAny_bind (wpAny_callSpecial?_slot (name := Str.ofString "__getitem__") ht.typeIs PyProof.Rows.slot_tuple_getitem (wpAny_call_entry PyProof.Rows.slot_tuple_getitem ht.typeIs entry_tuple_getitem ?_ (args_tuple_getitem _ _)))))
  (show wpAny _ _ (Builtin.Tuple.tupleItemsOf (.ref t) >>= _) _ _ s); refine wpAny_bind (tupleItemsOf_ ht (wpAny_bind (wpAny_typeOf ty ?_)))
  rw [if_pos (by decide)]
  refine wpAny_bind (sl_rev hs pl pu ps ?_)
  have no : ¬ (((xs.size : Int) - 1 == 0 && (-1 : Int) == 1 && xs.size == xs.size) = true) := by
    intro q
    rw [Bool.and_eq_true, Bool.and_eq_true] at q
    exact absurd (eq_of_beq q.1.2) (by decide)
  (show wpAny _ _ (if ((xs.size : Int) - 1 == 0 && (-1 : Int) == 1 && xs.size == xs.size) = true then _ else _) _ _ s); rw [if_neg no, pick_rev]
  first
    | exact wpAny_bind (m := Builtin.Tuple.tupleExact _) (wpAny_newObj_type (wpAny_pure ⟨_, rfl, wpAny_pure h⟩) ok)
    | exact wpAny_bind (m := Builtin.Tuple.tupleExact _) (wpAny_newObj_type (wpAny_bind (wpAny_pure (wpAny_pure ⟨_, rfl, wpAny_pure h⟩))) ok)
    | exact wpAny_bind (wpAny_bind (m := Builtin.Tuple.tupleExact _) (wpAny_newObj_type (wpAny_pure (wpAny_pure ⟨_, rfl, wpAny_pure h⟩)) ok))
    | exact wpAny_bind (wpAny_bind (m := Builtin.Tuple.tupleExact _) (wpAny_newObj_type (wpAny_pure ⟨_, rfl, wpAny_pure h⟩) ok))
end
section
variable {X : Cx}
/-- a list or a tuple from behind -/
def tRevQ (K : PySem.W.Frag) (te : TE) : TE := fun σ H Q => te σ H fun x H1 => ∃ a xs, x = .ref a ∧ SqT K H1 a xs ∧ ∀ p, H1 p = none → Q (.ref p) (upd H1 p (.tup xs.reverse))
theorem pe_revT {e : Expr} {te : TE} {k : Nat} {p1 p2 p3 pos : Pos} (he : PE X e te) : PE X (.Subscript e (.Slice none none (some (.UnaryOp .USub (.Constant (.int 1) k p1) p2)) p3) pos) (tRevQ X.K te) := by
  refine ⟨fun pins s σ H Q I h => Subscript_ (thn (he.run pins s σ H _ I h) fun v s1 ⟨x, H1, I1, r1, a, xs, ex, hx, q⟩ => ?_)⟩
  subst ex
  cases r1
  have st : PO X (some (.UnaryOp .USub (.Constant (.int 1) k p1) p2)) (tPart (tUn (rU fun i => .int (-i)) (tC (.int 1)))) := po_some (pe_un un_neg pe_int)
  refine wpAny_Slice (thn (po_none.run pins s1 σ H1 (fun o H2 => o = none ∧ H2 = H1) I1 ⟨rfl, rfl⟩) fun vl s2 ⟨l, H2, I2, pl, el, e2⟩ => ?_)
  subst el; subst e2
  refine thn (po_none.run pins s2 σ H2 (fun o H3 => o = none ∧ H3 = H2) I2 ⟨rfl, rfl⟩) fun vu s3 ⟨u, H3, I3, pu, eu, e3⟩ => ?_
  subst eu; subst e3
  refine thn (st.run pins s3 σ H3 (fun o H4 => o = some (-1) ∧ H4 = H3) I3 ⟨1, rfl, -1, rfl, rfl, rfl⟩) fun vs s4 ⟨o, H4, I4, ps, eo, e4⟩ => ?_
  subst eo; subst e4
  have I5 : L2.Inv X pins σ H4 { s4 with heap := s4.heap.push { cls := .type "slice", data := .fields #[vl, vu, vs] } } := I4.kept (t' := s4.toks) fun b ob q => Heap.get?_push_of_some _ q
  obtain ⟨its, r, ht, hz⟩ := I5.tuple hx
  have hl := r.length
  (show wpAny (model X.prog X.w) X.A (subscriptTail e (.Slice none none (some (.UnaryOp .USub (.Constant (.int 1) k p1) p2)) p3) (.ref a) (.ref s4.heap.objs.size)) (EP X pins σ Q) X.xe { s4 with heap := s4.heap.push { cls := .type "slice", data := .fields #[vl, vu, vs] } })
  refine tail_any (ops := [.ref a, .ref s4.heap.objs.size]) ht.typeIs PyProof.Rows.slot_tuple_getitem.lookup ?_ (by with_unfolding_all rfl)
  refine item_rev ht (Heap.IsSliceOf.new _ vl vu vs) pl pu ps ?_ (by rw [List.size_toArray]; omega)
  refine ⟨.ref _, _, I5.laid (t' := s4.toks) (o := .tup xs.reverse) (fun b ob q => Heap.get?_push_of_some _ q) (Nat.le_refl _) ?_, rfl, q _ (I5.hok.fresh (Nat.le_refl _))⟩
  exact ⟨by rw [List.length_reverse]; exact hz, _, r.reverse, IsTup.new _ _⟩
theorem pe_or {e : Expr} {t t' : TE} (h : PE X e t) (h' : PE X e t') : PE X e (fun σ H Q => t σ H Q ∨ t' σ H Q) := ⟨fun pins s σ H Q I q => q.elim (fun q => h.run pins s σ H Q I q) fun q => h'.run pins s σ H Q I q⟩
def mRevQ (a : Sm W) : Sm W := fun Δ M => match a Δ M with
  | some (.d t (.tuple xs), M1) => some (.d t (.tuple xs.reverse), M1)
  | some (w, M1) => (match rdL w M1 with
    | some (t, xs) => some (.d t (.list xs.reverse), M1)
    | none => none)
  | none => none
theorem pe_mrevq {e : Expr} {m : Sm W} {k : Nat} {p1 p2 p3 pos : Pos} (he : PE X e (tOf X.K m)) : PE X (.Subscript e (.Slice none none (some (.UnaryOp .USub (.Constant (.int 1) k p1) p2)) p3) pos) (tOf X.K (mRevQ m)) := by
  refine pe_imp (pe_or (pe_revT he) (pe_revL he)) fun σ H Q ⟨Z, φ, Δ, M, w, M', R, h, q⟩ => ?_
  unfold mRevQ at h
  split at h
  · rename_i t xs M1 hx
    cases h
    refine .inl ⟨Z, φ, Δ, M, _, _, R, hx, fun v φ1 H1 e1 m1 r1 => ?_⟩
    cases r1 with
    | tup h1 h2 => exact ⟨_, _, rfl, (tupU (sq_t fz_sub h1)).sq, (q.step e1).newT m1 (dpa_rev h2)⟩
  · rename_i w1 M1 _ hx
    split at h
    · rename_i t xs hr
      cases h
      refine .inr ⟨Z, φ, Δ, M, w1, _, R, hx, fun v φ1 H1 e1 m1 r1 => ?_⟩
      obtain ⟨a, vs, rfl, ha, hd⟩ := rdL_ok m1 r1 hr
      exact ⟨a, vs, rfl, ha, (q.step e1).newL m1 (dpa_rev hd)⟩
    · cases h
  · cases h
end
end Ek

/-! Ek8: the meaning of a text, and that it is so -/
namespace Ek
open PySem PySem.Spec PyProof.Rows L2
structure FE where
  ps : List Str
  f : Fd
  kw : List (List Str × List Nat)
structure GE where
  fn : List (Str × FE)
  cst : List (Str × Bool × PD)
  bl : List Str
def isStar : Expr → Bool
  | .Starred _ _ => true
  | _ => false
def isComp : Expr → Bool
  | .ListComp _ _ _ _ => true
  | .SetComp _ _ _ _ => true
  | .DictComp _ _ _ _ _ => true
  | _ => false
def isSet : Expr → Bool
  | .Set _ _ _ => true
  | _ => false
def slotOf (N : List Str) (sc : Scope) (x : Str) : Option Nat :=
  if (x == ("__debug__" : Str)) = false ∧ (x == ("__classdict__" : Str)) = false ∧ (sc.names.lookup x = some .local ∨ sc.names.lookup x = some .cell ∨ sc.names.lookup x = some .free) then N.findIdx? (fun y => y == x) else none
def locOf (N : List Str) (sc : Scope) (ok : Str → Bool) (x : Str) : Option Nat :=
  if ok x = true ∧ (sc.names.lookup x = some .local ∨ sc.names.lookup x = some .cell) then N.findIdx? (fun y => y == x) else none
def isGl (sc : Scope) (x : Str) : Bool := decide (sc.names.lookup x = some .globalImplicit) && !(x == ("__debug__" : Str)) && !(x == ("__name__" : Str))
def rl (scope sc : Scope) : Scope := { scope with names := scope.names.map fun (n, k) => if (k == .free && sc.kind == .function && sc.names.lookup n == some .cell) then (n, .cell) else (n, k) }
def ownOf (N : List Str) (scope : Scope) : List (Str × Nat) := scope.names.filterMap fun y => match y.2 with
  | .local => (N.findIdx? (fun z => z == y.1)).map fun i => (y.1, i)
  | .cell => (N.findIdx? (fun z => z == y.1)).map fun i => (y.1, i)
  | _ => none
theorem findIdx_at {N : List Str} {x : Str} {i : Nat} (h : N.findIdx? (fun y => y == x) = some i) : N[i]? = some x := by
  rw [List.findIdx?_eq_some_iff_getElem] at h
  obtain ⟨hi, h1, _⟩ := h
  rw [List.getElem?_eq_getElem hi]
  exact congrArg some (eq_of_beq h1)
/-! ### targets -/
mutual
def denG (N : List Str) (sc : Scope) (ok : Str → Bool) : Nat → Expr → Option (Tg × List Nat)
  | 0, _ => none
  | n + 1, e => match e with
    | .Name x _ => (match locOf N sc ok x with
      | some i => some (gNm i, [i])
      | none => none)
    | .Tuple es _ _ => if es.any isStar = true then none else (match denGs N sc ok n es with
      | some (r, S) => some (gTp r, S)
      | none => none)
    | _ => none
def denGs (N : List Str) (sc : Scope) (ok : Str → Bool) : Nat → List Expr → Option (Tgs × List Nat)
  | 0, _ => none
  | n + 1, [] => some (gsNil, [])
  | n + 1, e :: es => match denG N sc ok n e with
    | some (g, S) => (match denGs N sc ok n es with
      | some (r, T) => some (gsCons g r, S ++ T)
      | none => none)
    | none => none
end
theorem each_star {e : Expr} {es : List Expr} (h : isStar e = false) (env : Env) : starEach (e :: es) env = (false, eval e env) :: starEach es env := by
  cases e <;> first | rfl | cases h
theorem each_stars : ∀ {es : List Expr} (_ : es.any isStar = false) (env : Env) (pos : Pos), (backTo pos (starEach es env)).any (·.1) = false
  | [], _, _, _ => rfl
  | e :: es, h, env, pos => by
    rw [List.any_cons, Bool.or_eq_false_iff] at h
    rw [each_star h.1]
    show (false || (backTo pos (starEach es env)).any (·.1)) = false
    rw [each_stars h.2 env pos]
    rfl
theorem each_asg {e : Expr} {es : List Expr} (h : isStar e = false) (env : Env) : assignEach (e :: es) env = (false, assign e env) :: assignEach es env := by
  cases e <;> first | rfl | cases h
theorem each_asgs : ∀ {es : List Expr} (_ : es.any isStar = false) (env : Env), (assignEach es env).length = es.length ∧ (assignEach es env).findIdx? (·.1) = none
  | [], _, _ => ⟨rfl, rfl⟩
  | e :: es, h, env => by
    rw [List.any_cons, Bool.or_eq_false_iff] at h
    obtain ⟨h1, h2⟩ := each_asgs h.2 env
    rw [each_asg h.1]
    refine ⟨by simp [h1], ?_⟩
    rw [List.findIdx?_cons, h2]
    rfl
theorem denGs_len {N : List Str} {sc : Scope} {ok : Str → Bool} : ∀ (n : Nat) {es : List Expr} {r : Tgs} {S : List Nat}, denGs N sc ok n es = some (r, S) → ∀ t xs Δ Δ', r t xs Δ = some Δ' → xs.length = es.length
  | 0, _, _, _, h => by cases h
  | n + 1, [], r, S, h => by
    cases h
    intro t xs Δ Δ' h
    cases xs with
    | nil => rfl
    | cons x xs => cases h
  | n + 1, e :: es, r, S, h => by
    simp only [denGs] at h
    split at h
    · rename_i g S1 hg
      split at h
      · rename_i r1 T hr
        cases h
        intro t xs Δ Δ' h
        cases xs with
        | nil => cases h
        | cons x xs =>
          simp only [gsCons] at h
          split at h
          · rename_i Δ1 h1
            simp [denGs_len n hr t xs Δ1 Δ' h]
          · cases h
      · cases h
    · cases h
section
variable {X : Cx}
def OkT (X : Cx) (ok : Str → Bool) : Prop := ∀ x, ok x = true → X.fn x = true ∨ X.env.scope.names.lookup x = some .local
mutual
theorem denG_ok (hN : X.N.Nodup) (hc : X.calm = true) {ok : Str → Bool} (hok : OkT X ok) : ∀ (n : Nat) (e : Expr) (g : Tg) (S : List Nat), denG X.N X.env.scope ok n e = some (g, S) → PG X e (tOfG X.K g S)
  | 0, _, _, _, h => by cases h
  | n + 1, e, g, S, h => by
    cases e with
    | Name x pos =>
      simp only [denG] at h
      split at h
      · rename_i i hi
        cases h
        unfold locOf at hi
        split at hi
        · rename_i hh
          exact pg_mnm hN (findIdx_at hi) hh.2 (hok x hh.1)
        · cases hi
      · cases h
    | Tuple es k pos =>
      simp only [denG] at h
      split at h
      · cases h
      · rename_i hs
        have hs' : es.any isStar = false := by simpa using hs
        split at h
        · rename_i r T hr
          cases h
          obtain ⟨h1, h2⟩ := each_asgs hs' X.env
          exact pg_mtp hc (denGs_ok hN hc hok n es r _ hs' hr) (denGs_len n hr) h1 h2
        · cases h
    | _ => cases h
theorem denGs_ok (hN : X.N.Nodup) (hc : X.calm = true) {ok : Str → Bool} (hok : OkT X ok) : ∀ (n : Nat) (es : List Expr) (r : Tgs) (S : List Nat), es.any isStar = false → denGs X.N X.env.scope ok n es = some (r, S) → PGs X es (tOfGs X.K r S)
  | 0, _, _, _, _, h => by cases h
  | n + 1, [], r, S, _, h => by cases h; exact pgs_mnil
  | n + 1, e :: es, r, S, hs, h => by
    simp only [denGs] at h
    rw [List.any_cons, Bool.or_eq_false_iff] at hs
    split at h
    · rename_i g S1 hg
      split at h
      · rename_i r1 T hr
        cases h
        exact pgs_mcons (denG_ok hN hc hok n e g S1 hg) (denGs_ok hN hc hok n es r1 T hs.2 hr) (by rw [each_asg hs.1]; rfl)
      · cases h
    · cases h
end
end
/-! ### operators by their names -/
def binD : Operator → Option (W → W → MS → Option (W × MS))
  | .Add => some gAdd
  | .Sub => some gSub
  | .Mult => some gMul
  | .FloorDiv => some gFdiv
  | .Mod => some gMod
  | .Pow => some gPow
  | _ => none
theorem binD_ok {X : Cx} {op : Operator} {g : W → W → MS → Option (W × MS)} (h : binD op = some g) : ∃ r, OpR X (binaryOp op) r ∧ OpD X.K r g := by
  cases op <;> first | cases h | skip
  · exact ⟨_, op_addR, gAdd_ok⟩
  · exact ⟨_, op_sub, gSub_ok⟩
  · exact ⟨_, op_mulR, gMul_ok⟩
  · exact ⟨_, op_mod, gMod_ok⟩
  · exact ⟨_, op_pow, gPow_ok⟩
  · exact ⟨_, op_fdivW, gFdiv_ok⟩
def cmpD : CmpOp → Option (W → W → MS → Option (W × MS))
  | .Eq => some gEq
  | .NotEq => some gNe
  | .Lt => some gLt
  | .LtE => some gLe
  | .Gt => some gGt
  | .GtE => some gGe
  | .In => some (gIn false)
  | .NotIn => some (gIn true)
  | _ => none
theorem gIn_ok {K : PySem.W.Frag} : OpD K (rInD K) (gIn false) := by
  intro Z φ M H x y wx wy w M' Q m rx ry hg q
  unfold gIn at hg
  split at hg
  · rename_i d ds h1 h2
    split at hg
    · rename_i hc
      cases hg
      refine ⟨d, ds, dq_dp _ (rdD_ok m rx h1), dq_dp _ (rdD_ok m ry h2), hc.1, hc.2, q.same m ?_⟩
      rw [Bool.false_bne]
      exact .bl _
    · cases hg
  · cases hg
theorem gNotIn_ok {K : PySem.W.Frag} : OpD K (rNotInD K) (gIn true) := by
  intro Z φ M H x y wx wy w M' Q m rx ry hg q
  unfold gIn at hg
  split at hg
  · rename_i d ds h1 h2
    split at hg
    · rename_i hc
      cases hg
      refine ⟨d, ds, dq_dp _ (rdD_ok m rx h1), dq_dp _ (rdD_ok m ry h2), hc.1, hc.2, q.same m ?_⟩
      rw [Bool.true_bne]
      exact .bl _
    · cases hg
  · cases hg
theorem cmpD_ok {X : Cx} (hu : X.A.units + 65 < cLine) {op : CmpOp} {g : W → W → MS → Option (W × MS)} (h : cmpD op = some g) : ∃ r, OpR X (compareOp op) r ∧ OpD X.K r g := by
  have hu' : X.A.units + 64 < cLine := Nat.lt_of_succ_lt hu
  cases op <;> first | cases h | skip
  · exact ⟨_, op_eqD hu', gEq_ok⟩
  · exact ⟨_, op_neD hu', gNe_ok⟩
  · exact ⟨_, op_lt, gI_ok fun _ _ _ => .bl _⟩
  · exact ⟨_, op_le, gI_ok fun _ _ _ => .bl _⟩
  · exact ⟨_, op_gt, gI_ok fun _ _ _ => .bl _⟩
  · exact ⟨_, op_ge, gI_ok fun _ _ _ => .bl _⟩
  · exact ⟨_, op_inD hu, gIn_ok⟩
  · exact ⟨_, op_notInD hu, gNotIn_ok⟩
end Ek

/-! Ek9: expressions -/
namespace Ek
open PySem PySem.Spec PyProof.Rows L2
/-! ### built-ins by their names -/
def blD (x : Str) : Option Fd :=
  if x = "len" then some bLen else if x = "abs" then some bAbs else if x = "max" then some bMax else if x = "min" then some bMin else if x = "int" then some bInt
  else if x = "sum" then some bSum else if x = "all" then some bAll else if x = "any" then some bAny else if x = "tuple" then some bTuple else if x = "list" then some bList else if x = "divmod" then some bDivmod else none
theorem blD_ok {X : Cx} (hc : X.calm = true) {x : Str} {g : Fd} (h : blD x = some g) :
    ∃ r, FnD X.K r g ∧ ((∃ id, CallR X (.builtin id) r ∧ bootBuiltins x = some (.builtin id)) ∨ ∃ T, CallR X (.type T) r ∧ bootBuiltins x = some (.type T)) := by
  unfold blD at h
  split at h
  · rename_i e; cases h; subst e; exact ⟨_, bLen_ok, .inl ⟨_, call_len, by decide +kernel⟩⟩
  split at h
  · rename_i e; cases h; subst e; exact ⟨_, bI1_ok, .inl ⟨_, call_abs, by decide +kernel⟩⟩
  split at h
  · rename_i e; cases h; subst e; exact ⟨_, bI2_ok, .inl ⟨_, call_max2 hc, by decide +kernel⟩⟩
  split at h
  · rename_i e; cases h; subst e; exact ⟨_, bI2_ok, .inl ⟨_, call_min2 hc, by decide +kernel⟩⟩
  split at h
  · rename_i e; cases h; subst e; exact ⟨_, bInt_ok, .inr ⟨_, call_int1, by decide +kernel⟩⟩
  split at h
  · rename_i e; cases h; subst e; exact ⟨_, bSum_ok, .inl ⟨_, cr_sum hc, by decide +kernel⟩⟩
  split at h
  · rename_i e; cases h; subst e; exact ⟨_, bBs_ok, .inl ⟨_, cr_all hc, by decide +kernel⟩⟩
  split at h
  · rename_i e; cases h; subst e; exact ⟨_, bBs_ok, .inl ⟨_, cr_any hc, by decide +kernel⟩⟩
  split at h
  · rename_i e; cases h; subst e; exact ⟨_, bTuple_ok, .inr ⟨_, call_tuple_of, by decide +kernel⟩⟩
  split at h
  · rename_i e; cases h; subst e; exact ⟨_, bList_ok, .inr ⟨_, call_list_of, by decide +kernel⟩⟩
  split at h
  · rename_i e; cases h; subst e; exact ⟨_, bDivmod_ok, .inl ⟨_, call_divmod, by decide +kernel⟩⟩
  · cases h
/-- a built-in class by its name, for isinstance -/
def tyD (x : Str) : Option String := if x = "tuple" then some "tuple" else if x = "int" then some "int" else if x = "bool" then some "bool" else if x = "str" then some "str" else if x = "list" then some "list" else none
theorem tyD_ok {x : Str} {T : String} (h : tyD x = some T) : bootBuiltins x = some (.type T) := by
  unfold tyD at h
  split at h
  · rename_i e; cases h; subst e; decide +kernel
  split at h
  · rename_i e; cases h; subst e; decide +kernel
  split at h
  · rename_i e; cases h; subst e; decide +kernel
  split at h
  · rename_i e; cases h; subst e; decide +kernel
  split at h
  · rename_i e; cases h; subst e; decide +kernel
  · cases h
/-! ### the meaning -/
def andsE : List (Sm W) → Sm W
  | [] => mNo
  | [a] => a
  | a :: r => mAnd a (andsE r)
def orsE : List (Sm W) → Sm W
  | [] => mNo
  | [a] => a
  | a :: r => mOr a (orsE r)
def andsT : List (Sm Bool) → Sm Bool
  | [] => mNo
  | [a] => a
  | a :: r => tAnd' a (andsT r)
def orsT : List (Sm Bool) → Sm Bool
  | [] => mNo
  | [a] => a
  | a :: r => tOr' a (orsT r)
def constD : Const → Option PD
  | .none => some .none
  | .bool b => some (.bool b)
  | .int i => some (.int i)
  | .str s => some (.str s)
  | _ => none
def kwNames : List Keyword → Option (List Str)
  | [] => some []
  | ⟨some x, _, _⟩ :: r => match kwNames r with
    | some l => some (x :: l)
    | none => none
  | _ => none
/-- by the name that is called -/
def callD (G : GE) (sc : Scope) (f : Str) (as : List (Sm W)) : Sm W :=
  if isGl sc f = true then (match G.fn.lookup f with
    | some fe => mCall fe.ps.length fe.f (mArgs as)
    | none => if as.isEmpty = false ∧ G.bl.contains f = true then (match blD f with
      | some g => mFn g (mArgs as)
      | none => mNo) else mNo)
  else mNo
def callKD (G : GE) (sc : Scope) (f : Str) (as ks : List (Sm W)) (names : Option (List Str)) : Sm W :=
  if isGl sc f = true then (match G.fn.lookup f, names with
    | some fe, some l => (match fe.kw.lookup l with
      | some pm => mCallK fe.ps.length (fe.ps.length - l.length) l.length pm fe.f (mArgs as) (mArgs ks)
      | none => mNo)
    | _, _ => mNo)
  else mNo
def nameD (G : GE) (N : List Str) (sc : Scope) (x : Str) : Sm W := match slotOf N sc x with
  | some i => mVar i
  | none => if isGl sc x = true then (match G.cst.lookup x with
    | some (t, d) => mD t d
    | none => mNo) else mNo
def isRev : Option Expr → Option Expr → Expr → Bool
  | none, none, .UnaryOp .USub (.Constant (.int i) _ _) _ => decide (i = 1)
  | _, _, _ => false
def ifsD (m : Expr → Sm Bool) : List Expr → Sm Bool
  | [] => tTrue
  | [c] => m c
  | _ => mNo
def isSS (f : Str) : List Expr → Bool
  | [.Call (.Name g _) [_] [] _] => decide (f = "sorted") && decide (g = "set")
  | _ => false
def kwVal : Keyword → Expr
  | ⟨_, e, _⟩ => e
mutual
def denE (G : GE) (N : List Str) : Nat → Scope → Expr → Sm W
  | 0, _, _ => mNo
  | n + 1, sc, e => match e with
    | .Name x _ => nameD G N sc x
    | .Constant c _ _ => (match constD c with
      | some d => mD true d
      | none => mNo)
    | .Tuple es _ _ => if es.any isStar = true then mNo else mTup (mArgs (es.map (denE G N n sc)))
    | .List es pos => mOld (denN G N n sc (.List es pos))
    | .ListComp elt gens scope pos => mOld (denN G N n sc (.ListComp elt gens scope pos))
    | .BinOp a op b _ => (match binD op with
      | some g => mBin g (denE G N n sc a) (denE G N n sc b)
      | none => mNo)
    | .UnaryOp op a _ => (match op with
      | .USub => mUn gNeg (denE G N n sc a)
      | .Not => mUn gNot (denE G N n sc a)
      | _ => mNo)
    | .BoolOp op vs _ => (match op with
      | .And => andsE (vs.map (denE G N n sc))
      | .Or => orsE (vs.map (denE G N n sc)))
    | .IfExp c a b _ => mIf (denT G N n sc c) (denE G N n sc a) (denE G N n sc b)
    | .Compare l ops cs _ => (match ops, cs with
      | [.Is], [.Constant .none _ _] => mUn gIs (denE G N n sc l)
      | [.IsNot], [.Constant .none _ _] => mUn gIsN (denE G N n sc l)
      | [op], [r] => (match cmpD op with
        | some g => if behindInMarks op r = false then mBin g (denE G N n sc l) (denE G N n sc r) else mNo
        | none => mNo)
      | [op, op'], [r, r'] => (match cmpD op, cmpD op' with
        | some g, some g' => if behindInMarks op' r' = false ∧ isSet r = false ∧ isSet r' = false then mChain g g' (denE G N n sc l) (denE G N n sc r) (denE G N n sc r') else mNo
        | _, _ => mNo)
      | _, _ => mNo)
    | .Call (.Name f p) as [] pos => if isSS f as = true then mOld (denN G N n sc (.Call (.Name f p) as [] pos)) else if as.any isStar = true then mNo else (match as with
      | [a, .Name T _] => if f = "isinstance" then (if isGl sc f = true ∧ G.bl.contains f = true ∧ (slotOf N sc T).isNone = true ∧ isGl sc T = true ∧ G.bl.contains T = true then (match tyD T with
          | some t => mUn (gIsi t) (denE G N n sc a)
          | none => mNo) else mNo) else callD G sc f (as.map (denE G N n sc))
      | _ => callD G sc f (as.map (denE G N n sc)))
    | .Call (.Name f _) as ks _ => if as.any isStar = true then mNo else callKD G sc f (as.map (denE G N n sc)) (ks.map fun k => denE G N n sc (kwVal k)) (kwNames ks)
    | .Call (.Attribute (.Name x p) m apos) [a] [] cpos => if m = "append" ∧ isStar a = false ∧ (apos.endLine == cpos.line) = true then mApp (denE G N n sc (.Name x p)) (denE G N n sc a) else mNo
    | .Subscript v (.Slice lo hi none _) _ => mSl (denE G N n sc v) (mPart (lo.map (denE G N n sc))) (mPart (hi.map (denE G N n sc)))
    | .Subscript v (.Slice lo hi (some st) _) _ => if isRev lo hi st = true then mRevQ (denE G N n sc v) else mNo
    | .Subscript v i _ => mBin gIx (denE G N n sc v) (denE G N n sc i)
    | _ => mNo
def denT (G : GE) (N : List Str) : Nat → Scope → Expr → Sm Bool
  | 0, _, _ => mNo
  | n + 1, sc, e => match e with
    | .UnaryOp .Not a _ => tNot' (denT G N n sc a)
    | .BoolOp .And vs _ => andsT (vs.map (denT G N n sc))
    | .BoolOp .Or vs _ => orsT (vs.map (denT G N n sc))
    | .IfExp _ _ _ _ => mNo
    | e => tB1 (denE G N n sc e)
/-- new lists -/
def denN (G : GE) (N : List Str) : Nat → Scope → Expr → Sm (Bool × List PD)
  | 0, _, _ => mNo
  | n + 1, sc, e => match e with
    | .List es _ => if es.any isStar = true then mNo else mLst (mArgs (es.map (denE G N n sc)))
    | .ListComp elt [⟨tg, iter, ifs, 0⟩] scope _ => (match denG N (rl scope sc) (fun x => decide (scope.names.lookup x = some .local ∨ scope.names.lookup x = some .cell)) n tg with
      | some (g, S) => if blkC N sc scope (ownOf N scope) = true ∧ S.all (((ownOf N scope).map (·.2)).contains ·) = true ∧ isSet iter = false then
          mLc (denI G N n sc iter) g (ifsD (denT G N n (rl scope sc)) ifs) (denE G N n (rl scope sc) elt) ((ownOf N scope).map (·.2)) else mNo
      | none => mNo)
    | .Call (.Name f _) [.Call (.Name g _) [e] [] _] [] _ => if f = "sorted" ∧ g = "set" ∧ isGl sc f = true ∧ isGl sc g = true ∧ G.bl.contains f = true ∧ G.bl.contains g = true ∧ isStar e = false then mSortSet (denE G N n sc e) else mNo
    | _ => mNo
/-- what is walked -/
def denI (G : GE) (N : List Str) : Nat → Scope → Expr → Sm (Bool × List PD)
  | 0, _, _ => mNo
  | n + 1, sc, e => match e with
    | .Call (.Name f p) [a] [] pos => if f = "range" then (if isGl sc f = true ∧ G.bl.contains f = true ∧ isStar a = false then mRange1 (mArgs [denE G N n sc a]) else mNo) else mItems (denE G N n sc (.Call (.Name f p) [a] [] pos))
    | .Call (.Name f p) [a, b] [] pos => if f = "range" then (if isGl sc f = true ∧ G.bl.contains f = true ∧ isStar a = false ∧ isStar b = false then mRange2 (mArgs [denE G N n sc a, denE G N n sc b]) else mNo) else mItems (denE G N n sc (.Call (.Name f p) [a, b] [] pos))
    | e => mItems (denE G N n sc e)
end
end Ek

/-! Ek10: expressions mean what they are -/
namespace Ek
open PySem PySem.Spec PyProof.Rows L2
structure GOk (X : Cx) (G : GE) (k : Nat) : Prop where
  nd : X.N.Nodup
  calm : X.calm = true
  xe : X.xe = fun _ _ => False
  room : Room k X.A
  fn : ∀ x fe, G.fn.lookup x = some fe → ∃ a fd, X.mg x = some (.ref a) ∧ FnOk X.prog X.w X.K X.mg X.base CX0 k a fd fe.ps (spOf X.K fe.ps.length fe.f) ∧ PySem.W.keepIn X.K (.ref a) = true ∧ Binds X.K fd fe.ps [] ∧ ∀ l pm, fe.kw.lookup l = some pm → KwOk X.K fd fe.ps l pm
  cst : ∀ x t d, G.cst.lookup x = some (t, d) → ∃ u v, X.mg x = some u ∧ RelV v u ∧ ∀ H, Dq (kk t X.K) H v d
  bl : ∀ x, G.bl.contains x = true → X.mg x = none
theorem GOk.blk {X : Cx} {G : GE} {k : Nat} (g : GOk X G k) (s : Shared) (H : Hp) (scope : Scope) (env : Env) (fp : List Addr) : GOk (X.blk s H scope env fp) G k :=
  ⟨g.nd, g.calm, rfl, g.room, g.fn, g.cst, g.bl⟩
theorem GOk.units {X : Cx} {G : GE} {k : Nat} (g : GOk X G k) : X.A.units + 65 < cLine := by have := g.room.un; omega
section
variable {X : Cx} {G : GE} {k : Nat}
theorem gl_of {x : Str} (h : isGl X.env.scope x = true) : Gl X x ∧ (x == ("__debug__" : Str)) = false ∧ x ≠ "__name__" := by
  unfold isGl at h
  simp only [Bool.and_eq_true, decide_eq_true_eq, Bool.not_eq_true'] at h
  exact ⟨h.1.1, h.1.2, fun e => by rw [e] at h; simp at h⟩
theorem name_ok (g : GOk X G k) {x : Str} {pos : Pos} : PE X (.Name x pos) (tOf X.K (nameD G X.N X.env.scope x)) := by
  unfold nameD
  split
  · rename_i i hi
    unfold slotOf at hi
    split at hi
    · rename_i hh
      exact pe_mvar (findIdx_at hi) hh.2.2 hh.1 hh.2.1
    · cases hi
  · split
    · rename_i hg
      obtain ⟨h1, h2, h3⟩ := gl_of hg
      split
      · rename_i t d hc
        obtain ⟨u, v, hm, r, hd⟩ := g.cst x t d hc
        exact pe_md (pe_glob h1 hm r h2) hd
      · exact pe_no fun _ _ => rfl
    · exact pe_no fun _ _ => rfl
theorem const_ok {c : Const} {j : Nat} {pos : Pos} : PE X (.Constant c j pos) (tOf X.K (match constD c with | some d => mD true d | none => mNo)) := by
  cases c with
  | none => exact pe_md pe_non fun _ => .non
  | bool b => exact pe_md pe_bl fun _ => .bl _
  | int i => exact pe_md pe_int fun _ => .int _
  | str s => exact pe_md pe_str fun _ => .str _
  | _ => exact pe_no fun _ _ => rfl
theorem args_ok {m : Expr → Sm W} : ∀ {es : List Expr}, es.any isStar = false → (∀ e, PE X e (tOf X.K (m e))) → PA X es (tOfA X.K (mArgs (es.map m)))
  | [], _, _ => pa_mnil
  | e :: es, h, hp => by
    rw [List.any_cons, Bool.or_eq_false_iff] at h
    exact pa_mcons (hp e) (args_ok h.2 hp) (each_star h.1 X.env)
theorem kws_ok {m : Expr → Sm W} (hp : ∀ e, PE X e (tOf X.K (m e))) : ∀ {ks : List Keyword}, PK X ks (tOfA X.K (mArgs (ks.map fun k => m (kwVal k))))
  | [] => pk_mnil
  | ⟨_, e, _⟩ :: ks => pk_mcons (hp e) (kws_ok hp)
theorem kw_names {env : Env} {pos : Pos} : ∀ {ks : List Keyword} {l : List Str}, kwNames ks = some l → (backToKw pos (keywordEach ks env)).all (·.1.isSome) = true ∧ (backToKw pos (keywordEach ks env)).filterMap (·.1) = l ∧ (backToKw pos (keywordEach ks env)).any (·.1.isNone) = false
  | [], l, h => by cases h; exact ⟨rfl, rfl, rfl⟩
  | ⟨some x, e, p⟩ :: ks, l, h => by
    simp only [kwNames] at h
    split at h
    · rename_i l' hl
      cases h
      obtain ⟨h1, h2, h3⟩ := kw_names (env := env) (pos := pos) hl
      refine ⟨?_, ?_, ?_⟩
      · show (true && (backToKw pos (keywordEach ks env)).all (·.1.isSome)) = true
        rw [h1]; rfl
      · show x :: (backToKw pos (keywordEach ks env)).filterMap (·.1) = _
        rw [h2]
      · show (false || (backToKw pos (keywordEach ks env)).any (·.1.isNone)) = false
        rw [h3]; rfl
    · cases h
  | ⟨none, e, p⟩ :: ks, l, h => by cases h
theorem call_ok (g : GOk X G k) {f : Str} {as : List Expr} {m : Expr → Sm W} (hs : as.any isStar = false) (hp : ∀ e, PE X e (tOf X.K (m e))) {p pos : Pos} : PE X (.Call (.Name f p) as [] pos) (tOf X.K (callD G X.env.scope f (as.map m))) := by
  unfold callD
  split
  · rename_i hg
    obtain ⟨h1, h2, h3⟩ := gl_of hg
    split
    · rename_i fe hf
      obtain ⟨a, fd, hm, F, hk, hb, _⟩ := g.fn f fe hf
      cases as with
      | nil => exact pe_mcall0 F g.room h1 hm hk hb h2
      | cons e es =>
        have hs' := hs
        rw [List.any_cons, Bool.or_eq_false_iff] at hs'
        exact pe_mcall F g.room h1 hm hk hb (args_ok hs hp) h2 (each_star hs'.1 _) (each_stars hs'.2 _ _)
    · split
      · rename_i hb
        split
        · rename_i gf hbl
          obtain ⟨r, hd, hc⟩ := blD_ok (X := X) g.calm hbl
          cases as with
          | nil => simp at hb
          | cons e es =>
            have hs' := hs
            rw [List.any_cons, Bool.or_eq_false_iff] at hs'
            rcases hc with ⟨id, hc, hv⟩ | ⟨T, hc, hv⟩
            · exact pe_mcb hd hc h1 (g.bl f hb.2) hv (args_ok hs hp) h3 h2 (each_star hs'.1 _) (each_stars hs'.2 _ _)
            · exact pe_mct hd hc h1 (g.bl f hb.2) hv (args_ok hs hp) h3 h2 (each_star hs'.1 _) (each_stars hs'.2 _ _)
        · exact pe_no fun _ _ => rfl
      · exact pe_no fun _ _ => rfl
  · exact pe_no fun _ _ => rfl
theorem callK_ok (g : GOk X G k) {f : Str} {as : List Expr} {ks : List Keyword} {m : Expr → Sm W} (hs : as.any isStar = false) (hp : ∀ e, PE X e (tOf X.K (m e))) {p pos : Pos} : PE X (.Call (.Name f p) as ks pos) (tOf X.K (callKD G X.env.scope f (as.map m) (ks.map fun k => m (kwVal k)) (kwNames ks))) := by
  unfold callKD
  split
  · rename_i hg
    obtain ⟨h1, h2, h3⟩ := gl_of hg
    split
    · rename_i fe l hf hl
      split
      · rename_i pm hpm
        obtain ⟨a, fd, hm, F, hk, hb, hkw⟩ := g.fn f fe hf
        obtain ⟨k1, k2, k3⟩ := kw_names (env := X.env) (pos := pos) hl
        cases as with
        | nil => exact pe_mcallK0 F g.room h1 hm hk (hkw l pm hpm) (kws_ok hp) k1 k2 h2 (by rw [k3]; rfl)
        | cons e es =>
          have hs' := hs
          rw [List.any_cons, Bool.or_eq_false_iff] at hs'
          exact pe_mcallK F g.room h1 hm hk (hkw l pm hpm) (args_ok hs hp) (kws_ok hp) k1 k2 h2 (each_star hs'.1 _) (by rw [k3, each_stars hs]; rfl)
      · exact pe_no fun _ _ => rfl
    · exact pe_no fun _ _ => rfl
  · exact pe_no fun _ _ => rfl
theorem ands_ok {m : Expr → Sm W} (hp : ∀ e, PE X e (tOf X.K (m e))) {pos : Pos} : ∀ {vs : List Expr}, PE X (.BoolOp .And vs pos) (tOf X.K (andsE (vs.map m)))
  | [] => pe_no fun _ _ => rfl
  | [a] => pe_one (hp a)
  | a :: b :: r => pe_mand (hp a) (ands_ok hp (vs := b :: r)) rfl
theorem ors_ok {m : Expr → Sm W} (hp : ∀ e, PE X e (tOf X.K (m e))) {pos : Pos} : ∀ {vs : List Expr}, PE X (.BoolOp .Or vs pos) (tOf X.K (orsE (vs.map m)))
  | [] => pe_no fun _ _ => rfl
  | [a] => pe_one (hp a)
  | a :: b :: r => pe_mor (hp a) (ors_ok hp (vs := b :: r)) rfl
theorem andT_ok {m : Expr → Sm Bool} (hp : ∀ e, PT X e (tOfT X.K (m e))) {pos : Pos} : ∀ {a : Expr} {vs : List Expr}, PW X (.BoolOp .And (a :: vs) pos) (tOfT X.K (andsT ((a :: vs).map m)))
  | a, [] => pw_and1 (hp a)
  | a, b :: r => pw_imp (pw_and (hp a) (andT_ok hp (a := b) (vs := r))) tAnd_of
theorem orT_ok {m : Expr → Sm Bool} (hp : ∀ e, PT X e (tOfT X.K (m e))) {pos : Pos} : ∀ {a : Expr} {vs : List Expr}, PW X (.BoolOp .Or (a :: vs) pos) (tOfT X.K (orsT ((a :: vs).map m)))
  | a, [] => pw_or1 (hp a)
  | a, b :: r => pw_imp (pw_or (hp a) (orT_ok hp (a := b) (vs := r))) tOr_of
theorem tTest_of {K : PySem.W.Frag} {m : Sm W} {t : TE} (h : ∀ σ H Q, tOf K m σ H Q → t σ H Q) : ∀ σ H Q, tOfT K (tB1 m) σ H Q → t σ H fun x H' => ∃ k, x = .bl k ∧ Q k H' := by
  intro σ H Q ⟨Z, φ, Δ, M, b, M', R, hh, q⟩
  unfold tB1 at hh
  split at hh
  · rename_i t' k M1 hx
    cases hh
    refine h σ H _ ⟨Z, φ, Δ, M, _, M', R, hx, fun v φ1 H1 e1 m1 r1 => ?_⟩
    cases r1
    exact ⟨b, rfl, q φ1 H1 e1 m1⟩
  · cases hh
theorem foldS {iter : Expr} (h : isSet iter = false) (env : Env) : ∀ x, foldedSetIterable iter env x = pure x := by
  intro x
  cases iter <;> first | rfl | cases h
theorem chainMarks {op op' : CmpOp} {r r' : Expr} (h : isSet r = false) (h' : isSet r' = false) : behindInMarks op r = false ∧ behindInMarks op' r' = false := by
  constructor
  · cases r <;> first | rfl | cases h
  · cases r' <;> first | rfl | cases h'
end
end Ek

/-! Ek11: expressions mean what they are (the whole) -/
namespace Ek
open PySem PySem.Spec PyProof.Rows L2
structure SoundE (G : GE) (k n : Nat) : Prop where
  e : ∀ (X : Cx), GOk X G k → ∀ e, PE X e (tOf X.K (denE G X.N n X.env.scope e))
  t : ∀ (X : Cx), GOk X G k → ∀ e, PT X e (tOfT X.K (denT G X.N n X.env.scope e))
  l : ∀ (X : Cx), GOk X G k → ∀ e, PE X e (tOfN X.K (denN G X.N n X.env.scope e))
  c : ∀ (X : Cx), GOk X G k → ∀ l ops cs pos, PT X (.Compare l ops cs pos) (tOfT X.K (tB1 (denE G X.N n X.env.scope (.Compare l ops cs pos))))
  i : ∀ (X : Cx), GOk X G k → ∀ tg e, PI X tg e (tOfI X.K (denI G X.N n X.env.scope e))
section
variable {X : Cx} {G : GE} {k n : Nat} {e : Expr}
theorem pn_no : PE X e (tOfN X.K mNo) := ⟨fun pins s σ H Q I ⟨_, _, _, _, _, _, _, _, q, _⟩ => by cases q⟩
theorem pi_no {tg : Expr} : PI X tg e (tOfI X.K mNo) := ⟨fun pins s σ H Q I ⟨_, _, _, _, _, _, _, _, q, _⟩ => by cases q⟩
theorem cmp_ok (S : SoundE G k n) (g : GOk X G k) {l : Expr} {ops : List CmpOp} {cs : List Expr} {pos : Pos} :
    ∃ t : TE, (PE X (.Compare l ops cs pos) t ∧ PT X (.Compare l ops cs pos) (fun σ H Q => t σ H fun x H' => ∃ k, x = .bl k ∧ Q k H')) ∧ ∀ σ H Q, tOf X.K (denE G X.N (n + 1) X.env.scope (.Compare l ops cs pos)) σ H Q → t σ H Q := by
  have no : ∃ t : TE, (PE X (.Compare l ops cs pos) t ∧ PT X (.Compare l ops cs pos) (fun σ H Q => t σ H fun x H' => ∃ k, x = .bl k ∧ Q k H')) ∧ ∀ σ H Q, tOf X.K mNo σ H Q → t σ H Q :=
    ⟨fun _ _ _ => False, ⟨⟨fun _ _ _ _ _ _ h => h.elim⟩, ⟨fun _ _ _ _ _ _ h => h.elim⟩⟩, fun σ H Q ⟨_, _, _, _, _, _, _, q, _⟩ => by cases q⟩
  have pl := S.e X g l
  simp only [denE]
  split
  · refine ⟨_, ⟨pe_cmp (pc_isN pl) (by rfl), pt_cmp (pc_isN pl) (by rfl)⟩, fun σ H Q ⟨Z, φ, Δ, M, w, M', R, h, q⟩ => ?_⟩
    unfold mUn at h
    split at h
    · rename_i w1 M1 hx
      cases h
      refine ⟨Z, φ, Δ, M, w1, _, R, hx, fun v φ1 H1 e1 m1 r1 => ?_⟩
      show Q (V.bl (decide (v = V.non))) H1
      rw [isNon_ok r1]
      exact q _ φ1 H1 e1 m1 (.bl _)
    · cases h
  · refine ⟨_, ⟨pe_cmp (pc_notN pl) (by rfl), pt_cmp (pc_notN pl) (by rfl)⟩, fun σ H Q ⟨Z, φ, Δ, M, w, M', R, h, q⟩ => ?_⟩
    unfold mUn at h
    split at h
    · rename_i w1 M1 hx
      cases h
      refine ⟨Z, φ, Δ, M, w1, _, R, hx, fun v φ1 H1 e1 m1 r1 => ?_⟩
      show Q (V.bl (!decide (v = V.non))) H1
      rw [isNon_ok r1]
      exact q _ φ1 H1 e1 m1 (.bl _)
    · cases h
  · rename_i op r _ _
    split
    · rename_i gg hg
      split
      · rename_i hm
        obtain ⟨rr, ho, hd⟩ := cmpD_ok (X := X) g.units hg
        exact ⟨_, ⟨pe_cmpR ho pl (S.e X g r) hm, pt_cmpR ho pl (S.e X g r) hm⟩, tOp_of hd⟩
      · exact no
    · exact no
  · rename_i op op' r r'
    split
    · rename_i g1 g2 hg1 hg2
      split
      · rename_i hm
        obtain ⟨rr, ho, hd⟩ := cmpD_ok (X := X) g.units hg1
        obtain ⟨rr', ho', hd'⟩ := cmpD_ok (X := X) g.units hg2
        exact ⟨_, ⟨pe_chain ho ho' pl (S.e X g r) (S.e X g r') hm.1, pt_chain ho ho' pl (S.e X g r) (S.e X g r') hm.1⟩, tChain_of hd hd'⟩
      · exact no
    · exact no
  · exact no
theorem soundT (S : SoundE G k n) (g : GOk X G k) : PT X e (tOfT X.K (denT G X.N (n + 1) X.env.scope e)) := by
  cases e with
  | UnaryOp op a pos =>
    cases op with
    | Not => exact pt_mnot (S.t X g a)
    | _ => exact pt_mval (S.e X g _) fun _ => rfl
  | BoolOp op vs pos =>
    cases vs with
    | nil => cases op <;> exact pt_no fun _ _ => rfl
    | cons a vs =>
      cases op with
      | And => exact (andT_ok (S.t X g)).pt
      | Or => exact (orT_ok (S.t X g)).pt
  | IfExp c a b pos => exact pt_no fun _ _ => rfl
  | Compare l ops cs pos => exact S.c X g l ops cs pos
  | _ => exact pt_mval (S.e X g _) fun _ => rfl
theorem soundI (S : SoundE G k n) (g : GOk X G k) {tg : Expr} : PI X tg e (tOfI X.K (denI G X.N (n + 1) X.env.scope e)) := by
  unfold denI
  split
  · rename_i f p a pos
    split
    · rename_i hf
      subst hf
      split
      · rename_i hh
        obtain ⟨h1, h2, h3⟩ := gl_of hh.1
        exact pi_mrange1 h1 (g.bl _ hh.2.1) (pa_mcons (S.e X g a) pa_mnil (each_star hh.2.2 _)) (each_star hh.2.2 _)
      · exact pi_no
    · exact pi_mitems (S.e X g _)
  · rename_i f p a b pos
    split
    · rename_i hf
      subst hf
      split
      · rename_i hh
        obtain ⟨h1, h2, h3⟩ := gl_of hh.1
        have s2 := each_star (es := []) hh.2.2.2 X.env
        have s1 : starEach [a, b] X.env = [(false, eval a X.env), (false, eval b X.env)] := by rw [each_star hh.2.2.1, s2]; rfl
        exact pi_mrange2 h1 (g.bl _ hh.2.1) (pa_mcons (S.e X g a) (pa_mcons (S.e X g b) pa_mnil s2) (each_star hh.2.2.1 _)) s1 s2
      · exact pi_no
    · exact pi_mitems (S.e X g _)
  · exact pi_mitems (S.e X g _)
theorem rl_eq (scope : Scope) (cl : List (Str × Addr)) (C : Addr) (env : Env) : (compEnvC scope cl C env).scope = rl scope env.scope := rfl
theorem soundN (S : SoundE G k n) (g : GOk X G k) : PE X e (tOfN X.K (denN G X.N (n + 1) X.env.scope e)) := by
  unfold denN
  split
  · rename_i es pos
    split
    · exact pn_no
    · rename_i hs
      exact pe_mlst (args_ok (by simpa using hs) (S.e X g))
  · rename_i elt tg iter ifs scope pos
    split
    · rename_i gt S1 hg
      split
      · rename_i hh
        obtain ⟨hb, hS, hi⟩ := hh
        have hS' : ∀ i ∈ S1, i ∈ (ownOf X.N scope).map (·.2) := fun i h => by
          have := List.all_eq_true.mp hS i h
          simpa using this
        refine pe_imp (pe_lc (own := ownOf X.N scope) (tt := tOfT X.K (ifsD (denT G X.N n (rl scope X.env.scope)) ifs)) g.calm g.nd (S.i X g tg iter) (blkOk_by hb) (fun s H C cl fp => ?_) (fun s H C cl fp => ?_) (fun s H C cl fp => ?_) (foldS hi X.env)) (tLc_of hS')
        · refine denG_ok (X := X.blk s H scope (compEnvC scope cl C X.env) fp) g.nd g.calm (fun x hx => ?_) n tg gt S1 hg
          rw [decide_eq_true_eq] at hx
          rcases hx with hx | hx
          · exact .inr (lookup_relabel_local hx)
          · refine .inl ?_
            show (scope.names.lookup x == some .cell) = true
            rw [hx]; rfl
        · match ifs with
          | [] => exact ⟨fun pins s σ H Q I ⟨Z, φ, Δ, M, b, M', R, h, q⟩ => by cases h; exact pts_nil.run pins s σ H Q I (q φ H Ext.refl R.mem)⟩
          | [c] => exact pts_one (S.t (X.blk s H scope (compEnvC scope cl C X.env) fp) (g.blk _ _ _ _ _) c)
          | _ :: _ :: _ => exact ⟨fun pins s σ H Q I ⟨Z, φ, Δ, M, b, M', R, h, q⟩ => by cases h⟩
        · exact S.e (X.blk s H scope (compEnvC scope cl C X.env) fp) (g.blk _ _ _ _ _) elt
      · exact pn_no
    · exact pn_no
  · rename_i f p g2 p2 e pos2 pos
    split
    · rename_i hh
      obtain ⟨h1, h2, h3, h4, h5, h6, h7⟩ := hh
      subst h1
      subst h2
      exact pe_msortset g.calm (gl_of h3).1 (g.bl _ h5) (gl_of h4).1 (g.bl _ h6) (S.e X g e) (each_star h7 _)
    · exact pn_no
  · exact pn_no
theorem soundC (S : SoundE G k n) (g : GOk X G k) (l : Expr) (ops : List CmpOp) (cs : List Expr) (pos : Pos) : PT X (.Compare l ops cs pos) (tOfT X.K (tB1 (denE G X.N (n + 1) X.env.scope (.Compare l ops cs pos)))) := by
  obtain ⟨t, ⟨_, h⟩, i⟩ := cmp_ok S g (l := l) (ops := ops) (cs := cs) (pos := pos)
  exact pt_imp h (tTest_of i)
theorem baseS {x : Str} {p : Pos} {m : Str} {env : Env} : attributeBase (.Name x p) m env (eval (.Name x p) env) = eval (.Name x p) env := rfl
theorem plainIx {i : Expr} (h : ∀ a b c p, i ≠ .Slice a b c p) : PlainIx i := by
  intro o j
  cases i <;> first | rfl | exact absurd rfl (h _ _ _ _)
theorem soundCall (S : SoundE G k n) (g : GOk X G k) {f : Expr} {as : List Expr} {ks : List Keyword} {pos : Pos} : PE X (.Call f as ks pos) (tOf X.K (denE G X.N (n + 1) X.env.scope (.Call f as ks pos))) := by
  cases f with
  | Name f p =>
    cases ks with
    | nil =>
      simp only [denE]
      split
      · exact pe_mold (S.l X g _)
      split
      · exact pe_no fun _ _ => rfl
      · rename_i hs
        have hs' : as.any isStar = false := by simpa using hs
        split
        · rename_i a T pT _
          split
          · rename_i hf
            subst hf
            split
            · rename_i hh
              obtain ⟨h1, h2, h3, h4, h5⟩ := hh
              obtain ⟨g1, g2, g3⟩ := gl_of h1
              obtain ⟨t1, t2, t3⟩ := gl_of h4
              split
              · rename_i t ht
                rw [List.any_cons, Bool.or_eq_false_iff] at hs'
                exact pe_misi g1 (g.bl _ h2) (S.e X g a) (pe_bltn t1 (g.bl _ h5) (tyD_ok ht) rfl t3 t2) (each_star hs'.1 _)
              · exact pe_no fun _ _ => rfl
            · exact pe_no fun _ _ => rfl
          · exact call_ok g hs' (S.e X g)
        · exact call_ok g hs' (S.e X g)
    | cons q ks =>
      show PE X _ (tOf X.K (if as.any isStar = true then mNo else callKD G X.env.scope f (as.map (denE G X.N n X.env.scope)) ((q :: ks).map fun k => denE G X.N n X.env.scope (kwVal k)) (kwNames (q :: ks))))
      split
      · exact pe_no fun _ _ => rfl
      · rename_i hs
        exact callK_ok g (by simpa using hs) (S.e X g)
  | Attribute o m ap =>
    cases o with
    | Name x p =>
      match as, ks with
      | [a], [] =>
        simp only [denE]
        split
        · rename_i hh
          obtain ⟨h1, h2, h3⟩ := hh
          subst h1
          exact pe_mapp (S.e X g _) (S.e X g a) baseS (each_star h2 _) h3
        · exact pe_no fun _ _ => rfl
      | [], _ => exact pe_no fun _ _ => rfl
      | _ :: _ :: _, _ => exact pe_no fun _ _ => rfl
      | [_], _ :: _ => exact pe_no fun _ _ => rfl
    | _ => exact pe_no fun _ _ => rfl
  | _ => exact pe_no fun _ _ => rfl
theorem part_ok (S : SoundE G k n) (g : GOk X G k) {o : Option Expr} : PO X o (tOfO X.K (mPart (o.map (denE G X.N n X.env.scope)))) := by
  cases o with
  | none => exact po_mnone
  | some e => exact po_msome (S.e X g e)
theorem soundSub (S : SoundE G k n) (g : GOk X G k) {v i : Expr} {pos : Pos} : PE X (.Subscript v i pos) (tOf X.K (denE G X.N (n + 1) X.env.scope (.Subscript v i pos))) := by
  by_cases hsl : ∃ a b c p, i = .Slice a b c p
  · obtain ⟨a, b, c, p, rfl⟩ := hsl
    cases c with
    | none => 
      have : denE G X.N (n + 1) X.env.scope (.Subscript v (.Slice a b none p) pos) = mSl (denE G X.N n X.env.scope v) (mPart (a.map (denE G X.N n X.env.scope))) (mPart (b.map (denE G X.N n X.env.scope))) := by
        cases a <;> cases b <;> rfl
      rw [this]
      exact pe_msl (S.e X g v) (part_ok S g) (part_ok S g)
    | some st =>
      have : denE G X.N (n + 1) X.env.scope (.Subscript v (.Slice a b (some st) p) pos) = if isRev a b st = true then mRevQ (denE G X.N n X.env.scope v) else mNo := rfl
      rw [this]
      split
      · rename_i h
        unfold isRev at h
        split at h
        · rename_i i1 _ _ _
          have hi : i1 = 1 := of_decide_eq_true h
          subst hi
          exact pe_mrevq (S.e X g v)
        · cases h
      · exact pe_no fun _ _ => rfl
  · have hn : ∀ a b c p, i ≠ .Slice a b c p := fun a b c p e => hsl ⟨a, b, c, p, e⟩
    have : denE G X.N (n + 1) X.env.scope (.Subscript v i pos) = mBin gIx (denE G X.N n X.env.scope v) (denE G X.N n X.env.scope i) := by
      cases i <;> first | rfl | exact absurd rfl (hn _ _ _ _)
    rw [this]
    exact pe_mix ix_seq gIx_ok (S.e X g v) (S.e X g i) (plainIx hn)
theorem soundE1 (S : SoundE G k n) (g : GOk X G k) (e : Expr) : PE X e (tOf X.K (denE G X.N (n + 1) X.env.scope e)) := by
  cases e with
  | Name x pos => exact name_ok g
  | Constant c j pos => exact const_ok
  | Tuple es j pos =>
    simp only [denE]
    split
    · exact pe_no fun _ _ => rfl
    · rename_i hs
      exact pe_mtup (args_ok (by simpa using hs) (S.e X g))
  | List es pos => exact pe_mold (S.l X g _)
  | ListComp a b c d => exact pe_mold (S.l X g _)
  | BinOp a op b pos =>
    simp only [denE]
    split
    · rename_i gg hg
      obtain ⟨r, ho, hd⟩ := binD_ok (X := X) hg
      exact pe_mbin ho hd (S.e X g a) (S.e X g b)
    · exact pe_no fun _ _ => rfl
  | UnaryOp op a pos =>
    cases op with
    | USub => exact pe_mun un_neg gNeg_ok (S.e X g a)
    | Not => exact pe_mnot (S.e X g a)
    | _ => exact pe_no fun _ _ => rfl
  | BoolOp op vs pos =>
    cases op with
    | And => exact ands_ok (S.e X g)
    | Or => exact ors_ok (S.e X g)
  | IfExp c a b pos => exact pe_mif (S.t X g c) (S.e X g a) (S.e X g b)
  | Compare l ops cs pos =>
    obtain ⟨t, ⟨h, _⟩, i⟩ := cmp_ok S g (l := l) (ops := ops) (cs := cs) (pos := pos)
    exact pe_imp h i
  | Call f as ks pos => exact soundCall S g
  | Subscript v i pos => exact soundSub S g
  | _ => exact pe_no fun _ _ => rfl
end
theorem soundE (G : GE) (k : Nat) : ∀ n, SoundE G k n
  | 0 => ⟨fun X g e => pe_no fun _ _ => rfl, fun X g e => pt_no fun _ _ => rfl, fun X g e => pn_no, fun X g l ops cs pos => pt_no fun _ _ => rfl, fun X g tg e => pi_no⟩
  | n + 1 => ⟨fun X g e => soundE1 (soundE G k n) g e, fun X g e => soundT (soundE G k n) g, fun X g e => soundN (soundE G k n) g, fun X g => soundC (soundE G k n) g, fun X g tg e => soundI (soundE G k n) g⟩
end Ek

/-! Ek12: statements mean what they are; defs -/
namespace Ek
open PySem PySem.Spec PyProof.Rows L2
/-- a def's own: names that hold things that change; whether a new list is handed back as one that may change -/
structure Cf where
  mu : List Str
  retW : Bool
def isFresh : Expr → Bool
  | .List _ _ => true
  | .ListComp _ _ _ _ => true
  | _ => false
def swF (lk : Str → Option NameKind) (ts : List Expr) : Expr → Option Str := fun
    | .Name id pos => if lk id == some .local && pos.line == ((ts.head?.map (·.pos.line)).getD 0) then some id else none
    | _ => none
def swapNames (lk : Str → Option NameKind) (ts : List Expr) : List Str := ts.filterMap (swF lk ts)
def swapRes (lk : Str → Option NameKind) (ts vs : List Expr) : Option (Option (List Str)) :=
  if (!(ts.length == 2 || ts.length == 3) || vs.length != ts.length || false) = true then some none
  else if (vs.any fun | .Starred .. => true | _ => false) = true then some none
  else if ((swapNames lk ts).length != ts.length || (swapNames lk ts).eraseDups.length != (swapNames lk ts).length) = true then some none
  else if vs.all (foldedForSure 8) = true then some none
  else if vs.all (constantsAlone 8) = true then none
  else some (some (swapNames lk ts))
theorem bk_fn {env : Env} (h : env.scope.kind = .function) : env.blockKind = .function := by
  unfold Env.blockKind
  rw [h]
  rfl
theorem swapRes_ok {env : Env} (hk : env.scope.kind = .function) {ts vs : List Expr} {r : Option (List Str)} {a b : Nat} {p q : Pos} (h : swapRes env.kindOf ts vs = some r) : swappedStores [.Tuple ts a p] (.Tuple vs b q) env = pure r := by
  have hb := bk_fn hk
  unfold swapRes at h
  show (if (!(ts.length == 2 || ts.length == 3) || vs.length != ts.length || env.blockKind != .function) = true then pure none
    else if (vs.any fun | .Starred .. => true | _ => false) = true then pure none
    else if ((swapNames env.kindOf ts).length != ts.length || (swapNames env.kindOf ts).eraseDups.length != (swapNames env.kindOf ts).length) = true then pure none
    else if vs.all (foldedForSure 8) = true then pure none
    else if vs.all (constantsAlone 8) = true then (do unsupported "assign.tuple-of-constant-expressions:order-of-the-stores"; pure (some (swapNames env.kindOf ts)))
    else pure (some (swapNames env.kindOf ts)) : Sem (Option (List Str))) = pure r
  rw [hb]
  have e0 : (ScopeKind.function != ScopeKind.function) = false := rfl
  rw [e0]
  split at h
  · rename_i h1
    cases h
    rw [if_pos h1]
  · rename_i h1
    rw [if_neg h1]
    split at h
    · rename_i h2
      cases h
      rw [if_pos h2]
    · rename_i h2
      rw [if_neg h2]
      split at h
      · rename_i h3
        cases h
        rw [if_pos h3]
      · rename_i h3
        rw [if_neg h3]
        split at h
        · rename_i h4
          cases h
          rw [if_pos h4]
        · rename_i h4
          rw [if_neg h4]
          split at h
          · cases h
          · rename_i h5
            cases h
            rw [if_neg h5]
def swNm (sc : Scope) (t : Str) (pos vpos : Pos) (scope : Scope) : Bool := (sc.names.lookup t == some .local && pos.line == vpos.line) && !(scope.names.any fun (n, k) => n == t && (k == .local || k == .cell))
theorem swNm_ok {env : Env} (hk : env.scope.kind = .function) {a : Expr} {gs : List Comprehension} {scope : Scope} {vpos pos : Pos} {t : Str} {l : Nat} : swapsWith (.ListComp a gs scope vpos) (some (.Name t pos)) l env = pure (swNm env.scope t pos vpos scope) := by
  unfold swapsWith swNm
  simp only [bk_fn hk, Env.kindOf]
  rfl
theorem sw_no {e : Expr} (h : isComp e = false) (t : Option Expr) (l : Nat) (env : Env) : swapsWith e t l env = pure false := by
  cases e <;> first | rfl | cases h
theorem sws_no {e tg : Expr} (h : isComp e = false) (l : Nat) (env : Env) : swapsWithSole [tg] e l env = pure false := sw_no h (some tg) l env
theorem ite_some {c : Bool} {x : Str} (h : (if c = true then some x else none).isSome = true) : c = true := by
  cases c with
  | true => rfl
  | false => cases h
theorem names2 {lk : Str → Option NameKind} {x y : Str} {p q : Pos} (h : (swapNames lk [.Name x p, .Name y q]).length = 2) : lk x = some .local ∧ lk y = some .local ∧ swapNames lk [.Name x p, .Name y q] = [x, y] := by
  have h' := List.filterMap_length_eq_length.mp h
  have h1 := ite_some (h' (.Name x p) (by simp))
  have h2 := ite_some (h' (.Name y q) (by simp))
  have e1 : swF lk [.Name x p, .Name y q] (.Name x p) = some x := if_pos h1
  have e2 : swF lk [.Name x p, .Name y q] (.Name y q) = some y := if_pos h2
  refine ⟨eq_of_beq (Bool.and_eq_true_iff.mp h1).1, eq_of_beq (Bool.and_eq_true_iff.mp h2).1, ?_⟩
  unfold swapNames
  rw [List.filterMap_cons_some e1, List.filterMap_cons_some e2]
  rfl
theorem names3 {lk : Str → Option NameKind} {x y z : Str} {p q r : Pos} (h : (swapNames lk [.Name x p, .Name y q, .Name z r]).length = 3) : lk x = some .local ∧ lk y = some .local ∧ lk z = some .local ∧ swapNames lk [.Name x p, .Name y q, .Name z r] = [x, y, z] := by
  have h' := List.filterMap_length_eq_length.mp h
  have h1 := ite_some (h' (.Name x p) (by simp))
  have h2 := ite_some (h' (.Name y q) (by simp))
  have h3 := ite_some (h' (.Name z r) (by simp))
  have e1 : swF lk [.Name x p, .Name y q, .Name z r] (.Name x p) = some x := if_pos h1
  have e2 : swF lk [.Name x p, .Name y q, .Name z r] (.Name y q) = some y := if_pos h2
  have e3 : swF lk [.Name x p, .Name y q, .Name z r] (.Name z r) = some z := if_pos h3
  refine ⟨eq_of_beq (Bool.and_eq_true_iff.mp h1).1, eq_of_beq (Bool.and_eq_true_iff.mp h2).1, eq_of_beq (Bool.and_eq_true_iff.mp h3).1, ?_⟩
  unfold swapNames
  rw [List.filterMap_cons_some e1, List.filterMap_cons_some e2, List.filterMap_cons_some e3]
  rfl
theorem swapRes_some {lk : Str → Option NameKind} {ts vs : List Expr} {l : List Str} (h : swapRes lk ts vs = some (some l)) : (swapNames lk ts).length = ts.length ∧ l = swapNames lk ts := by
  unfold swapRes at h
  split at h
  · cases h
  split at h
  · cases h
  split at h
  · cases h
  rename_i hnn
  split at h
  · cases h
  split at h
  · cases h
  cases h
  simp only [Bool.or_eq_true, not_or, bne_iff_ne, ne_eq, Decidable.not_not] at hnn
  exact ⟨hnn.1, rfl⟩
theorem ss_no {e tg : Expr} (h : ∀ es k p, e ≠ .Tuple es k p) (env : Env) : swappedStores [tg] e env = pure none := by
  cases e <;> first | (cases tg <;> rfl) | exact absurd rfl (h _ _ _)
theorem ss_no2 {e tg : Expr} (h : ∀ es k p, tg ≠ .Tuple es k p) (h2 : ∀ es p, tg ≠ .List es p) (env : Env) : swappedStores [tg] e env = pure none := by
  cases tg <;> first | (cases e <;> rfl) | exact absurd rfl (h _ _ _) | exact absurd rfl (h2 _ _)
/-! ### several names at once -/
section
variable {X : Cx} {pos : Pos}
theorem tOld_of {K : PySem.W.Frag} {m : Sm (Bool × List PD)} : ∀ σ H Q, tOf K (mOld m) σ H Q → tOfN K m σ H Q := by
  intro σ H Q ⟨Z, φ, Δ, M, w, M', R, h, q⟩
  unfold mOld at h
  split at h
  · rename_i t xs M1 hx
    cases h
    refine ⟨Z, φ, Δ, M, t, xs, M', R, hx, fun p φ1 H1 t1 e1 m1 => ?_⟩
    obtain ⟨s, m2, d2⟩ := m1.unlast
    exact q _ φ1 H1 ⟨same_tr e1.fz s, e1.z, t1, fun x h => e1.nz x (List.mem_append_left _ h)⟩ m2 d2
  · cases h
theorem tNew_of {K : PySem.W.Frag} {m : Sm (Bool × List PD)} : ∀ σ H Q, tOf K (mNew m) σ H Q → tOfN K m σ H Q := by
  intro σ H Q ⟨Z, φ, Δ, M, w, M', R, h, q⟩
  unfold mNew at h
  split at h
  · rename_i t xs M1 hx
    cases h
    refine ⟨Z, φ, Δ, M, t, xs, M1, R, hx, fun p φ1 H1 _ e1 m1 => q _ (φ1 ++ [p]) H1 e1 m1 ⟨p, ?_, rfl⟩⟩
    have hl : φ1.length = M1.length := by have := m1.len; simp at this; exact this
    rw [← hl]
    simp
  · cases h
/-- the pair itself is made, then taken apart -/
theorem tPar_by {K : PySem.W.Frag} {i j : Nat} {m : Sm (List W)} : ∀ D σ H, tOfS K (sPar i j m) D σ H → tAsg (tTup (tOfA K m)) (gTup K 2 (gCons (gName i) (gCons (gName j) gNil))) D σ H := by
  intro D σ H ⟨Z, φ, Δ, M, f, Δ', M', R, h, q⟩
  unfold sPar at h
  split at h
  · rename_i u v M1 hm
    cases h
    refine ⟨Z, φ, Δ, M, _, _, R, hm, fun vs φ1 H1 e1 m1 r1 => ?_⟩
    obtain ⟨x, y, rfl, rx, ry⟩ := rws2 r1
    refine ⟨by show 2 ≤ sizeLine; decide, fun p hp => ?_⟩
    obtain ⟨e2, m2, f2⟩ := m1.new hp (.tup [x, y])
    refine ⟨p, [x, y], rfl, .inl (.inl upd_same), rfl, x, [y], rfl, y, [], rfl, rfl, ?_⟩
    exact q _ φ1 _ (e1.trans e2) (((R.step (e1.trans e2) m2).set i (rx.ext e2)).set j (ry.ext e2))
  · cases h
theorem tPar3_by {K : PySem.W.Frag} {i j k : Nat} {m : Sm (List W)} : ∀ D σ H, tOfS K (sPar3 i j k m) D σ H → tAsg (tTup (tOfA K m)) (gTup K 3 (gCons (gName i) (gCons (gName j) (gCons (gName k) gNil)))) D σ H := by
  intro D σ H ⟨Z, φ, Δ, M, f, Δ', M', R, h, q⟩
  unfold sPar3 at h
  split at h
  · rename_i u v w M1 hm
    cases h
    refine ⟨Z, φ, Δ, M, _, _, R, hm, fun vs φ1 H1 e1 m1 r1 => ?_⟩
    cases r1 with
    | cons rx r1 =>
      obtain ⟨y, z, rfl, ry, rz⟩ := rws2 r1
      refine ⟨by show 3 ≤ sizeLine; decide, fun p hp => ?_⟩
      obtain ⟨e2, m2, f2⟩ := m1.new hp (.tup [_, y, z])
      refine ⟨p, [_, y, z], rfl, .inl (.inl upd_same), rfl, _, [y, z], rfl, y, [z], rfl, z, [], rfl, rfl, ?_⟩
      exact q _ φ1 _ (e1.trans e2) ((((R.step (e1.trans e2) m2).set i (rx.ext e2)).set j (ry.ext e2)).set k (rz.ext e2))
  · cases h
end
/-! ### the meaning of statements -/
/-- the value for a name: a new list that may change, or plain -/
def denV (G : GE) (N : List Str) (C : Cf) (n : Nat) (sc : Scope) (x : Str) (e : Expr) : Sm W := if C.mu.contains x = true ∧ isFresh e = true then mNew (denN G N n sc e) else denE G N n sc e
mutual
noncomputable def denS (G : GE) (N : List Str) (C : Cf) (sc : Scope) : Nat → Stmt → Ss
  | 0, _ => sNo
  | n + 1, st => match st with
    | .Pass _ => sNext
    | .Break _ => sBreak
    | .Continue _ => sCont
    | .Return none _ => sRetN
    | .Return (some e) _ => if C.retW = true then (if isFresh e = true then sRetW (mNew (denN G N n sc e)) else sRetW (denE G N n sc e)) else sRet (denE G N n sc e)
    | .Expr e _ => if isComp e = true then sNo else sDrop (denE G N n sc e)
    | .If c a b _ => sIf (denT G N n sc c) (denSs G N C sc n a) (denSs G N C sc n b)
    | .While c b [] _ => sWhile (denT G N n sc c) (denSs G N C sc n b)
    | .For tg iter b [] _ => (match denG N sc (fun _ => true) n tg with
      | some (g, _) => if isSet iter = false then sFor (denI G N n sc iter) g (denSs G N C sc n b) else sNo
      | none => sNo)
    | .Assign [.Name x p] e _ => (match locOf N sc (fun _ => true) x with
      | some i => (match e with
        | .ListComp a gs scope vp => if swNm sc x p vp scope = true then (if sc.names.lookup x = some .local then sSet i (denV G N C n sc x e) else sNo) else sSet i (denV G N C n sc x e)
        | e => if isComp e = true then sNo else sSet i (denV G N C n sc x e))
      | none => sNo)
    | .Assign [.Subscript o i tp] e _ => if isComp e = true then sNo else (match i with
      | .Slice _ _ _ _ => sNo
      | i => sSub (denE G N n sc o) (denE G N n sc i) (denE G N n sc e))
    | .Assign [.Tuple [.Subscript o i tp, .Name x p] k tp2] e _ => (match e with
      | .Tuple _ _ _ => sNo
      | e => if isComp e = true then sNo else (match i with
        | .Slice _ _ _ _ => sNo
        | i => (match locOf N sc (fun _ => true) x with
          | some j => sSubNm (denE G N n sc o) (denE G N n sc i) j (denE G N n sc e)
          | none => sNo)))
    | .Assign [.Tuple [.Name x p, .Name y q] k tp] (.Tuple [a, b] k2 tp2) _ => (match locOf N sc (fun _ => true) x, locOf N sc (fun _ => true) y with
      | some i, some j => if i ≠ j ∧ isStar a = false ∧ isStar b = false ∧ (swapRes (fun x => sc.names.lookup x) [.Name x p, .Name y q] [a, b]).isSome = true then sPar i j (mArgs [denV G N C n sc x a, denV G N C n sc y b]) else sNo
      | _, _ => sNo)
    | .Assign [.Tuple [.Name x p, .Name y q, .Name z r] k tp] (.Tuple [a, b, c] k2 tp2) _ => (match locOf N sc (fun _ => true) x, locOf N sc (fun _ => true) y, locOf N sc (fun _ => true) z with
      | some i, some j, some l => if i ≠ j ∧ i ≠ l ∧ j ≠ l ∧ isStar a = false ∧ isStar b = false ∧ isStar c = false ∧ (swapRes (fun x => sc.names.lookup x) [.Name x p, .Name y q, .Name z r] [a, b, c]).isSome = true then sPar3 i j l (mArgs [denV G N C n sc x a, denV G N C n sc y b, denV G N C n sc z c]) else sNo
      | _, _, _ => sNo)
    | .Assign [.Tuple ts k tp] e _ => if isComp e = true then sNo else (match denG N sc (fun _ => true) n (.Tuple ts k tp) with
      | some (g, _) => (match e with
        | .Tuple vs _ _ => if swapRes (fun x => sc.names.lookup x) ts vs = some none then sAsg g (denE G N n sc e) else sNo
        | e => sAsg g (denE G N n sc e))
      | none => sNo)
    | _ => sNo
noncomputable def denSs (G : GE) (N : List Str) (C : Cf) (sc : Scope) : Nat → List Stmt → Ss
  | 0, _ => sNo
  | _ + 1, [] => sNext
  | n + 1, st :: r => sSeq (denS G N C sc n st) (denSs G N C sc n r)
end
section
variable {X : Cx} {G : GE} {k n : Nat} {C : Cf}
theorem loc_ok {N : List Str} {sc : Scope} {x : Str} {i : Nat} (h : locOf N sc (fun _ => true) x = some i) : N[i]? = some x ∧ (sc.names.lookup x = some .local ∨ sc.names.lookup x = some .cell) := by
  unfold locOf at h
  split at h
  · rename_i hh
    exact ⟨findIdx_at h, hh.2⟩
  · cases h
theorem denV_ok (g : GOk X G k) {x : Str} {e : Expr} : PE X e (tOf X.K (denV G X.N C n X.env.scope x e)) := by
  unfold denV
  split
  · exact pe_mnew ((soundE G k n).l X g e)
  · exact (soundE G k n).e X g e
theorem setLc_ok (g : GOk X G k) (hk : X.env.scope.kind = .function) {x : Str} {p vp pos : Pos} {a : Expr} {gs : List Comprehension} {scope : Scope} {i : Nat} (hi : X.N[i]? = some x) (hl : X.env.scope.names.lookup x = some .local)
    (hs : swNm X.env.scope x p vp scope = true) : PS X (.Assign [.Name x p] (.ListComp a gs scope vp) pos) (tOfS X.K (sSet i (denV G X.N C n X.env.scope x (.ListComp a gs scope vp)))) := by
  have hsw : swapsWith (.ListComp a gs scope vp) (some (.Name x p)) pos.line X.env = pure true := by rw [swNm_ok hk, hs]
  have no : ∀ {m : Sm W}, (∀ Δ M, m Δ M = none) → PS X (.Assign [.Name x p] (.ListComp a gs scope vp) pos) (tOfS X.K (sSet i m)) := fun {m} h => ⟨fun pins s σ H D I ⟨_, _, Δ, M, _, _, _, _, q, _⟩ => by
    unfold sSet at q
    rw [h] at q
    cases q⟩
  have key : ∀ {m : Sm W} {t : TE}, PS X (.Assign [.Name x p] (.ListComp a gs scope vp) pos) (tAsg t (gName i)) → (∀ σ H Q, tOf X.K m σ H Q → t σ H Q) → PS X (.Assign [.Name x p] (.ListComp a gs scope vp) pos) (tOfS X.K (sSet i m)) :=
    fun {m t} h hi => ps_imp h fun D σ H q => hi σ H _ (tSet_of D σ H q)
  -- the meaning is that of denN
  have main : ∀ n, (∃ t, PS X (.Assign [.Name x p] (.ListComp a gs scope vp) pos) (tAsg t (gName i)) ∧ ∀ σ H Q, tOfN X.K (denN G X.N n X.env.scope (.ListComp a gs scope vp)) σ H Q → t σ H Q) := by
    intro n
    have none : ∃ t, PS X (.Assign [.Name x p] (.ListComp a gs scope vp) pos) (tAsg t (gName i)) ∧ ∀ σ H Q, tOfN X.K mNo σ H Q → t σ H Q :=
      ⟨fun _ _ _ => False, ⟨fun _ _ _ _ _ _ h => h.elim⟩, fun σ H Q ⟨_, _, _, _, _, _, _, _, q, _⟩ => by cases q⟩
    cases n with
    | zero => exact none
    | succ n =>
      have S := soundE G k n
      unfold denN
      split
      · rename_i h
        cases h
      · rename_i elt tg iter ifs scope pos h
        cases h
        split
        · rename_i gt S1 hg
          split
          · rename_i hh
            obtain ⟨hb, hS, hit⟩ := hh
            have hS' : ∀ i ∈ S1, i ∈ (ownOf X.N scope).map (·.2) := fun i h => by
              have := List.all_eq_true.mp hS i h
              simpa using this
            refine ⟨_, ps_setLc (own := ownOf X.N scope) (tt := tOfT X.K (ifsD (denT G X.N n (rl scope X.env.scope)) ifs)) g.calm g.nd hi hl hsw (S.i X g tg iter) (blkOk_by hb) (fun s H C cl fp => ?_) (fun s H C cl fp => ?_) (fun s H C cl fp => ?_) (foldS hit X.env), tLc_of hS'⟩
            · refine denG_ok (X := X.blk s H scope (compEnvC scope cl C X.env) fp) g.nd g.calm (fun x hx => ?_) n tg gt S1 hg
              rw [decide_eq_true_eq] at hx
              rcases hx with hx | hx
              · exact .inr (lookup_relabel_local hx)
              · refine .inl ?_
                show (scope.names.lookup x == some .cell) = true
                rw [hx]; rfl
            · match ifs with
              | [] => exact ⟨fun pins s σ H Q I ⟨Z, φ, Δ, M, b, M', R, h, q⟩ => by cases h; exact pts_nil.run pins s σ H Q I (q φ H Ext.refl R.mem)⟩
              | [c] => exact pts_one (S.t (X.blk s H scope (compEnvC scope cl C X.env) fp) (g.blk _ _ _ _ _) c)
              | _ :: _ :: _ => exact ⟨fun pins s σ H Q I ⟨Z, φ, Δ, M, b, M', R, h, q⟩ => by cases h⟩
            · exact S.e (X.blk s H scope (compEnvC scope cl C X.env) fp) (g.blk _ _ _ _ _) _
          · exact none
        · exact none
      · rename_i h
        cases h
      · exact none
  unfold denV
  split
  · obtain ⟨t, h1, h2⟩ := main n
    exact key h1 fun σ H Q q => h2 σ H Q (tNew_of σ H Q q)
  · cases n with
    | zero => exact no fun _ _ => rfl
    | succ n =>
      obtain ⟨t, h1, h2⟩ := main n
      exact key h1 fun σ H Q q => h2 σ H Q (tOld_of σ H Q q)
theorem subG {o i : Expr} {tp : Pos} (h : ∀ a b c p, i ≠ .Slice a b c p) {to ti : TE} (ho : PE X o to) (hi : PE X i ti) : PG X (.Subscript o i tp) (L2.gSub to ti rSetL) := by
  refine pg_sub ho hi set_list ?_ <;> (intros; cases i <;> first | rfl | exact absurd rfl (h _ _ _ _))
/-! ### statements -/
theorem passes (g : GOk X G k) : PassesOwn (model X.prog X.w) X.A X.env X.xe := by
  rw [g.xe]
  exact PassesOwn.never
theorem pa2 {a b : Expr} {x y : Sm W} (ha : PE X a (tOf X.K x)) (hb : PE X b (tOf X.K y)) (h1 : isStar a = false) (h2 : isStar b = false) : PA X [a, b] (tOfA X.K (mArgs [x, y])) :=
  pa_mcons ha (pa_mcons hb pa_mnil (each_star h2 _)) (each_star h1 _)
theorem pa3 {a b c : Expr} {x y z : Sm W} (ha : PE X a (tOf X.K x)) (hb : PE X b (tOf X.K y)) (hc : PE X c (tOf X.K z)) (h1 : isStar a = false) (h2 : isStar b = false) (h3 : isStar c = false) : PA X [a, b, c] (tOfA X.K (mArgs [x, y, z])) :=
  pa_mcons ha (pa_mcons hb (pa_mcons hc pa_mnil (each_star h3 _)) (each_star h2 _)) (each_star h1 _)
theorem ps_mtarget {ts : List Expr} {e : Expr} {k1 : Nat} {tp pos : Pos} {gt : Tg} {S1 : List Nat} {m : Sm W} (hg : PG X (.Tuple ts k1 tp) (tOfG X.K gt S1)) (he : PE X e (tOf X.K m)) (hs : swapsWithSole [.Tuple ts k1 tp] e pos.line X.env = pure false) (hw : swappedStores [.Tuple ts k1 tp] e X.env = pure none) :
    PS X (.Assign [.Tuple ts k1 tp] e pos) (tOfS X.K (sAsg gt m)) := ps_imp (ps_asg he hg hs hw rfl) tAsg_of
theorem gnm (g : GOk X G k) (hfn : ∀ x, X.fn x = true) {x : Str} {i : Nat} {p : Pos} (h : locOf X.N X.env.scope (fun _ => true) x = some i) : PG X (.Name x p) (gName i) := pg_name g.nd (loc_ok h).1 (loc_ok h).2 (.inl (hfn x))
mutual
theorem soundS (g : GOk X G k) (hk : X.env.scope.kind = .function) (hfn : ∀ x, X.fn x = true) : ∀ (n : Nat) (st : Stmt), PS X st (tOfS X.K (denS G X.N C X.env.scope n st))
  | 0, st => ps_no
  | n + 1, st => by
    have S := soundE G k n
    have okT : OkT X (fun _ => true) := fun x _ => .inl (hfn x)
    unfold denS
    split
    · exact ps_mpass
    · exact ps_mbreak
    · exact ps_mcont
    · exact ps_mretN
    · split
      · split
        · exact ps_mretW (pe_mnew (S.l X g _))
        · exact ps_mretW (S.e X g _)
      · exact ps_mret (S.e X g _)
    · split
      · exact ps_no
      · rename_i h
        exact ps_mdrop (S.e X g _) (sw_no (by simpa using h) _ _ _)
    · exact ps_mif (S.t X g _) (soundSs g hk hfn n _) (soundSs g hk hfn n _)
    · exact ps_imp (ps_while (passes g) (S.t X g _) (soundSs g hk hfn n _)) tWhile_of
    · rename_i tg iter b pos
      split
      · rename_i gt S1 hg
        split
        · rename_i hs
          exact ps_imp (ps_for (passes g) g.calm (S.i X g tg iter) (denG_ok g.nd g.calm okT n tg gt S1 hg) (soundSs g hk hfn n b) (foldS hs X.env)) tFor_of
        · exact ps_no
      · exact ps_no
    · rename_i x p e pos
      split
      · rename_i i hi
        obtain ⟨h1, h2⟩ := loc_ok hi
        split
        · rename_i a gs scope vp
          split
          · rename_i hs
            split
            · rename_i hl
              exact setLc_ok g hk h1 hl hs
            · exact ps_no
          · rename_i hs
            have hs' : swNm X.env.scope x p vp scope = false := by simpa using hs
            exact ps_imp (ps_set g.nd h1 h2 (denV_ok g) (by rw [swNm_ok hk, hs']) (.inl (hfn x))) tSet_of
        · split
          · exact ps_no
          · rename_i hc
            exact ps_imp (ps_set g.nd h1 h2 (denV_ok g) (sw_no (by simpa using hc) _ _ _) (.inl (hfn x))) tSet_of
      · exact ps_no
    · rename_i o i tp e pos
      split
      · exact ps_no
      · rename_i hc
        split
        · exact ps_no
        · rename_i i hn
          exact ps_msub (S.e X g o) (S.e X g _) (S.e X g e) (fun h1 h2 => subG (fun a b c p z => hn a b c p z) h1 h2) (sws_no (by simpa using hc) _ _) (ss_no2 (fun _ _ _ z => by cases z) (fun _ _ z => by cases z) _)
    · rename_i o i tp x p k1 tp2 e pos
      split
      · exact ps_no
      · rename_i e hne
        split
        · exact ps_no
        · rename_i hc
          split
          · exact ps_no
          · rename_i i hn
            split
            · rename_i j hj
              exact ps_msubnm (S.e X g o) (S.e X g _) (S.e X g _) (fun h1 h2 => pg_tup g.calm (pgs_cons (subG (fun a b c p z => hn a b c p z) h1 h2) (pgs_cons (gnm g hfn hj) pgs_nil)) rfl rfl) (sws_no (by simpa using hc) _ _) (ss_no (fun es k p z => hne es k p z) _) rfl
            · exact ps_no
    · rename_i x p y q k1 tp a b k2 tp2 pos
      split
      · rename_i i j hi hj
        split
        · rename_i hh
          obtain ⟨h1, h2, h3, h4⟩ := hh
          obtain ⟨r, hr⟩ := Option.isSome_iff_exists.mp h4
          have hr' : swapRes X.env.kindOf [.Name x p, .Name y q] [a, b] = some r := hr
          have hP := pa2 (denV_ok (C := C) (n := n) g (x := x) (e := a)) (denV_ok (C := C) (n := n) g (x := y) (e := b)) h2 h3
          have hw := swapRes_ok (a := k1) (b := k2) (p := tp) (q := tp2) hk hr'
          have hsw : swapsWithSole [.Tuple [.Name x p, .Name y q] k1 tp] (.Tuple [a, b] k2 tp2) pos.line X.env = pure false := rfl
          cases r with
          | none => exact ps_imp (ps_asg (pe_tup hP) (pg_tup g.calm (pgs_cons (gnm g hfn hi) (pgs_cons (gnm g hfn hj) pgs_nil)) rfl rfl) hsw hw rfl) tPar_by
          | some l =>
            obtain ⟨hlen, hl2⟩ := swapRes_some hr'
            subst hl2
            have hl := names2 hlen
            rw [hl.2.2] at hw
            exact ps_imp (ps_par g.calm g.nd (loc_ok hi).1 (loc_ok hj).1 h1 hl.1 hl.2.1 hP hw hsw) tPar_of
        · exact ps_no
      · exact ps_no
    · rename_i x p y q z r k1 tp a b c k2 tp2 pos
      split
      · rename_i i j l hi hj hl
        split
        · rename_i hh
          obtain ⟨n1, n2, n3, h2, h3, h5, h4⟩ := hh
          obtain ⟨rr, hr⟩ := Option.isSome_iff_exists.mp h4
          have hr' : swapRes X.env.kindOf [.Name x p, .Name y q, .Name z r] [a, b, c] = some rr := hr
          have hP := pa3 (denV_ok (C := C) (n := n) g (x := x) (e := a)) (denV_ok (C := C) (n := n) g (x := y) (e := b)) (denV_ok (C := C) (n := n) g (x := z) (e := c)) h2 h3 h5
          have hw := swapRes_ok (a := k1) (b := k2) (p := tp) (q := tp2) hk hr'
          have hsw : swapsWithSole [.Tuple [.Name x p, .Name y q, .Name z r] k1 tp] (.Tuple [a, b, c] k2 tp2) pos.line X.env = pure false := rfl
          cases rr with
          | none => exact ps_imp (ps_asg (pe_tup hP) (pg_tup g.calm (pgs_cons (gnm g hfn hi) (pgs_cons (gnm g hfn hj) (pgs_cons (gnm g hfn hl) pgs_nil))) rfl rfl) hsw hw rfl) tPar3_by
          | some l =>
            obtain ⟨hlen, hl2⟩ := swapRes_some hr'
            subst hl2
            have hq := names3 hlen
            rw [hq.2.2.2] at hw
            exact ps_imp (ps_par3 g.calm g.nd (loc_ok hi).1 (loc_ok hj).1 (loc_ok hl).1 n1 n2 n3 hq.1 hq.2.1 hq.2.2.1 hP hw hsw) tPar3_of
        · exact ps_no
      · exact ps_no
    · rename_i ts k1 tp e pos hno1 hno2 hno3
      split
      · exact ps_no
      · rename_i hc
        split
        · rename_i gt S1 hg
          split
          · rename_i vs k2 tp2
            split
            · rename_i hr
              exact ps_mtarget (denG_ok g.nd g.calm okT n _ gt S1 hg) (S.e X g _) (sws_no rfl _ _) (swapRes_ok hk hr)
            · exact ps_no
          · rename_i e hne
            exact ps_mtarget (denG_ok g.nd g.calm okT n _ gt S1 hg) (S.e X g _) (sws_no (by simpa using hc) _ _) (ss_no (fun es k p z => hne es k p z) _)
        · exact ps_no
    · exact ps_no
theorem soundSs (g : GOk X G k) (hk : X.env.scope.kind = .function) (hfn : ∀ x, X.fn x = true) : ∀ (n : Nat) (sts : List Stmt), PSs X sts (tOfS X.K (denSs G X.N C X.env.scope n sts))
  | 0, sts => ⟨fun pins s σ H D I ⟨_, _, _, _, _, _, _, _, h, _⟩ => by cases h⟩
  | n + 1, [] => pss_mnil
  | n + 1, st :: r => pss_mcons (soundS g hk hfn n st) (soundSs g hk hfn n r)
end
end
end Ek

/-! Ek13: defs, the whole text, the law -/
namespace Ek
open PySem PySem.Spec PyProof.Rows L2
structure Glob (P : Program) (w : World) (K : PySem.W.Frag) (mg : Str → Option Value) (base : Heap) (G : GE) (k : Nat) : Prop where
  fn : ∀ x fe, G.fn.lookup x = some fe → ∃ a fd, mg x = some (.ref a) ∧ FnOk P w K mg base CX0 k a fd fe.ps (spOf K fe.ps.length fe.f) ∧ PySem.W.keepIn K (.ref a) = true ∧ Binds K fd fe.ps [] ∧ ∀ l pm, fe.kw.lookup l = some pm → KwOk K fd fe.ps l pm
  cst : ∀ x t d, G.cst.lookup x = some (t, d) → ∃ u v, mg x = some u ∧ RelV v u ∧ ∀ H, Dq (kk t K) H v d
  bl : ∀ x, G.bl.contains x = true → mg x = none
/-- what a def's body makes of its arguments -/
def semF (n : Nat) (b : Ss) : Fd := fun ws M => match b (ws.map some ++ List.replicate (n - ws.length) none) M with
  | some (.rt w, _, M') => some (w, M')
  | some (.nx, _, M') => some (.d true .none, M')
  | _ => none
section
variable {P : Program} {w : World} {K : PySem.W.Frag} {mg : Str → Option Value} {base : Heap} {G : GE} {k : Nat}
theorem Glob.mono {j : Nat} (g : Glob P w K mg base G k) (h : k ≤ j) : Glob P w K mg base G j :=
  ⟨fun x fe hx => let ⟨a, fd, h1, h2, h3⟩ := g.fn x fe hx; ⟨a, fd, h1, h2.mono h, h3⟩, g.cst, g.bl⟩
theorem rep_start {Z : Addr → Prop} {H : Hp} {φ : List Addr} {M : MS} {vs : List V} {ws : List W} {N : List Str} (m : Mem K Z H φ M) (r : RWs K (Fz Z φ M H) φ vs ws) : Rep K Z (L2.start N vs) H φ (ws.map some ++ List.replicate (N.length - ws.length) none) M := by
  have hl := r.length
  refine ⟨m, by unfold L2.start; simp [hl], fun i u h => ?_⟩
  by_cases hi : i < ws.length
  · rw [List.getElem?_append_left (by simpa using hi), List.getElem?_map] at h
    rcases rws_get i r with ⟨_, h2⟩ | ⟨v, u', h1, h2, h3⟩
    · rw [h2] at h; cases h
    · rw [h2] at h
      cases h
      refine ⟨v, ?_, h3⟩
      unfold L2.start
      rw [List.getElem?_append_left (by rw [List.length_map, hl]; exact hi), List.getElem?_map, h1]
      rfl
  · rw [List.getElem?_append_right (by simpa using Nat.le_of_not_lt hi)] at h
    rw [List.getElem?_replicate] at h
    split at h <;> cases h
/-- THE RULE: a def of the text is what its body means -/
theorem fn_ok {x qual : Str} {st : Stmt} {f : Addr} {fd : FuncData} {N ps : List Str} (C : Cf) (n : Nat) (F : Fun K x qual st f fd) (S : FnScope N ps (defScope st)) (g : Glob P w K mg base G k) :
    FnOk P w K mg base CX0 (k + 1) f fd ps (spOf K ps.length (semF N.length (denSs G N C (defScope st) n (defBody st)))) := by
  refine F.ok S (fun vs H Q E h => spOf_len h) (fun cdv A outer s H vs Q E hr h => ?_)
  obtain ⟨Z, φ, M, ws, w1, M', m, r, hl, hf, q⟩ := h
  have gX : GOk (cxOf CX0 P w K mg base N qual (defScope st) f cdv A outer s H E).nox G k := ⟨S.nd, rfl, rfl, hr, g.fn, g.cst, g.bl⟩
  refine ⟨_, soundSs (C := C) gX S.kind (fun _ => rfl) n (defBody st), ?_⟩
  unfold semF at hf
  split at hf
  · rename_i w2 Δ2 M2 hb
    cases hf
    exact ⟨Z, φ, _, M, _, Δ2, _, rep_start m r, hb, q⟩
  · rename_i Δ2 M2 hb
    cases hf
    exact ⟨Z, φ, _, M, _, Δ2, _, rep_start m r, hb, fun σ' φ' H' e R => q _ φ' H' e R.mem .non⟩
  · cases hf
/-- a def of the text behind the top -/
def DefOk (K : PySem.W.Frag) (mg : Str → Option Value) (y x : Str) (st : Stmt) : Prop := ∃ f fd, mg y = some (.ref f) ∧ Fun K x x st f fd
theorem def_mk {h : Heap} {y x : Str} {st : Stmt} {f : Addr} {oc : Value} {od an : Option Addr} {osl : Array (Option Value)} {kV doc pm cdv ct : Value} (X : K.In h) (G : h.Ns mainGlobals mg) (a : PySem.W.nsIn K mainGlobals y = some (some (.ref f)))
    (l : K.lookup f = some ⟨oc, od, .func (PySem.W.fnOf x x (defArgs st) (defBody st) (defScope st) .none kV doc pm an cdv ct), osl⟩) (c : PySem.W.codeIn K cdv x = true) (kp : PySem.W.keepIn K (.ref f) = true) : DefOk K mg y x st :=
  ⟨f, _, PySem.W.mg_of X G a, fun_mk l c kp⟩
/-- what binds of a def's parameters, told without its objects -/
def BindD (x : Str) (st : Stmt) (ps : List Str) : Prop := ∀ (kV doc pm : Value) (an : Option Addr) (cdv ct : Value) (us : List Value), us.length = ps.length → bindArgs (PySem.W.fnOf x x (defArgs st) (defBody st) (defScope st) .none kV doc pm an cdv ct) ⟨us, []⟩ = pure (ps.zip us)
def BindK (x : Str) (st : Stmt) (ps ks : List Str) (pm : List Nat) : Prop := ps ≠ [] ∧ ∀ (kV doc pm' : Value) (an : Option Addr) (cdv ct : Value) (us ws : List Value), us.length = ps.length - ks.length → ws.length = ks.length → bindArgs (PySem.W.fnOf x x (defArgs st) (defBody st) (defScope st) .none kV doc pm' an cdv ct) ⟨us, ks.zip ws⟩ = pure (ps.zip (us ++ pick pm ws))
theorem Glob.def {y x : Str} {st : Stmt} {N ps : List Str} (g : Glob P w K mg base G k) (C : Cf) (n : Nat) (kw : List (List Str × List Nat)) (d : DefOk K mg y x st) (S : FnScope N ps (defScope st)) (hb : BindD x st ps)
    (hk : ∀ l pm, kw.lookup l = some pm → BindK x st ps l pm) {ff : Fd} (hff : ff = semF N.length (denSs G N C (defScope st) n (defBody st))) : Glob P w K mg base { G with fn := (y, ⟨ps, ff, kw⟩) :: G.fn } (k + 1) := by
  obtain ⟨f, fd, hm, F⟩ := d
  obtain ⟨oc, od, kV, doc, pm, an, cdv, ct, osl, rfl, lk, hcd⟩ := id F.ex
  refine ⟨fun z fe hz => ?_, g.cst, g.bl⟩
  by_cases e : (z == y) = true
  · have hy' : some (FE.mk ps ff kw) = some fe := by
      rw [← hz]
      show _ = List.lookup z ((y, _) :: G.fn)
      rw [List.lookup_cons, e]
    cases hy'
    have e' : z = y := eq_of_beq e
    subst e'
    subst hff
    exact ⟨f, _, hm, fn_ok C n F S g, F.kp, F.binds hb, fun l pm h => ⟨(hk l pm h).1, fun s us ws h1 h2 => .of_eq ((hk l pm h).2 _ _ _ _ _ _ us ws h1 h2)⟩⟩
  · have hy' : G.fn.lookup z = some fe := by
      rw [← hz]
      show _ = List.lookup z ((y, _) :: G.fn)
      rw [List.lookup_cons, show (z == y) = false by simpa using e]
    obtain ⟨a, fd', h1, h2, h3⟩ := g.fn z fe hy'
    exact ⟨a, fd', h1, h2.mono (Nat.le_succ k), h3⟩
theorem Glob.law {y x p : Str} {st : Stmt} {N : List Str} (g : Glob P w K mg base G k) (C : Cf) (n : Nat) {f : Addr} {fd : FuncData} (F : Fun K x x st f fd) (S : FnScope N [p] (defScope st)) {ff : Fd} (hff : ff = semF N.length (denSs G N C (defScope st) n (defBody st))) : FnOk P w K mg base CX0 (k + 1) f fd [p] (spOf K 1 ff) := by
  subst hff
  exact fn_ok C n F S g
theorem kwNone {x : Str} {st : Stmt} {ps : List Str} : ∀ l pm, ([] : List (List Str × List Nat)).lookup l = some pm → BindK x st ps l pm := fun l pm h => by cases h
theorem kwOne {x : Str} {st : Stmt} {ps ks : List Str} {p : List Nat} (h : BindK x st ps ks p) {r : List (List Str × List Nat)} (hr : ∀ l pm, r.lookup l = some pm → BindK x st ps l pm) : ∀ l pm, ((ks, p) :: r).lookup l = some pm → BindK x st ps l pm := fun l pm e => by
  rw [List.lookup_cons] at e
  split at e
  · rename_i hb
    cases e
    have : l = ks := eq_of_beq hb
    subst this
    exact h
  · exact hr l pm e
/-- the law's promise at the script -/
theorem law_sp {H : Hp} {a : Addr} {ns : List Int} {f : Fd} (hS : SqL K H a (ns.map V.int)) {t : Bool} {M' : MS} (h : f [.s (ns.map PyData.int)] [] = some (.d t (.bool true), M')) : spOf K 1 f [.ref a] H (fun v _ => v = .bl true) fun _ _ _ => False := by
  have hf : Fz (fun _ => False) [] [] H = H := by
    funext b
    exact fz_mk (fun z => z) fun ⟨i, o, h, _⟩ => by simp at h
  have m : Mem K (fun _ => False) H [] [] := ⟨rfl, List.nodup_nil, fun _ z => z.elim, fun _ z => z.elim, fun i a o h _ => by simp at h⟩
  refine ⟨fun _ => False, [], [], [.s (ns.map PyData.int)], _, M', m, .cons ⟨a, _, rfl, by rw [hf]; exact hS, ints_dq ns⟩ .nil, rfl, h, fun v φ' H' e m' r => ?_⟩
  cases r
  rfl
end
/-- a tuple of ints of the written part -/
theorem cst_ii {K : PySem.W.Frag} {a : Addr} {i j : Int} {t u : Tok} {dd : Option Addr} {n : Nat} {sl : Array (Option Value)} (h : K.lookup a = some ⟨.type "tuple", dd, .seq #[.int i t, .int j u] n, sl⟩) : ∀ H, Dq (kk false K) H (.ref a) (.tuple [.int i, .int j]) :=
  fun H => .tup (xs := [.int i, .int j]) (.inr ⟨_, _, n, h, rfl, rfl, (show 2 ≤ sizeLine by decide), .cons ⟨t, rfl⟩ (.cons ⟨u, rfl⟩ .nil)⟩) (.cons (.int _) (dpa_one (.int _)))
theorem cst_int {K : PySem.W.Frag} {i : Int} : ∀ H, Dq (kk true K) H (.int i) (.int i) := fun _ => .int _
theorem cstT {K : PySem.W.Frag} {h : Heap} {mg : Str → Option Value} {x : Str} {a : Addr} {i j : Int} {t u : Tok} {dd : Option Addr} {n : Nat} {sl : Array (Option Value)} (X : K.In h) (G : h.Ns mainGlobals mg) (e : PySem.W.nsIn K mainGlobals x = some (some (.ref a)))
    (l : K.lookup a = some ⟨.type "tuple", dd, .seq #[.int i t, .int j u] n, sl⟩) : ∃ u v, mg x = some u ∧ RelV v u ∧ ∀ H, Dq (kk false K) H v (.tuple [.int i, .int j]) := ⟨.ref a, .ref a, PySem.W.mg_of X G e, rfl, cst_ii l⟩
theorem cstI {K : PySem.W.Frag} {h : Heap} {mg : Str → Option Value} {x : Str} {i : Int} {t : Tok} (X : K.In h) (G : h.Ns mainGlobals mg) (e : PySem.W.nsIn K mainGlobals x = some (some (.int i t))) : ∃ u v, mg x = some u ∧ RelV v u ∧ ∀ H, Dq (kk true K) H v (.int i) :=
  ⟨.int i t, .int i, PySem.W.mg_of X G e, ⟨t, rfl⟩, cst_int⟩
end Ek

/-! EkR: fractions -/
namespace Ek
open PySem PySem.Spec PyProof.Rows L2
/-- a fraction as data -/
def fr (q : Rat) : PD := .tuple [.int q.num, .int q.den]
/-- top and bottom below 2 ^ b -/
def Sz (b : Nat) (q : Rat) : Prop := q.num.natAbs < 2 ^ b ∧ q.den < 2 ^ b
theorem Sz.mono {a b : Nat} {q : Rat} (h : Sz a q) (l : a ≤ b) : Sz b q :=
  ⟨Nat.lt_of_lt_of_le h.1 (Nat.pow_le_pow_right (by decide) l), Nat.lt_of_lt_of_le h.2 (Nat.pow_le_pow_right (by decide) l)⟩
theorem lt2_mul {x y a b : Nat} (h : x < 2 ^ a) (k : y < 2 ^ b) : x * y < 2 ^ (a + b) := by
  rw [Nat.pow_add]
  exact Nat.mul_lt_mul'' h k
theorem log_lt {x a : Nat} (h : x < 2 ^ a) : x.log2 ≤ a := by
  by_cases h0 : x = 0
  · subst h0; simp
  · exact Nat.le_of_lt ((Nat.log2_lt h0).mpr h)
theorem mulE {i j : Int} {a b : Nat} (h : i.natAbs < 2 ^ a) (k : j.natAbs < 2 ^ b) (l : a + b < 1000000) : CMulE i j := .inr (by
  unfold CMulW
  have := log_lt h
  have := log_lt k
  omega)
theorem divE {i j : Int} {b : Nat} (h0 : 0 < j) (k : j.natAbs < 2 ^ b) (l : b < 9000) : CDivW i j := ⟨h0, by have := log_lt k; omega⟩
theorem norm_num (a : Int) (b : Nat) (h : b ≠ 0) : (Rat.normalize a b h).num = a / ((a.natAbs.gcd b : Nat) : Int) := by rw [Rat.normalize_eq]
theorem norm_den (a : Int) (b : Nat) (h : b ≠ 0) : (Rat.normalize a b h).den = b / a.natAbs.gcd b := by rw [Rat.normalize_eq]
theorem gcd_pos {a b : Nat} (h : b ≠ 0) : 0 < a.gcd b := Nat.gcd_pos_of_pos_right _ (Nat.pos_of_ne_zero h)
theorem norm_sz {a : Int} {b : Nat} (h : b ≠ 0) {n : Nat} (ha : a.natAbs < 2 ^ n) (hb : b < 2 ^ n) : Sz n (Rat.normalize a b h) := by
  constructor
  · rw [norm_num]
    exact Nat.lt_of_le_of_lt (Int.natAbs_ediv_le_natAbs _ _) ha
  · rw [norm_den]
    exact Nat.lt_of_le_of_lt (Nat.div_le_self _ _) hb
theorem add_sz {p q : Rat} {a b : Nat} (h : Sz a p) (k : Sz b q) : Sz (a + b + 1) (p + q) := by
  rw [Rat.add_def]
  refine norm_sz _ ?_ ?_
  · refine Nat.lt_of_le_of_lt (Int.natAbs_add_le _ _) ?_
    rw [Int.natAbs_mul, Int.natAbs_mul, Nat.pow_succ]
    have h1 := lt2_mul h.1 k.2
    have h2 := lt2_mul k.1 h.2
    rw [Nat.add_comm b a] at h2
    simp only [Int.natAbs_natCast]
    omega
  · refine Nat.lt_of_lt_of_le (lt2_mul h.2 k.2) (Nat.pow_le_pow_right (by decide) (Nat.le_succ _))
theorem neg_sz {q : Rat} {b : Nat} (k : Sz b q) : Sz b (-q) := ⟨by rw [Rat.neg_num, Int.natAbs_neg]; exact k.1, by rw [Rat.neg_den]; exact k.2⟩
theorem sub_sz {p q : Rat} {a b : Nat} (h : Sz a p) (k : Sz b q) : Sz (a + b + 1) (p - q) := by
  rw [Rat.sub_eq_add_neg]
  exact add_sz h (neg_sz k)
theorem mul_sz {p q : Rat} {a b : Nat} (h : Sz a p) (k : Sz b q) : Sz (a + b) (p * q) := by
  rw [Rat.mul_def]
  refine norm_sz _ ?_ (lt2_mul h.2 k.2)
  rw [Int.natAbs_mul]
  exact lt2_mul h.1 k.1
end Ek

/-! EkV: working meanings out, step by step -/
namespace Ek
open PySem PySem.Spec PyProof.Rows L2
/-- what comes behind: no argument that simp would look into -/
class Kt (α β : Type) where
  k : α → Option β
class Th (β : Type) where
  k : Unit → Option β
/-- first this, then that; what comes behind is not looked at before -/
def ob {α β : Type} (o : Option α) [f : Kt α β] : Option β := match o with
  | some x => f.k x
  | none => none
theorem ob_some {α β : Type} (x : α) (f : α → Option β) : @ob _ _ (some x) ⟨f⟩ = f x := eq_of_heq HEq.rfl
theorem ob_none {α β : Type} (f : α → Option β) : @ob _ _ none ⟨f⟩ = none := eq_of_heq HEq.rfl
def oif {β : Type} (c : Bool) [a : Th β] [b : Th β] : Option β := match c with
  | true => a.k ()
  | false => b.k ()
theorem oif_true {β : Type} (a b : Unit → Option β) : @oif _ true ⟨a⟩ ⟨b⟩ = a () := eq_of_heq HEq.rfl
theorem oif_false {β : Type} (a b : Unit → Option β) : @oif _ false ⟨a⟩ ⟨b⟩ = b () := eq_of_heq HEq.rfl
section
variable {Δ : Sl} {M : MS} {a b c d e : Sm W} {s t : Ss} {g : W → W → MS → Option (W × MS)} {u : W → MS → Option (W × MS)} {f : Fd} {n i j k : Nat} {x : PD} {tt : Bool} {p q : Sm Bool} {it : Sm (Bool × List PD)} {tg : Tg}
theorem ev_var : mVar i Δ M = @ob _ _ Δ[i]? ⟨fun o => @ob _ _ o ⟨fun w => some (w, M)⟩⟩ := by
  unfold mVar ob
  cases Δ[i]? with
  | none => rfl
  | some o => cases o <;> rfl
theorem ev_D : mD tt x Δ M = some (.d tt x, M) := eq_of_heq HEq.rfl
theorem ev_bin : mBin g a b Δ M = @ob _ _ (a Δ M) ⟨fun r => @ob _ _ (b Δ r.2) ⟨fun q => g r.1 q.1 q.2⟩⟩ := by
  unfold mBin ob
  cases a Δ M with
  | none => rfl
  | some r => obtain ⟨r1, r2⟩ := r; simp only []; cases b Δ r2 <;> rfl
theorem ev_un : mUn u a Δ M = @ob _ _ (a Δ M) ⟨fun r => u r.1 r.2⟩ := by
  unfold mUn ob
  cases a Δ M <;> rfl
theorem ev_args0 : mArgs [] Δ M = some ([], M) := eq_of_heq HEq.rfl
theorem ev_args {r : List (Sm W)} : mArgs (a :: r) Δ M = @ob _ _ (a Δ M) ⟨fun x => @ob _ _ (mArgs r Δ x.2) ⟨fun y => some (x.1 :: y.1, y.2)⟩⟩ := by
  show (match a Δ M with | some (x, M1) => (match mArgs r Δ M1 with | some (xs, M2) => some (x :: xs, M2) | none => none) | none => none) = _
  unfold ob
  cases a Δ M with
  | none => rfl
  | some r' => obtain ⟨r1, r2⟩ := r'; simp only []; cases mArgs r Δ r2 <;> rfl
theorem ev_fn {m : Sm (List W)} : mFn f m Δ M = @ob _ _ (m Δ M) ⟨fun r => f r.1 r.2⟩ := by
  unfold mFn ob
  cases m Δ M <;> rfl
theorem ev_call {m : Sm (List W)} : mCall n f m Δ M = @ob _ _ (m Δ M) ⟨fun r => if r.1.length = n then f r.1 r.2 else none⟩ := by
  unfold mCall ob
  cases m Δ M <;> rfl
theorem ev_callK {n0 nk : Nat} {pm : List Nat} {m k : Sm (List W)} : mCallK n n0 nk pm f m k Δ M = @ob _ _ (m Δ M) ⟨fun r => @ob _ _ (k Δ r.2) ⟨fun z => if (pickK n0 nk pm r.1 z.1).length = n then f (pickK n0 nk pm r.1 z.1) z.2 else none⟩⟩ := by
  unfold mCallK ob
  cases m Δ M with
  | none => rfl
  | some r => obtain ⟨r1, r2⟩ := r; simp only []; cases k Δ r2 <;> rfl
theorem ev_if {c : Sm Bool} : mIf c a b Δ M = @ob _ _ (c Δ M) ⟨fun r => @oif _ r.1 ⟨(fun _ => a Δ r.2)⟩ ⟨(fun _ => b Δ r.2)⟩⟩ := by
  unfold mIf ob
  cases c Δ M with
  | none => rfl
  | some r => obtain ⟨r1, r2⟩ := r; cases r1 <;> rfl
/-- a bool's own -/
def asB : W × MS → Option (Bool × MS)
  | (.d _ (.bool k), M) => some (k, M)
  | _ => none
theorem asB_d {k : Bool} : asB (.d tt (.bool k), M) = some (k, M) := eq_of_heq HEq.rfl
theorem ev_B1 : tB1 a Δ M = @ob _ _ (a Δ M) ⟨asB⟩ := by
  unfold tB1 ob
  cases a Δ M with
  | none => rfl
  | some r =>
    obtain ⟨r1, r2⟩ := r
    cases r1 with
    | d tt x => cases x <;> rfl
    | loc n => rfl
    | s xs => rfl
theorem ev_and : tAnd' p q Δ M = @ob _ _ (p Δ M) ⟨fun r => @oif _ r.1 ⟨(fun _ => q Δ r.2)⟩ ⟨(fun _ => some (false, r.2))⟩⟩ := by
  unfold tAnd' ob
  cases p Δ M with
  | none => rfl
  | some r => obtain ⟨r1, r2⟩ := r; cases r1 <;> rfl
theorem ev_or : tOr' p q Δ M = @ob _ _ (p Δ M) ⟨fun r => @oif _ r.1 ⟨(fun _ => some (true, r.2))⟩ ⟨(fun _ => q Δ r.2)⟩⟩ := by
  unfold tOr' ob
  cases p Δ M with
  | none => rfl
  | some r => obtain ⟨r1, r2⟩ := r; cases r1 <;> rfl
theorem ev_not : tNot' p Δ M = @ob _ _ (p Δ M) ⟨fun r => some (!r.1, r.2)⟩ := by
  unfold tNot' ob
  cases p Δ M <;> rfl
theorem ev_mand : mAnd a b Δ M = @ob _ _ (@ob _ _ (a Δ M) ⟨asB⟩) ⟨fun r => @oif _ r.1 ⟨(fun _ => b Δ r.2)⟩ ⟨(fun _ => some (.d true (.bool false), r.2))⟩⟩ := by
  unfold mAnd ob
  cases a Δ M with
  | none => rfl
  | some r =>
    obtain ⟨r1, r2⟩ := r
    cases r1 with
    | d tt x => cases x <;> first | rfl | (rename_i k; cases k <;> rfl)
    | loc n => rfl
    | s xs => rfl
theorem ev_mor : mOr a b Δ M = @ob _ _ (@ob _ _ (a Δ M) ⟨asB⟩) ⟨fun r => @oif _ r.1 ⟨(fun _ => some (.d true (.bool true), r.2))⟩ ⟨(fun _ => b Δ r.2)⟩⟩ := by
  unfold mOr ob
  cases a Δ M with
  | none => rfl
  | some r =>
    obtain ⟨r1, r2⟩ := r
    cases r1 with
    | d tt x => cases x <;> first | rfl | (rename_i k; cases k <;> rfl)
    | loc n => rfl
    | s xs => rfl
theorem ev_true : tTrue Δ M = some (true, M) := eq_of_heq HEq.rfl
theorem ev_chain {g' : W → W → MS → Option (W × MS)} : mChain g g' a b c Δ M = @ob _ _ (a Δ M) ⟨fun r => @ob _ _ (b Δ r.2) ⟨fun q => @ob _ _ (@ob _ _ (g r.1 q.1 q.2) ⟨asB⟩) ⟨fun z => @oif _ z.1 ⟨(fun _ => @ob _ _ (c Δ z.2) ⟨fun y => g' q.1 y.1 y.2⟩)⟩ ⟨(fun _ => some (.d true (.bool false), z.2))⟩⟩⟩⟩ := by
  unfold mChain ob
  cases a Δ M with
  | none => rfl
  | some r =>
    obtain ⟨r1, r2⟩ := r
    simp only []
    cases b Δ r2 with
    | none => rfl
    | some q =>
      obtain ⟨q1, q2⟩ := q
      simp only []
      cases g r1 q1 q2 with
      | none => rfl
      | some z =>
        obtain ⟨z1, z2⟩ := z
        cases z1 with
        | d tt x =>
          cases x with
          | bool k =>
            cases k with
            | true => simp only [asB, oif, if_true]; cases c Δ z2 <;> rfl
            | false => rfl
          | _ => rfl
        | loc n => rfl
        | s xs => rfl
/-! displays -/
def mkT (ws : List W) (M : MS) : Option (W × MS) := @ob _ _ (fzAll ws M) ⟨fun r => if r.2.1.length ≤ 1000 then some (.d r.1 (.tuple r.2.1), r.2.2) else none⟩
def mkL (ws : List W) (M : MS) : Option ((Bool × List PD) × MS) := @ob _ _ (fzAll ws M) ⟨fun r => if r.2.1.length ≤ 1000 then some ((r.1, r.2.1), r.2.2) else none⟩
theorem ev_tup {m : Sm (List W)} : mTup m Δ M = @ob _ _ (m Δ M) ⟨fun r => mkT r.1 r.2⟩ := by
  unfold mTup ob mkT ob
  cases m Δ M with
  | none => rfl
  | some r => obtain ⟨r1, r2⟩ := r; simp only []; cases fzAll r1 r2 <;> rfl
theorem ev_lst {m : Sm (List W)} : mLst m Δ M = @ob _ _ (m Δ M) ⟨fun r => mkL r.1 r.2⟩ := by
  unfold mLst ob mkL ob
  cases m Δ M with
  | none => rfl
  | some r => obtain ⟨r1, r2⟩ := r; simp only []; cases fzAll r1 r2 <;> rfl
theorem mkT2 {x y : PD} {r s : Bool} : mkT [.d r x, .d s y] M = some (.d (r && s) (.tuple [x, y]), M) := by
  simp [mkT, fzAll, fz1, ob]
theorem mkT3 {x y z : PD} {r s u : Bool} : mkT [.d r x, .d s y, .d u z] M = some (.d (r && (s && u)) (.tuple [x, y, z]), M) := by
  simp [mkT, fzAll, fz1, ob]
theorem mkL0 : mkL [] M = some ((true, []), M) := by simp [mkL, fzAll, ob]
theorem mkL1 {x : PD} {r : Bool} : mkL [.d r x] M = some ((r, [x]), M) := by simp [mkL, fzAll, fz1, ob]
theorem mkL2 {x y : PD} {r s : Bool} : mkL [.d r x, .d s y] M = some ((r && s, [x, y]), M) := by simp [mkL, fzAll, fz1, ob]
theorem ev_old : mOld it Δ M = @ob _ _ (it Δ M) ⟨fun r => some (.d r.1.1 (.list r.1.2), r.2)⟩ := by
  unfold mOld ob
  cases it Δ M <;> rfl
theorem ev_new : mNew it Δ M = @ob _ _ (it Δ M) ⟨fun r => some (.loc r.2.length, r.2 ++ [.lst r.1.1 r.1.2])⟩ := by
  unfold mNew ob
  cases it Δ M <;> rfl
theorem ev_items : mItems a Δ M = @ob _ _ (a Δ M) ⟨fun r => fzQ r.1 r.2⟩ := by
  unfold mItems ob
  cases a Δ M <;> rfl
theorem ev_lc {vs : List Nat} : mLc it tg p a vs Δ M = @ob _ _ (it Δ M) ⟨fun r => if r.1.2.length ≤ 100000 then lcGo r.1.1 tg p a (wipeD Δ vs) r.1.2 r.2 else none⟩ := by
  unfold mLc ob
  cases it Δ M <;> rfl
/-! statements -/
def seqK (t : Ss) : Fl × Sl × MS → Option (Fl × Sl × MS)
  | (.nx, Δ, M) => t Δ M
  | (.rt w, Δ, M) => some (.rt w, Δ, M)
  | (.bk, Δ, M) => some (.bk, Δ, M)
  | (.ct, Δ, M) => some (.ct, Δ, M)
theorem seq_nx : seqK t (.nx, Δ, M) = t Δ M := eq_of_heq HEq.rfl
theorem seq_rt {w : W} : seqK t (.rt w, Δ, M) = some (.rt w, Δ, M) := eq_of_heq HEq.rfl
theorem seq_bk : seqK t (.bk, Δ, M) = some (.bk, Δ, M) := eq_of_heq HEq.rfl
theorem seq_ct : seqK t (.ct, Δ, M) = some (.ct, Δ, M) := eq_of_heq HEq.rfl
theorem ev_seq : sSeq s t Δ M = @ob _ _ (s Δ M) ⟨(seqK t)⟩ := by
  unfold sSeq ob
  cases s Δ M with
  | none => rfl
  | some r => obtain ⟨f, Δ1, M1⟩ := r; cases f <;> rfl
theorem ev_next : sNext Δ M = some (.nx, Δ, M) := eq_of_heq HEq.rfl
theorem ev_break : sBreak Δ M = some (.bk, Δ, M) := eq_of_heq HEq.rfl
theorem ev_no : sNo Δ M = none := eq_of_heq HEq.rfl
theorem ev_ret : sRet a Δ M = @ob _ _ (a Δ M) ⟨fun r => @ob _ _ (fz1 r.1 r.2) ⟨fun z => some (.rt (.d z.1 z.2.1), Δ, z.2.2)⟩⟩ := by
  unfold sRet ob
  cases a Δ M with
  | none => rfl
  | some r => obtain ⟨r1, r2⟩ := r; simp only []; cases fz1 r1 r2 <;> rfl
theorem fz_d {x : PD} : fz1 (.d tt x) M = some (tt, x, M) := eq_of_heq HEq.rfl
theorem ev_retW : sRetW a Δ M = @ob _ _ (a Δ M) ⟨fun r => some (.rt r.1, Δ, r.2)⟩ := by
  unfold sRetW ob
  cases a Δ M <;> rfl
theorem ev_drop : sDrop a Δ M = @ob _ _ (a Δ M) ⟨fun r => some (.nx, Δ, r.2)⟩ := by
  unfold sDrop ob
  cases a Δ M <;> rfl
theorem ev_sif : sIf p s t Δ M = @ob _ _ (p Δ M) ⟨fun r => @oif _ r.1 ⟨(fun _ => s Δ r.2)⟩ ⟨(fun _ => t Δ r.2)⟩⟩ := by
  unfold sIf ob
  cases p Δ M with
  | none => rfl
  | some r => obtain ⟨r1, r2⟩ := r; cases r1 <;> rfl
theorem ev_set : sSet i a Δ M = @ob _ _ (a Δ M) ⟨fun r => some (.nx, Δ.set i (some r.1), r.2)⟩ := by
  unfold sSet ob
  cases a Δ M <;> rfl
def parK (i j : Nat) (Δ : Sl) : List W × MS → Option (Fl × Sl × MS)
  | ([u, v], M1) => some (.nx, (Δ.set i (some u)).set j (some v), M1)
  | _ => none
theorem par_2 {u v : W} : parK i j Δ ([u, v], M) = some (.nx, (Δ.set i (some u)).set j (some v), M) := eq_of_heq HEq.rfl
theorem ev_par {m : Sm (List W)} : sPar i j m Δ M = @ob _ _ (m Δ M) ⟨(parK i j Δ)⟩ := by
  unfold sPar ob parK
  rcases m Δ M with _ | ⟨ws, M1⟩
  · rfl
  · rcases ws with _ | ⟨u, _ | ⟨v, _ | _⟩⟩ <;> rfl
theorem ev_for : sFor it tg s Δ M = @ob _ _ (it Δ M) ⟨fun r => forGo r.1.1 tg s r.1.2 Δ r.2⟩ := by
  unfold sFor ob
  cases it Δ M <;> rfl
theorem ev_sem {b : Ss} {ws : List W} : semF n b ws M = @ob _ _ (b (ws.map some ++ List.replicate (n - ws.length) none) M) ⟨fun r => match r.1 with
    | .rt w => some (w, r.2.2)
    | .nx => some (.d true .none, r.2.2)
    | _ => none⟩ := by
  unfold semF ob
  rcases b (ws.map some ++ List.replicate (n - ws.length) none) M with _ | ⟨f, Δ1, M1⟩
  · rfl
  · cases f <;> rfl
/-! operations on ints and tuples -/
theorem gSub_i {r s : Bool} {x y : Int} : gSub (.d r (.int x)) (.d s (.int y)) M = some (.d true (.int (x - y)), M) := eq_of_heq HEq.rfl
theorem gAdd_i {r s : Bool} {x y : Int} : gAdd (.d r (.int x)) (.d s (.int y)) M = some (.d true (.int (x + y)), M) := eq_of_heq HEq.rfl
theorem gMul_i {r s : Bool} {x y : Int} (h : CMulE x y) : gMul (.d r (.int x)) (.d s (.int y)) M = some (.d true (.int (x * y)), M) := if_pos h
theorem gFdiv_i {r s : Bool} {x y : Int} (h : CDivW x y) : gFdiv (.d r (.int x)) (.d s (.int y)) M = some (.d true (.int (x / y)), M) := if_pos h
theorem gMod_i {r s : Bool} {x y : Int} (h : 0 < y) : gMod (.d r (.int x)) (.d s (.int y)) M = some (.d true (.int (x % y)), M) := if_pos h
theorem gLt_i {r s : Bool} {x y : Int} : gLt (.d r (.int x)) (.d s (.int y)) M = some (.d true (.bool (decide (x < y))), M) := eq_of_heq HEq.rfl
theorem gLe_i {r s : Bool} {x y : Int} : gLe (.d r (.int x)) (.d s (.int y)) M = some (.d true (.bool (decide (x ≤ y))), M) := eq_of_heq HEq.rfl
theorem gGt_i {r s : Bool} {x y : Int} : gGt (.d r (.int x)) (.d s (.int y)) M = some (.d true (.bool (decide (y < x))), M) := eq_of_heq HEq.rfl
theorem gGe_i {r s : Bool} {x y : Int} : gGe (.d r (.int x)) (.d s (.int y)) M = some (.d true (.bool (decide (y ≤ x))), M) := eq_of_heq HEq.rfl
theorem gEq_i {r s : Bool} {x y : Int} : gEq (.d r (.int x)) (.d s (.int y)) M = some (.d true (.bool (decide (x = y))), M) := by
  show some (W.d true (PyData.bool (PyData.eqv (.int x) (.int y))), M) = _
  congr 4
theorem gNe_i {r s : Bool} {x y : Int} : gNe (.d r (.int x)) (.d s (.int y)) M = some (.d true (.bool (!decide (x = y))), M) := by
  show some (W.d true (PyData.bool (!PyData.eqv (.int x) (.int y))), M) = _
  congr 5
theorem gIx_0 {r s : Bool} {x : PD} {xs : List PD} : gIx (.d r (.tuple (x :: xs))) (.d s (.int 0)) M = some (.d (nf r x) x, M) := by
  show (match atI (x :: xs) 0 with | some z => some (W.d (nf r z) z, M) | none => none) = _
  rw [show (0 : Int) = ((0 : Nat) : Int) from rfl, atI_nat (j := 0) rfl]
theorem gIx_1 {r s : Bool} {x y : PD} {xs : List PD} : gIx (.d r (.tuple (x :: y :: xs))) (.d s (.int 1)) M = some (.d (nf r y) y, M) := by
  show (match atI (x :: y :: xs) 1 with | some z => some (W.d (nf r z) z, M) | none => none) = _
  rw [show (1 : Int) = ((1 : Nat) : Int) from rfl, atI_nat (j := 1) rfl]
theorem frIx0 {r s : Bool} {q : Rat} : gIx (.d r (fr q)) (.d s (.int 0)) M = some (.d true (.int q.num), M) := gIx_0
theorem frIx1 {r s : Bool} {q : Rat} : gIx (.d r (fr q)) (.d s (.int 1)) M = some (.d true (.int q.den), M) := gIx_1
end
end Ek

/-! EkX: walks over encoded lists -/
namespace Ek
open PySem PySem.Spec PyProof.Rows L2
section
variable {α : Type} {t : Bool} {g : Tg} {tt : Sm Bool} {te : Sm W} {b : Ss} {enc : α → PD}
/-- a comprehension that leaves the store -/
theorem lc_enc {Δ : Sl} {M : MS} (c : α → Bool) (f : α → PD) (s : α → Bool) (l : List α)
    (h : ∀ a, a ∈ l → ∃ Δ1, g t (enc a) Δ = some Δ1 ∧ tt Δ1 M = some (c a, M) ∧ (c a = true → te Δ1 M = some (.d (s a) (f a), M))) :
    lcGo t g tt te Δ (l.map enc) M = some (((l.filter c).all s, (l.filter c).map f), M) := by
  induction l with
  | nil => rfl
  | cons a l ih =>
    obtain ⟨Δ1, h1, h2, h3⟩ := h a List.mem_cons_self
    have ih := ih fun a ha => h a (List.mem_cons_of_mem _ ha)
    cases hc : c a with
    | true =>
      rw [hc] at h2
      simp [lcGo, h1, h2, h3 hc, fz1, ih, hc]
    | false =>
      rw [hc] at h2
      simp [lcGo, h1, h2, ih, hc]
/-- with no test -/
theorem lc_map {Δ : Sl} {M : MS} (f : α → PD) (s : α → Bool) (l : List α)
    (h : ∀ a, a ∈ l → ∃ Δ1, g t (enc a) Δ = some Δ1 ∧ te Δ1 M = some (.d (s a) (f a), M)) :
    lcGo t g tTrue te Δ (l.map enc) M = some ((l.all s, l.map f), M) := by
  have := lc_enc (tt := tTrue) (enc := enc) (M := M) (fun _ => true) f s l (fun a ha => by
    obtain ⟨Δ1, h1, h2⟩ := h a ha
    exact ⟨Δ1, h1, rfl, fun _ => h2⟩)
  rw [this, List.filter_eq_self.mpr (fun _ _ => rfl)]
/-- a comprehension with a changing store: what holds of the store is kept -/
theorem lc_inv {Δ : Sl} (P : MS → Prop) (R : PD → Prop) (s : Bool) (xs : List PD)
    (h : ∀ x, x ∈ xs → ∀ M, P M → ∃ Δ1, g t x Δ = some Δ1 ∧ ∃ y M2, te Δ1 M = some (.d s y, M2) ∧ P M2 ∧ R y) :
    ∀ M, P M → ∃ ys M2, lcGo t g tTrue te Δ xs M = some ((ys.all fun _ => s, ys), M2) ∧ ys.length = xs.length ∧ P M2 ∧ ∀ y, y ∈ ys → R y := by
  induction xs with
  | nil => exact fun M hM => ⟨[], M, rfl, rfl, hM, fun _ h => nomatch h⟩
  | cons x xs ih =>
    intro M hM
    obtain ⟨Δ1, h1, y, M2, h2, h3, h4⟩ := h x List.mem_cons_self M hM
    obtain ⟨ys, M3, h5, h6, h7, h8⟩ := ih (fun x hx => h x (List.mem_cons_of_mem _ hx)) M2 h3
    refine ⟨y :: ys, M3, ?_, by simp [h6], h7, ?_⟩
    · simp [lcGo, h1, tTrue, h2, fz1, h5]
    · intro z hz
      cases hz with
      | head => exact h4
      | tail _ hz => exact h8 z hz
/-- a for loop that goes to its end -/
theorem for_inv (P : List α → Sl → MS → Prop) (l : List α)
    (h : ∀ done a rest, l = done ++ a :: rest → ∀ Δ M, P done Δ M → ∃ Δ1, g t (enc a) Δ = some Δ1 ∧ ∃ Δ2 M2, b Δ1 M = some (.nx, Δ2, M2) ∧ P (done ++ [a]) Δ2 M2) :
    ∀ Δ M, P [] Δ M → ∃ Δ' M', forGo t g b (l.map enc) Δ M = some (.nx, Δ', M') ∧ P l Δ' M' := by
  suffices hs : ∀ rest done, l = done ++ rest → ∀ Δ M, P done Δ M → ∃ Δ' M', forGo t g b (rest.map enc) Δ M = some (.nx, Δ', M') ∧ P l Δ' M' from fun Δ M hP => hs l [] rfl Δ M hP
  intro rest
  induction rest with
  | nil =>
    intro done e Δ M hP
    refine ⟨Δ, M, rfl, ?_⟩
    rw [e, List.append_nil]
    exact hP
  | cons a rest ih =>
    intro done e Δ M hP
    obtain ⟨Δ1, h1, Δ2, M2, h2, h3⟩ := h done a rest e Δ M hP
    obtain ⟨Δ', M', h4, h5⟩ := ih (done ++ [a]) (by simp [e]) Δ2 M2 h3
    refine ⟨Δ', M', ?_, h5⟩
    simp [forGo, h1, h2, h4]
end
section
variable {Δ : Sl} {M : MS} {i j : Nat} {r s : Bool} {x y : PD} {g : Tg} {gs : Tgs} {xs : List PD}
theorem tg_nm : gNm i r x Δ = some (Δ.set i (some (.d (nf r x) x))) := eq_of_heq HEq.rfl
theorem tg_2 : gTp (gsCons (gNm i) (gsCons (gNm j) gsNil)) r (.tuple [x, y]) Δ = some ((Δ.set i (some (.d (nf r x) x))).set j (some (.d (nf r y) y))) := eq_of_heq HEq.rfl
theorem nf_t : nf r (.tuple xs) = r := eq_of_heq HEq.rfl
theorem nf_l : nf r (.list xs) = r := eq_of_heq HEq.rfl
theorem nf_fr {q : Rat} : nf r (fr q) = r := eq_of_heq HEq.rfl
theorem nf_i {n : Int} : nf r (.int n) = true := eq_of_heq HEq.rfl
theorem fzQ_l : fzQ (.d r (.list xs)) M = some ((r, xs), M) := eq_of_heq HEq.rfl
theorem fzQ_t : fzQ (.d r (.tuple xs)) M = some ((r, xs), M) := eq_of_heq HEq.rfl
theorem bLen_l : bLen [.d r (.list xs)] M = some (.d true (.int xs.length), M) := eq_of_heq HEq.rfl
theorem bLen_t : bLen [.d r (.tuple xs)] M = some (.d true (.int xs.length), M) := eq_of_heq HEq.rfl
theorem bTuple_l : bTuple [.d r (.list xs)] M = some (.d r (.tuple xs), M) := eq_of_heq HEq.rfl
theorem isi_tt : gIsi "tuple" (.d r (.tuple xs)) M = some (.d true (.bool true), M) := eq_of_heq HEq.rfl
theorem isi_ii {n : Int} : gIsi "int" (.d r (.int n)) M = some (.d true (.bool true), M) := eq_of_heq HEq.rfl
theorem isi_bi {n : Int} : gIsi "bool" (.d r (.int n)) M = some (.d true (.bool false), M) := eq_of_heq HEq.rfl
theorem gIs_n : gIs (.d r .none) M = some (.d true (.bool true), M) := eq_of_heq HEq.rfl
theorem gIs_i {n : Int} : gIs (.d r (.int n)) M = some (.d true (.bool false), M) := eq_of_heq HEq.rfl
theorem gEq_d (h : SeqAt.shaped x = true) (k : SeqAt.shaped y = true) : gEq (.d r x) (.d s y) M = some (.d true (.bool (PyData.eqv x y)), M) := if_pos ⟨h, k⟩
theorem gNe_d (h : SeqAt.shaped x = true) (k : SeqAt.shaped y = true) : gNe (.d r x) (.d s y) M = some (.d true (.bool (!PyData.eqv x y)), M) := if_pos ⟨h, k⟩
theorem bools_map {α : Type} (l : List α) (f : α → Bool) : asBools (l.map fun a => PyData.bool (f a)) = some (l.map f) := by
  induction l with
  | nil => rfl
  | cons a l ih => simp [asBools, ih]
theorem bAll_map {α : Type} (l : List α) (f : α → Bool) : bAll [.d r (.list (l.map fun a => PyData.bool (f a)))] M = some (.d true (.bool (l.all f)), M) := by
  show (match asBools (l.map fun a => PyData.bool (f a)) with | some bs => some (W.d true (PyData.bool (bs.all id)), M) | none => none) = _
  rw [bools_map]
  simp [List.all_map]
theorem fr_shaped (q : Rat) : SeqAt.shaped (fr q) = true := by
  unfold fr
  rfl
theorem ev_range1 {m : Sm (List W)} {n : Nat} (h : m Δ M = some ([.d r (.int n)], M)) (l : n < 2 ^ 62) : mRange1 m Δ M = some ((true, rangeD 0 n), M) := by
  unfold mRange1
  rw [h]
  have : -(2 ^ 62) ≤ (n : Int) ∧ (n : Int) < 2 ^ 62 := by omega
  simp only [this, and_self, if_true, Int.toNat_natCast]
theorem fr_eqv (p q : Rat) : PyData.eqv (fr p) (fr q) = decide (p = q) := by
  have e : PyData.eqv (fr p) (fr q) = (decide (p.num = q.num) && (decide ((p.den : Int) = (q.den : Int)) && true)) := by
    unfold fr
    rfl
  rw [e]
  by_cases h : p = q
  · subst h
    simp
  · simp only [h, decide_false]
    by_cases h1 : p.num = q.num
    · have : p.den ≠ q.den := fun h2 => h (Rat.ext h1 h2)
      have : ¬((p.den : Int) = (q.den : Int)) := by omega
      simp [this]
    · simp [h1]
theorem gEq_fr {p q : Rat} : gEq (.d r (fr p)) (.d s (fr q)) M = some (.d true (.bool (decide (p = q))), M) := by
  rw [gEq_d (fr_shaped p) (fr_shaped q), fr_eqv]
theorem gNe_fr {p q : Rat} : gNe (.d r (fr p)) (.d s (fr q)) M = some (.d true (.bool (!decide (p = q))), M) := by
  rw [gNe_d (fr_shaped p) (fr_shaped q), fr_eqv]
/-- sums and their sizes -/
theorem sz_0 : Sz 1 0 := ⟨by decide, by decide⟩
theorem sum_sz {b : Nat} : ∀ {l : List Rat}, (∀ q, q ∈ l → Sz b q) → Sz (1 + l.length * (b + 1)) l.sum := by
  intro l h
  induction l with
  | nil => simpa using sz_0
  | cons a l ih =>
    have := add_sz (h a List.mem_cons_self) (ih fun q hq => h q (List.mem_cons_of_mem _ hq))
    rw [List.sum_cons, List.length_cons, Nat.add_mul]
    refine this.mono ?_
    omega
theorem sum_snoc (l : List Rat) (q : Rat) : (l ++ [q]).sum = l.sum + q := by
  induction l with
  | nil => simp [Rat.add_comm]
  | cons a l ih => simp [ih, Rat.add_assoc]
def rgK : List W × MS → Option ((Bool × List PD) × MS)
  | ([.d _ (.int j)], M1) => if -(2 ^ 62) ≤ j ∧ j < 2 ^ 62 then some ((true, rangeD 0 j.toNat), M1) else none
  | _ => none
theorem ev_rg {m : Sm (List W)} : mRange1 m Δ M = @ob _ _ (m Δ M) ⟨rgK⟩ := by
  unfold mRange1 ob
  rcases m Δ M with _ | ⟨ws, M1⟩
  · rfl
  · rcases ws with _ | ⟨w, _ | _⟩
    · rfl
    · cases w with
      | d r x => cases x <;> rfl
      | loc n => rfl
      | s xs => rfl
    · cases w with
      | d r x => cases x <;> rfl
      | loc n => rfl
      | s xs => rfl
def nE (i : Nat) : PD := .int (i : Int)
theorem rgK_n {n : Nat} (l : n < 2 ^ 62) : rgK ([.d r (.int n)], M) = some ((true, (List.range n).map nE), M) := by
  have : -(2 ^ 62) ≤ (n : Int) ∧ (n : Int) < 2 ^ 62 := by omega
  unfold rgK
  simp only [this, and_self, if_true, Int.toNat_natCast]
  unfold rangeD nE
  simp only [Int.zero_add]
theorem rgK_o {n : Int} (m : Nat) (h : n = m) (l : m < 2 ^ 62) : rgK ([.d r (.int n)], M) = some ((true, (List.range m).map nE), M) := by
  subst h
  exact rgK_n l
theorem nf_nE {n : Nat} : nf r (nE n) = true := eq_of_heq HEq.rfl
theorem gIx_at {α : Type} {l : List α} {enc : α → PD} {n : Nat} {k : Int} (e : k = n) (h : n < l.length) : gIx (.d r (.list (l.map enc))) (.d s (.int k)) M = some (.d (nf r (enc l[n])) (enc l[n]), M) := by
  subst e
  show (match atI (l.map enc) (n : Int) with | some y => some (W.d (nf r y) y, M) | none => none) = _
  rw [atI_nat (j := n) (v := enc l[n]) (by simp [h])]
theorem gIxT_at {α : Type} {l : List α} {enc : α → PD} {n : Nat} {k : Int} (e : k = n) (h : n < l.length) : gIx (.d r (.tuple (l.map enc))) (.d s (.int k)) M = some (.d (nf r (enc l[n])) (enc l[n]), M) := by
  subst e
  show (match atI (l.map enc) (n : Int) with | some y => some (W.d (nf r y) y, M) | none => none) = _
  rw [atI_nat (j := n) (v := enc l[n]) (by simp [h])]
theorem gNeg_i {n : Int} : gNeg (.d r (.int n)) M = some (.d true (.int (-n)), M) := eq_of_heq HEq.rfl
theorem ixM_last {α : Type} {l : List α} {enc : α → PD} {z : α} : gIx (.loc M.length) (.d s (.int (-1))) (M ++ [.lst r ((l ++ [z]).map enc)]) = some (.d (nf r (enc z)) (enc z), M ++ [.lst r ((l ++ [z]).map enc)]) := by
  have h : (M ++ [MO.lst r ((l ++ [z]).map enc)])[M.length]? = some (.lst r ((l ++ [z]).map enc)) := by simp
  show (match (match (M ++ [MO.lst r ((l ++ [z]).map enc)])[M.length]? with
    | some (.lst t xs) => some (t, xs)
    | some (.fzn t xs) => some (t, xs)
    | _ => none) with
    | some (t, xs) => (match atI xs (-1) with
      | some y => some (W.d (nf t y) y, M ++ [MO.lst r ((l ++ [z]).map enc)])
      | none => none)
    | none => none) = _
  rw [h]
  have e : atI ((l ++ [z]).map enc) (-1) = some (enc z) := by
    have e1 : ixN ((l ++ [z]).map enc).length (-1) = some l.length := by
      unfold ixN
      rw [if_neg (by decide), if_pos (by simp; omega)]
      congr 1
      simp
      omega
    unfold atI
    rw [e1]
    simp
  simp only [e]
theorem last_get {o : MO} : (M ++ [o])[M.length]? = some o := by simp
theorem last_set {o o' : MO} : (M ++ [o]).set M.length o' = M ++ [o'] := by simp
theorem app_last {a e : Sm W} {xs : List PD} (ha : a Δ (M ++ [.lst r xs]) = some (.loc M.length, M ++ [.lst r xs])) (he : e Δ (M ++ [.lst r xs]) = some (.d s x, M ++ [.lst r xs])) (hl : xs.length ≤ 100000) : mApp a e Δ (M ++ [.lst r xs]) = some (.d true .none, M ++ [.lst (r && s) (xs ++ [x])]) := by
  unfold mApp
  rw [ha]
  simp only [last_get]
  rw [he]
  simp only [fz1, last_get, if_pos hl, last_set]
def rqK : W × MS → Option (W × MS)
  | (.d t (.tuple xs), M1) => some (.d t (.tuple xs.reverse), M1)
  | (w, M1) => (match rdL w M1 with
    | some (t, xs) => some (.d t (.list xs.reverse), M1)
    | none => none)
theorem ev_revq {a : Sm W} : mRevQ a Δ M = @ob _ _ (a Δ M) ⟨rqK⟩ := by
  unfold mRevQ ob
  rcases a Δ M with _ | ⟨w, M1⟩
  · rfl
  · cases w with
    | d t x => cases x <;> rfl
    | loc n => rfl
    | s xs => rfl
theorem rq_t {xs : List PD} : rqK (.d r (.tuple xs), M) = some (.d r (.tuple xs.reverse), M) := eq_of_heq HEq.rfl
theorem rq_last {xs : List PD} : rqK (.loc M.length, M ++ [.lst r xs]) = some (.d r (.list xs.reverse), M ++ [.lst r xs]) := by
  show (match rdL (.loc M.length) (M ++ [MO.lst r xs]) with
    | some (t, ys) => some (W.d t (PyData.list ys.reverse), M ++ [MO.lst r xs])
    | none => none) = _
  have : rdL (.loc M.length) (M ++ [MO.lst r xs]) = some (r, xs) := by
    show (match (M ++ [MO.lst r xs])[M.length]? with
    | some (.lst t xs) => some (t, xs)
    | some (.fzn t xs) => some (t, xs)
    | _ => none) = _
    rw [last_get]
  rw [this]
end
end Ek

/-! EkB: fractions over a common bottom -/
namespace Ek
open PySem PySem.Spec PyProof.Rows L2
/-- times D it is an int of at most N -/
def Bd (D N : Nat) (q : Rat) : Prop := ∃ n : Int, n.natAbs ≤ N ∧ q * (D : Rat) = (n : Rat)
theorem Bd.add {D N L : Nat} {p q : Rat} (h : Bd D N p) (k : Bd D L q) : Bd D (N + L) (p + q) := by
  obtain ⟨n, h1, h2⟩ := h
  obtain ⟨l, k1, k2⟩ := k
  refine ⟨n + l, by omega, ?_⟩
  rw [Rat.add_mul, h2, k2, Rat.intCast_add]
theorem Bd.mul {D E N L : Nat} {p q : Rat} (h : Bd D N p) (k : Bd E L q) : Bd (D * E) (N * L) (p * q) := by
  obtain ⟨n, h1, h2⟩ := h
  obtain ⟨l, k1, k2⟩ := k
  refine ⟨n * l, by rw [Int.natAbs_mul]; exact Nat.mul_le_mul h1 k1, ?_⟩
  rw [Rat.intCast_mul, ← h2, ← k2, Rat.natCast_mul]
  grind
theorem Bd.mono {D N L : Nat} {p : Rat} (h : Bd D N p) (l : N ≤ L) : Bd D L p := by
  obtain ⟨n, h1, h2⟩ := h
  exact ⟨n, by omega, h2⟩
theorem Bd.wide {D N E : Nat} {p : Rat} (h : Bd D N p) : Bd (D * E) (N * E) p := by
  obtain ⟨n, h1, h2⟩ := h
  refine ⟨n * E, ?_, ?_⟩
  · rw [Int.natAbs_mul]
    exact Nat.mul_le_mul_right _ h1
  · rw [Rat.natCast_mul, Rat.intCast_mul, ← h2, Rat.intCast_natCast]
    grind
theorem Bd.sz {D N b : Nat} {p : Rat} (h : Bd D N p) (h0 : D ≠ 0) (hD : D < 2 ^ b) (hN : N < 2 ^ b) : Sz b p := by
  obtain ⟨n, h1, h2⟩ := h
  have hd : (D : Rat) ≠ 0 := by
    intro e
    exact h0 (by exact_mod_cast e)
  have e : p = Rat.normalize n D h0 := by
    rw [Rat.normalize_eq_mkRat, Rat.mkRat_eq_div, ← h2]
    grind
  rw [e]
  exact norm_sz h0 (by omega) hD
end Ek

/-! EkY: what code makes of known values, whatever the flags and the store -/
namespace Ek
open PySem PySem.Spec PyProof.Rows L2
inductive AV where
  | d (x : PD)
  | loc (n : Nat)
  | s (xs : List PD)
abbrev AE := List (Option AV)
def isV : W → AV → Prop
  | .d _ x, .d y => x = y
  | .loc n, .loc m => n = m
  | .s xs, .s ys => xs = ys
  | _, _ => False
structure Sat (E : AE) (Δ : Sl) : Prop where
  len : Δ.length = E.length
  sl : ∀ (i : Nat) (v : AV), E[i]? = some (some v) → ∃ w, Δ[i]? = some (some w) ∧ isV w v
theorem isV_d {w : W} {x : PD} (h : isV w (.d x)) : ∃ t, w = .d t x := by
  cases w with
  | d t y => cases h; exact ⟨t, rfl⟩
  | loc n => cases h
  | s xs => cases h
theorem isV_loc {w : W} {n : Nat} (h : isV w (.loc n)) : w = .loc n := by
  cases w with
  | d t y => cases h
  | loc m => cases h; rfl
  | s xs => cases h
theorem isV_s {w : W} {xs : List PD} (h : isV w (.s xs)) : w = .s xs := by
  cases w with
  | d t y => cases h
  | loc m => cases h
  | s ys => cases h; rfl
inductive DV : List W → List AV → Prop
  | nil : DV [] []
  | cons {w : W} {ws : List W} {v : AV} {vs : List AV} : isV w v → DV ws vs → DV (w :: ws) (v :: vs)
theorem DV.length : ∀ {ws : List W} {vs : List AV}, DV ws vs → ws.length = vs.length
  | _, _, .nil => rfl
  | _, _, .cons _ t => by simp [DV.length t]
theorem DV.append : ∀ {ws us : List W} {vs xs : List AV}, DV ws vs → DV us xs → DV (ws ++ us) (vs ++ xs)
  | _, _, _, _, .nil, h => h
  | _, _, _, _, .cons a t, h => .cons a (DV.append t h)
theorem sat_set {E : AE} {Δ : Sl} {w : W} {v : AV} (h : Sat E Δ) (i : Nat) (hw : isV w v) : Sat (E.set i (some v)) (Δ.set i (some w)) := by
  refine ⟨by simp [h.len], fun k u hk => ?_⟩
  rw [List.getElem?_set] at hk ⊢
  split at hk
  · rename_i e
    subst e
    split at hk
    · rename_i l
      cases hk
      rw [if_pos rfl, if_pos (by rw [h.len]; exact l)]
      exact ⟨w, rfl, hw⟩
    · cases hk
  · rename_i e
    rw [if_neg e]
    exact h.sl k u hk
theorem sat_none {E : AE} {Δ : Sl} (h : Sat E Δ) (i : Nat) : Sat (E.set i none) (Δ.set i none) := by
  refine ⟨by simp [h.len], fun k u hk => ?_⟩
  rw [List.getElem?_set] at hk ⊢
  split at hk
  · split at hk <;> cases hk
  · rename_i e
    rw [if_neg e]
    exact h.sl k u hk
def wipeA (E : AE) : List Nat → AE
  | [] => E
  | v :: vs => (wipeA E vs).set v none
theorem sat_wipe {E : AE} {Δ : Sl} (h : Sat E Δ) : ∀ vs : List Nat, Sat (wipeA E vs) (wipeD Δ vs)
  | [] => h
  | v :: vs => sat_none (sat_wipe h vs) v
/-- fewer things known -/
inductive WkE : AE → AE → Prop
  | nil : WkE [] []
  | k {o : Option AV} {E E' : AE} : WkE E E' → WkE (o :: E) (o :: E')
  | n {o : Option AV} {E E' : AE} : WkE E E' → WkE (o :: E) (none :: E')
theorem WkE.refl : ∀ E : AE, WkE E E
  | [] => .nil
  | _ :: E => .k (WkE.refl E)
theorem WkE.get : ∀ {E E' : AE}, WkE E E' → E'.length = E.length ∧ ∀ (i : Nat) (v : AV), E'[i]? = some (some v) → E[i]? = some (some v)
  | _, _, .nil => ⟨rfl, fun i v h => h⟩
  | _, _, .k t => by
    obtain ⟨h1, h2⟩ := WkE.get t
    refine ⟨by simp [h1], fun i v h => ?_⟩
    cases i with
    | zero => simpa using h
    | succ i => simpa using h2 i v (by simpa using h)
  | _, _, .n t => by
    obtain ⟨h1, h2⟩ := WkE.get t
    refine ⟨by simp [h1], fun i v h => ?_⟩
    cases i with
    | zero => simp at h
    | succ i => simpa using h2 i v (by simpa using h)
theorem sat_wk {E E' : AE} {Δ : Sl} (w : WkE E E') (h : Sat E Δ) : Sat E' Δ := by
  obtain ⟨h1, h2⟩ := w.get
  exact ⟨by rw [h1, h.len], fun i v e => h.sl i v (h2 i v e)⟩
/-! ### the readings -/
def Ev (m : Sm W) (E : AE) (x : PD) : Prop := ∀ Δ M, Sat E Δ → ∃ t N, m Δ M = some (.d t x, M ++ N)
def EvT (m : Sm Bool) (E : AE) (b : Bool) : Prop := ∀ Δ M, Sat E Δ → ∃ N, m Δ M = some (b, M ++ N)
def EvL (m : Sm (Bool × List PD)) (E : AE) (xs : List PD) : Prop := ∀ Δ M, Sat E Δ → ∃ t N, m Δ M = some ((t, xs), M ++ N)
def EvA (ms : List (Sm W)) (E : AE) (vs : List AV) : Prop := ∀ Δ M, Sat E Δ → ∃ ws N, mArgs ms Δ M = some (ws, M ++ N) ∧ DV ws vs
def FnC (f : Fd) (vs : List AV) (x : PD) : Prop := ∀ ws M, DV ws vs → ∃ t N, f ws M = some (.d t x, M ++ N)
section
variable {E E' : AE} {a b c : Sm W} {x y z : PD} {i j k n : Nat} {p q : Sm Bool} {it : Sm (Bool × List PD)} {g : Tg}
theorem e_var (h : E[i]? = some (some (.d x))) : Ev (mVar i) E x := fun Δ M S => by
  obtain ⟨w, h1, h2⟩ := S.sl i _ h
  obtain ⟨t, rfl⟩ := isV_d h2
  exact ⟨t, [], by unfold mVar; rw [h1]; simp⟩
theorem e_D {t : Bool} : Ev (mD t x) E x := fun Δ M S => ⟨t, [], by simp [mD]⟩
theorem e_bin {g : W → W → MS → Option (W × MS)} (ha : Ev a E x) (hb : Ev b E y) (hg : ∀ t s M, ∃ r, g (.d t x) (.d s y) M = some (.d r z, M)) : Ev (mBin g a b) E z := fun Δ M S => by
  obtain ⟨t, N, h1⟩ := ha Δ M S
  obtain ⟨s, N2, h2⟩ := hb Δ (M ++ N) S
  obtain ⟨r, h3⟩ := hg t s (M ++ N ++ N2)
  exact ⟨r, N ++ N2, by unfold mBin; rw [h1]; simp only []; rw [h2]; simp only []; rw [h3, List.append_assoc]⟩
theorem e_un {g : W → MS → Option (W × MS)} (ha : Ev a E x) (hg : ∀ t M, ∃ r, g (.d t x) M = some (.d r z, M)) : Ev (mUn g a) E z := fun Δ M S => by
  obtain ⟨t, N, h1⟩ := ha Δ M S
  obtain ⟨r, h3⟩ := hg t (M ++ N)
  exact ⟨r, N, by unfold mUn; rw [h1]; exact h3⟩
theorem a_nil : EvA [] E [] := fun Δ M S => ⟨[], [], by simp [mArgs], .nil⟩
theorem a_cons {ms : List (Sm W)} {vs : List AV} (ha : Ev a E x) (hr : EvA ms E vs) : EvA (a :: ms) E (.d x :: vs) := fun Δ M S => by
  obtain ⟨t, N, h1⟩ := ha Δ M S
  obtain ⟨ws, N2, h2, h3⟩ := hr Δ (M ++ N) S
  refine ⟨.d t x :: ws, N ++ N2, ?_, .cons rfl h3⟩
  show (match a Δ M with | some (x, M1) => (match mArgs ms Δ M1 with | some (xs, M2) => some (x :: xs, M2) | none => none) | none => none) = _
  rw [h1]
  simp only []
  rw [h2, List.append_assoc]
theorem a_loc {ms : List (Sm W)} {vs : List AV} {v : AV} (ha : E[i]? = some (some v)) (hr : EvA ms E vs) : EvA (mVar i :: ms) E (v :: vs) := fun Δ M S => by
  obtain ⟨w, h1, h4⟩ := S.sl i _ ha
  obtain ⟨ws, N2, h2, h3⟩ := hr Δ M S
  refine ⟨w :: ws, N2, ?_, .cons h4 h3⟩
  show (match mVar i Δ M with | some (x, M1) => (match mArgs ms Δ M1 with | some (xs, M2) => some (x :: xs, M2) | none => none) | none => none) = _
  unfold mVar
  rw [h1]
  simp only []
  rw [h2]
theorem e_call {f : Fd} {ms : List (Sm W)} {vs : List AV} (hf : FnC f vs x) (ha : EvA ms E vs) (hn : vs.length = n) : Ev (mCall n f (mArgs ms)) E x := fun Δ M S => by
  obtain ⟨ws, N, h1, h2⟩ := ha Δ M S
  obtain ⟨t, N2, h3⟩ := hf ws (M ++ N) h2
  refine ⟨t, N ++ N2, ?_⟩
  unfold mCall
  rw [h1]
  simp only [h2.length, hn, if_true]
  rw [h3, List.append_assoc]
theorem DV.get : ∀ {ws : List W} {vs : List AV} {i : Nat} {v : AV}, DV ws vs → vs[i]? = some v → ∃ w, ws[i]? = some w ∧ isV w v
  | _, _, i, v, .nil, h => by simp at h
  | _, _, 0, v, .cons a t, h => by simp at h; subst h; exact ⟨_, rfl, a⟩
  | _, _, i + 1, v, .cons a t, h => by simpa using DV.get (i := i) t (by simpa using h)
theorem DV.pick {ws : List W} {vs : List AV} (h : DV ws vs) : ∀ pm : List Nat, DV (pick pm ws) (pick pm vs)
  | [] => .nil
  | i :: pm => by
    have ih := DV.pick h pm
    unfold Ek.pick at ih ⊢
    cases hv : vs[i]? with
    | none =>
      have : ws[i]? = none := by
        rw [List.getElem?_eq_none_iff] at hv ⊢
        rw [h.length]
        exact hv
      rw [List.filterMap_cons_none this, List.filterMap_cons_none hv]
      exact ih
    | some v =>
      obtain ⟨w, h1, h2⟩ := h.get hv
      rw [List.filterMap_cons_some h1, List.filterMap_cons_some hv]
      exact .cons h2 ih
theorem e_callK {f : Fd} {ms ks : List (Sm W)} {us vs xs : List AV} {n0 nk : Nat} {pm : List Nat} (hf : FnC f xs x) (ha : EvA ms E us) (hk : EvA ks E vs) (h0 : us.length = n0) (h1 : vs.length = nk) (hx : us ++ pick pm vs = xs) (hn : xs.length = n) : Ev (mCallK n n0 nk pm f (mArgs ms) (mArgs ks)) E x := fun Δ M S => by
  obtain ⟨ws, N, a1, a2⟩ := ha Δ M S
  obtain ⟨zs, N2, b1, b2⟩ := hk Δ (M ++ N) S
  subst hx
  have hd : DV (ws ++ pick pm zs) (us ++ pick pm vs) := a2.append (b2.pick pm)
  obtain ⟨t, N3, c3⟩ := hf _ (M ++ N ++ N2) hd
  refine ⟨t, N ++ (N2 ++ N3), ?_⟩
  unfold mCallK
  rw [a1]
  simp only []
  rw [b1]
  have e : pickK n0 nk pm ws zs = ws ++ pick pm zs := by
    unfold pickK
    rw [if_pos ⟨by rw [a2.length, h0], by rw [b2.length, h1]⟩]
  simp only [e, hd.length, hn, if_true]
  rw [c3]
  simp
theorem e_fn {f : Fd} {ms : List (Sm W)} {vs : List AV} (hf : FnC f vs x) (ha : EvA ms E vs) : Ev (mFn f (mArgs ms)) E x := fun Δ M S => by
  obtain ⟨ws, N, h1, h2⟩ := ha Δ M S
  obtain ⟨t, N2, h3⟩ := hf ws (M ++ N) h2
  refine ⟨t, N ++ N2, ?_⟩
  unfold mFn
  rw [h1]
  simp only []
  rw [h3, List.append_assoc]
theorem e_if {α : Type} (enc : α → PD) {u v : α} {k : Bool} (hc : EvT p E k) (ha : k = true → Ev a E (enc u)) (hb : k = false → Ev b E (enc v)) : Ev (mIf p a b) E (enc (if k = true then u else v)) := fun Δ M S => by
  obtain ⟨N, h1⟩ := hc Δ M S
  cases k with
  | true =>
    obtain ⟨t, N2, h2⟩ := ha rfl Δ (M ++ N) S
    exact ⟨t, N ++ N2, by unfold mIf; rw [h1]; simp only [if_true]; rw [h2, List.append_assoc]⟩
  | false =>
    obtain ⟨t, N2, h2⟩ := hb rfl Δ (M ++ N) S
    exact ⟨t, N ++ N2, by unfold mIf; rw [h1]; simp only [Bool.false_eq_true, if_false]; rw [h2, List.append_assoc]⟩
theorem t_B1 {k : Bool} (h : Ev a E (.bool k)) : EvT (tB1 a) E k := fun Δ M S => by
  obtain ⟨t, N, h1⟩ := h Δ M S
  exact ⟨N, by unfold tB1; rw [h1]⟩
theorem t_true : EvT tTrue E true := fun Δ M S => ⟨[], by simp [tTrue]⟩
theorem t_not {k : Bool} (h : EvT p E k) : EvT (tNot' p) E (!k) := fun Δ M S => by
  obtain ⟨N, h1⟩ := h Δ M S
  exact ⟨N, by unfold tNot'; rw [h1]⟩
theorem t_and {k l : Bool} (h : EvT p E k) (h' : k = true → EvT q E l) : EvT (tAnd' p q) E (k && l) := fun Δ M S => by
  obtain ⟨N, h1⟩ := h Δ M S
  cases k with
  | true =>
    obtain ⟨N2, h2⟩ := h' rfl Δ (M ++ N) S
    exact ⟨N ++ N2, by unfold tAnd'; rw [h1]; simp only [if_true]; rw [h2]; simp⟩
  | false => exact ⟨N, by unfold tAnd'; rw [h1]; simp⟩
theorem t_or {k l : Bool} (h : EvT p E k) (h' : k = false → EvT q E l) : EvT (tOr' p q) E (k || l) := fun Δ M S => by
  obtain ⟨N, h1⟩ := h Δ M S
  cases k with
  | false =>
    obtain ⟨N2, h2⟩ := h' rfl Δ (M ++ N) S
    exact ⟨N ++ N2, by unfold tOr'; rw [h1]; simp only [Bool.false_eq_true, if_false]; rw [h2]; simp⟩
  | true => exact ⟨N, by unfold tOr'; rw [h1]; simp⟩
theorem e_and {k l : Bool} (h : Ev a E (.bool k)) (h' : k = true → Ev b E (.bool l)) : Ev (mAnd a b) E (.bool (k && l)) := fun Δ M S => by
  obtain ⟨t, N, h1⟩ := h Δ M S
  cases k with
  | true =>
    obtain ⟨t2, N2, h2⟩ := h' rfl Δ (M ++ N) S
    exact ⟨t2, N ++ N2, by unfold mAnd; rw [h1]; simp only [if_true]; rw [h2]; simp⟩
  | false => exact ⟨true, N, by unfold mAnd; rw [h1]; simp⟩
theorem e_or {k l : Bool} (h : Ev a E (.bool k)) (h' : k = false → Ev b E (.bool l)) : Ev (mOr a b) E (.bool (k || l)) := fun Δ M S => by
  obtain ⟨t, N, h1⟩ := h Δ M S
  cases k with
  | false =>
    obtain ⟨t2, N2, h2⟩ := h' rfl Δ (M ++ N) S
    exact ⟨t2, N ++ N2, by unfold mOr; rw [h1]; simp only [Bool.false_eq_true, if_false]; rw [h2]; simp⟩
  | true => exact ⟨true, N, by unfold mOr; rw [h1]; simp⟩
/-! displays -/
theorem fzAll_dv : ∀ {ws : List W} {xs : List PD} {M : MS}, DV ws (xs.map AV.d) → ∃ t, fzAll ws M = some (t, xs, M)
  | _, [], M, h => by cases h; exact ⟨true, rfl⟩
  | _, x :: xs, M, h => by
    cases h with
    | cons h1 h2 =>
      obtain ⟨t, rfl⟩ := isV_d h1
      obtain ⟨s, h3⟩ := fzAll_dv (M := M) h2
      exact ⟨t && s, by simp [fzAll, fz1, h3]⟩
theorem e_tup {ms : List (Sm W)} {xs : List PD} {vs : List AV} (h : EvA ms E vs) (e : vs = xs.map AV.d) (hl : xs.length ≤ 1000) : Ev (mTup (mArgs ms)) E (.tuple xs) := fun Δ M S => by
  subst e
  obtain ⟨ws, N, h1, h2⟩ := h Δ M S
  obtain ⟨t, h3⟩ := fzAll_dv (M := M ++ N) h2
  exact ⟨t, N, by unfold mTup; rw [h1]; simp only [h3, if_pos hl]⟩
theorem l_lst {ms : List (Sm W)} {xs : List PD} {vs : List AV} (h : EvA ms E vs) (e : vs = xs.map AV.d) (hl : xs.length ≤ 1000) : EvL (mLst (mArgs ms)) E xs := fun Δ M S => by
  subst e
  obtain ⟨ws, N, h1, h2⟩ := h Δ M S
  obtain ⟨t, h3⟩ := fzAll_dv (M := M ++ N) h2
  exact ⟨t, N, by unfold mLst; rw [h1]; simp only [h3, if_pos hl]⟩
theorem e_old {xs : List PD} (h : EvL it E xs) : Ev (mOld it) E (.list xs) := fun Δ M S => by
  obtain ⟨t, N, h1⟩ := h Δ M S
  exact ⟨t, N, by unfold mOld; rw [h1]⟩
theorem l_itemsL {xs : List PD} (h : Ev a E (.list xs)) : EvL (mItems a) E xs := fun Δ M S => by
  obtain ⟨t, N, h1⟩ := h Δ M S
  exact ⟨t, N, by unfold mItems; rw [h1]; rfl⟩
theorem l_itemsT {xs : List PD} (h : Ev a E (.tuple xs)) : EvL (mItems a) E xs := fun Δ M S => by
  obtain ⟨t, N, h1⟩ := h Δ M S
  exact ⟨t, N, by unfold mItems; rw [h1]; rfl⟩
/-- ints from one to below the other -/
def rng (a b : Int) : List Int := (List.range (b - a).toNat).map fun (i : Nat) => a + (i : Int)
theorem rngD (a b : Int) : rangeD a (b - a).toNat = (rng a b).map PyData.int := by
  unfold rangeD rng
  rw [List.map_map]
  rfl
theorem l_range1 {n : Int} (h : Ev a E (.int n)) (hl : -(2 ^ 62) ≤ n ∧ n < 2 ^ 62) : EvL (mRange1 (mArgs [a])) E ((rng 0 n).map PyData.int) := fun Δ M S => by
  obtain ⟨t, N, h1⟩ := h Δ M S
  refine ⟨true, N, ?_⟩
  unfold mRange1 mArgs
  rw [h1]
  simp only [mArgs, if_pos hl]
  rw [← rngD]
  simp
theorem l_range2 {m n : Int} (h : Ev a E (.int m)) (h' : Ev b E (.int n)) (hl : -(2 ^ 62) ≤ m ∧ m < 2 ^ 62 ∧ -(2 ^ 62) ≤ n ∧ n < 2 ^ 62) : EvL (mRange2 (mArgs [a, b])) E ((rng m n).map PyData.int) := fun Δ M S => by
  obtain ⟨t, N, h1⟩ := h Δ M S
  obtain ⟨s, N2, h2⟩ := h' Δ (M ++ N) S
  refine ⟨true, N ++ N2, ?_⟩
  unfold mRange2 mArgs mArgs
  rw [h1]
  simp only []
  rw [h2]
  simp only [mArgs, if_pos hl]
  rw [← rngD]
  simp
/-! targets -/
def TgA (g : Tg) (x : PD) (E E' : AE) : Prop := ∀ t Δ, Sat E Δ → ∃ Δ', g t x Δ = some Δ' ∧ Sat E' Δ'
def TgsA (g : Tgs) (xs : List PD) (E E' : AE) : Prop := ∀ t Δ, Sat E Δ → ∃ Δ', g t xs Δ = some Δ' ∧ Sat E' Δ'
theorem g_nm : TgA (gNm i) x E (E.set i (some (.d x))) := fun t Δ S => ⟨_, rfl, sat_set S i rfl⟩
theorem g_tp {r : Tgs} {xs : List PD} (h : TgsA r xs E E') : TgA (gTp r) (.tuple xs) E E' := fun t Δ S => h t Δ S
theorem gs_nil : TgsA gsNil [] E E := fun t Δ S => ⟨Δ, rfl, S⟩
theorem gs_cons {g : Tg} {r : Tgs} {xs : List PD} {E1 : AE} (h : TgA g x E E1) (h' : TgsA r xs E1 E') : TgsA (gsCons g r) (x :: xs) E E' := fun t Δ S => by
  obtain ⟨Δ1, h1, S1⟩ := h t Δ S
  obtain ⟨Δ2, h2, S2⟩ := h' t Δ1 S1
  exact ⟨Δ2, by show (match g t x Δ with | some Δ1 => r t xs Δ1 | none => none) = _; rw [h1]; exact h2, S2⟩
/-! comprehensions -/
theorem lc_go {α β : Type} (enc : α → PD) (encb : β → PD) (l : List α) (c : α → Bool) (f : α → β) {tt : Sm Bool} {te : Sm W} (h : ∀ z, z ∈ l → ∃ E', TgA g (enc z) E E' ∧ EvT tt E' (c z) ∧ (c z = true → Ev te E' (encb (f z)))) (t : Bool) (Δ : Sl) (S : Sat E Δ) : ∀ M, ∃ s N, lcGo t g tt te Δ (l.map enc) M = some ((s, ((l.filter c).map f).map encb), M ++ N) := by
  induction l with
  | nil => exact fun M => ⟨true, [], by simp [lcGo]⟩
  | cons z l ih =>
    intro M
    obtain ⟨E', h1, h2, h3⟩ := h z List.mem_cons_self
    obtain ⟨Δ1, g1, S1⟩ := h1 t Δ S
    obtain ⟨N1, k1⟩ := h2 Δ1 M S1
    have ih := ih fun z hz => h z (List.mem_cons_of_mem _ hz)
    cases hc : c z with
    | true =>
      obtain ⟨s, N2, k2⟩ := h3 hc Δ1 (M ++ N1) S1
      obtain ⟨s2, N3, k3⟩ := ih (M ++ N1 ++ N2)
      rw [hc] at k1
      refine ⟨s && s2, N1 ++ N2 ++ N3, ?_⟩
      simp [lcGo, g1, k1, fz1, hc]
      rw [List.append_assoc] at k3
      rw [k2]
      simp [fz1]
      rw [k3]
      simp
    | false =>
      obtain ⟨s2, N3, k3⟩ := ih (M ++ N1)
      rw [hc] at k1
      refine ⟨s2, N1 ++ N3, ?_⟩
      simp [lcGo, g1, k1, hc]
      rw [k3]
      simp
theorem l_lcf {α β : Type} (enc : α → PD) (encb : β → PD) {l : List α} (c : α → Bool) (f : α → β) {tt : Sm Bool} {te : Sm W} {vs : List Nat} (hi : EvL it E (l.map enc)) (hl : l.length ≤ 100000) (h : ∀ z, z ∈ l → ∃ E', TgA g (enc z) (wipeA E vs) E' ∧ EvT tt E' (c z) ∧ (c z = true → Ev te E' (encb (f z)))) : EvL (mLc it g tt te vs) E (((l.filter c).map f).map encb) := fun Δ M S => by
  obtain ⟨t, N, h1⟩ := hi Δ M S
  obtain ⟨s, N2, h2⟩ := lc_go enc encb l c f h t (wipeD Δ vs) (sat_wipe S vs) (M ++ N)
  refine ⟨s, N ++ N2, ?_⟩
  unfold mLc
  rw [h1]
  simp only []
  rw [if_pos (by simpa using hl), h2, List.append_assoc]
theorem l_lcm {α β : Type} (enc : α → PD) (encb : β → PD) {l : List α} (f : α → β) {te : Sm W} {vs : List Nat} (hi : EvL it E (l.map enc)) (hl : l.length ≤ 100000) (h : ∀ z, z ∈ l → ∃ E', TgA g (enc z) (wipeA E vs) E' ∧ Ev te E' (encb (f z))) : EvL (mLc it g tTrue te vs) E ((l.map f).map encb) := by
  have := l_lcf (tt := tTrue) enc encb (fun _ => true) f hi hl (fun z hz => by
    obtain ⟨E', h1, h2⟩ := h z hz
    exact ⟨E', h1, t_true, fun _ => h2⟩)
  rwa [List.filter_eq_self.mpr (fun _ _ => rfl)] at this
/-! statements -/
inductive Oc where
  | nx (E : AE) | rt (x : PD) | bk (E : AE) | ct (E : AE)
def Mt : Fl → Sl → Oc → Prop
  | .nx, Δ, .nx E => Sat E Δ
  | .bk, Δ, .bk E => Sat E Δ
  | .ct, Δ, .ct E => Sat E Δ
  | .rt w, _, .rt x => isV w (.d x)
  | _, _, _ => False
def EvS (s : Ss) (E : AE) (o : Oc) : Prop := ∀ Δ M, Sat E Δ → ∃ f Δ' N, s Δ M = some (f, Δ', M ++ N) ∧ Mt f Δ' o
variable {s t r : Ss} {o : Oc}
theorem s_next (w : WkE E E') : EvS sNext E (.nx E') := fun Δ M S => ⟨.nx, Δ, [], by simp [sNext], sat_wk w S⟩
theorem s_nextI : EvS sNext E (.nx E) := fun Δ M S => ⟨.nx, Δ, [], by simp [sNext], S⟩
theorem s_break (w : WkE E E') : EvS sBreak E (.bk E') := fun Δ M S => ⟨.bk, Δ, [], by simp [sBreak], sat_wk w S⟩
theorem s_seq {E1 : AE} (h : EvS s E (.nx E1)) (h' : EvS t E1 o) : EvS (sSeq s t) E o := fun Δ M S => by
  obtain ⟨f, Δ1, N, h1, m1⟩ := h Δ M S
  cases f with
  | nx =>
    obtain ⟨f2, Δ2, N2, h2, m2⟩ := h' Δ1 (M ++ N) m1
    exact ⟨f2, Δ2, N ++ N2, by unfold sSeq; rw [h1]; simp only []; rw [h2, List.append_assoc], m2⟩
  | rt w => cases m1
  | bk => cases m1
  | ct => cases m1
theorem s_seqR {x : PD} (h : EvS s E (.rt x)) : EvS (sSeq s t) E (.rt x) := fun Δ M S => by
  obtain ⟨f, Δ1, N, h1, m1⟩ := h Δ M S
  cases f with
  | rt w => exact ⟨.rt w, Δ1, N, by unfold sSeq; rw [h1], m1⟩
  | nx => cases m1
  | bk => cases m1
  | ct => cases m1
theorem s_seqB {E1 : AE} (h : EvS s E (.bk E1)) : EvS (sSeq s t) E (.bk E1) := fun Δ M S => by
  obtain ⟨f, Δ1, N, h1, m1⟩ := h Δ M S
  cases f with
  | bk => exact ⟨.bk, Δ1, N, by unfold sSeq; rw [h1], m1⟩
  | nx => cases m1
  | rt w => cases m1
  | ct => cases m1
theorem s_assoc (h : EvS (sSeq s (sSeq t r)) E o) : EvS (sSeq (sSeq s t) r) E o := fun Δ M S => by
  obtain ⟨f, Δ1, N, h1, m1⟩ := h Δ M S
  refine ⟨f, Δ1, N, ?_, m1⟩
  rw [← h1]
  unfold sSeq
  cases s Δ M with
  | none => rfl
  | some u => obtain ⟨f, Δ2, M2⟩ := u; cases f <;> rfl
theorem s_ret (h : Ev a E x) : EvS (sSeq (sRet a) t) E (.rt x) := s_seqR fun Δ M S => by
  obtain ⟨u, N, h1⟩ := h Δ M S
  exact ⟨.rt (.d u x), Δ, N, by unfold sRet; rw [h1]; rfl, rfl⟩
theorem s_drop (h : Ev a E x) (h' : EvS t E o) : EvS (sSeq (sDrop a) t) E o := s_seq (E1 := E) (fun Δ M S => by
  obtain ⟨u, N, h1⟩ := h Δ M S
  exact ⟨.nx, Δ, N, by unfold sDrop; rw [h1], S⟩) h'
theorem s_set (h : Ev a E x) (h' : EvS t (E.set i (some (.d x))) o) : EvS (sSeq (sSet i a) t) E o := s_seq (fun Δ M S => by
  obtain ⟨u, N, h1⟩ := h Δ M S
  exact ⟨.nx, _, N, by unfold sSet; rw [h1], sat_set S i (show isV (.d u x) (.d x) from rfl)⟩) h'
theorem s_par (h : Ev a E x) (h' : Ev b E y) (h2 : EvS t ((E.set i (some (.d x))).set j (some (.d y))) o) : EvS (sSeq (sPar i j (mArgs [a, b])) t) E o := s_seq (fun Δ M S => by
  obtain ⟨ws, N, h1, hd⟩ := a_cons h (a_cons h' a_nil) Δ M S
  cases hd with
  | cons d1 hd =>
    cases hd with
    | cons d2 hd =>
      cases hd
      exact ⟨.nx, _, N, by unfold sPar; rw [h1], sat_set (sat_set S i d1) j d2⟩) h2
theorem s_par3 (h : Ev a E x) (h' : Ev b E y) (h'' : Ev c E z) (h2 : EvS t (((E.set i (some (.d x))).set j (some (.d y))).set k (some (.d z))) o) : EvS (sSeq (sPar3 i j k (mArgs [a, b, c])) t) E o := s_seq (fun Δ M S => by
  obtain ⟨ws, N, h1, hd⟩ := a_cons h (a_cons h' (a_cons h'' a_nil)) Δ M S
  cases hd with
  | cons d1 hd =>
    cases hd with
    | cons d2 hd =>
      cases hd with
      | cons d3 hd =>
        cases hd
        exact ⟨.nx, _, N, by unfold sPar3; rw [h1], sat_set (sat_set (sat_set S i d1) j d2) k d3⟩) h2
theorem s_asg {g : Tg} (h : Ev a E x) (hg : TgA g x E E') (h' : EvS t E' o) : EvS (sSeq (sAsg g a) t) E o := s_seq (fun Δ M S => by
  obtain ⟨u, N, h1⟩ := h Δ M S
  obtain ⟨Δ1, h2, S1⟩ := hg u Δ S
  exact ⟨.nx, Δ1, N, by unfold sAsg; rw [h1]; simp only [fz1, h2], S1⟩) h'
theorem s_if {α : Type} (F : α → Oc) {u v : α} {k : Bool} (hc : EvT p E k) (ha : k = true → EvS (sSeq s r) E (F u)) (hb : k = false → EvS (sSeq t r) E (F v)) : EvS (sSeq (sIf p s t) r) E (F (if k = true then u else v)) := fun Δ M S => by
  obtain ⟨N, h1⟩ := hc Δ M S
  cases k with
  | true =>
    obtain ⟨f, Δ2, N2, h2, m2⟩ := ha rfl Δ (M ++ N) S
    refine ⟨f, Δ2, N ++ N2, ?_, m2⟩
    rw [← List.append_assoc, ← h2]
    unfold sSeq sIf
    rw [h1]
    rfl
  | false =>
    obtain ⟨f, Δ2, N2, h2, m2⟩ := hb rfl Δ (M ++ N) S
    refine ⟨f, Δ2, N ++ N2, ?_, m2⟩
    rw [← List.append_assoc, ← h2]
    unfold sSeq sIf
    rw [h1]
    rfl
theorem s_ifT (hc : EvT p E true) (ha : EvS (sSeq s r) E o) : EvS (sSeq (sIf p s t) r) E o := s_if (fun _ : Unit => o) (u := ()) (v := ()) hc (fun _ => ha) (fun h => by cases h)
theorem s_ifF (hc : EvT p E false) (ha : EvS (sSeq t r) E o) : EvS (sSeq (sIf p s t) r) E o := s_if (fun _ : Unit => o) (u := ()) (v := ()) hc (fun h => by cases h) (fun _ => ha)
theorem s_skip (h : EvS r E o) : EvS (sSeq sNext r) E o := s_seq s_nextI h
/-- a loop to its end -/
theorem s_for {α σ : Type} (enc : α → PD) (l : List α) (Es : σ → AE) (step : σ → α → σ) (s0 : σ) (hi : EvL it E (l.map enc)) (hw : WkE E (Es s0))
    (h : ∀ done z rest, l = done ++ z :: rest → ∀ u, u = done.foldl step s0 → ∃ E', TgA g (enc z) (Es u) E' ∧ EvS s E' (.nx (Es (step u z))))
    (h' : EvS r (Es (l.foldl step s0)) o) : EvS (sSeq (sFor it g s) r) E o := s_seq (fun Δ M S => by
  obtain ⟨t, N, h1⟩ := hi Δ M S
  suffices hs : ∀ rest done, l = done ++ rest → ∀ Δ M, Sat (Es (done.foldl step s0)) Δ → ∃ Δ' N, forGo t g s (rest.map enc) Δ M = some (.nx, Δ', M ++ N) ∧ Sat (Es (l.foldl step s0)) Δ' by
    obtain ⟨Δ', N2, h2, S2⟩ := hs l [] rfl Δ (M ++ N) (sat_wk hw S)
    exact ⟨.nx, Δ', N ++ N2, by unfold sFor; rw [h1]; simp only []; rw [h2, List.append_assoc], S2⟩
  intro rest
  induction rest with
  | nil =>
    intro done e Δ M S
    refine ⟨Δ, [], by simp [forGo], ?_⟩
    rw [e, List.append_nil]
    exact S
  | cons z rest ih =>
    intro done e Δ M S
    obtain ⟨E', h2, h3⟩ := h done z rest e _ rfl
    obtain ⟨Δ1, g1, S1⟩ := h2 t Δ S
    obtain ⟨f, Δ2, N2, k1, m1⟩ := h3 Δ1 M S1
    cases f with
    | nx =>
      obtain ⟨Δ3, N3, k3, S3⟩ := ih (done ++ [z]) (by simp [e]) Δ2 (M ++ N2) (by rw [List.foldl_append]; exact m1)
      refine ⟨Δ3, N2 ++ N3, ?_, S3⟩
      simp [forGo, g1, k1]
      rw [k3]
      simp
    | rt w => cases m1
    | bk => cases m1
    | ct => cases m1) h'
/-- a loop that may return -/
def foldR {α σ β : Type} (step : σ → α → σ ⊕ β) : List α → σ → σ ⊕ β
  | [], u => .inl u
  | z :: l, u => match step u z with
    | .inl v => foldR step l v
    | .inr b => .inr b
theorem foldR_app {α σ β : Type} (step : σ → α → σ ⊕ β) (l m : List α) (u : σ) : foldR step (l ++ m) u = (match foldR step l u with
    | .inl v => foldR step m v
    | .inr b => .inr b) := by
  induction l generalizing u with
  | nil => rfl
  | cons z l ih =>
    show (match step u z with | .inl v => foldR step (l ++ m) v | .inr b => .inr b) = _
    show _ = (match (match step u z with | .inl v => foldR step l v | .inr b => .inr b) with | .inl v => foldR step m v | .inr b => .inr b)
    cases step u z with
    | inl v => exact ih v
    | inr b => rfl
def ocR {σ β : Type} (Es : σ → AE) (encr : β → PD) : σ ⊕ β → Oc
  | .inl u => .nx (Es u)
  | .inr b => .rt (encr b)
def endR {σ β : Type} (k : σ → β) : σ ⊕ β → β
  | .inl u => k u
  | .inr b => b
theorem s_forR {α σ β : Type} (enc : α → PD) (encr : β → PD) (l : List α) (Es : σ → AE) (step : σ → α → σ ⊕ β) (s0 : σ) (k : σ → β) (hi : EvL it E (l.map enc)) (hw : WkE E (Es s0))
    (h : ∀ done z rest, l = done ++ z :: rest → ∀ u, foldR step done s0 = .inl u → ∃ E', TgA g (enc z) (Es u) E' ∧ EvS s E' (ocR Es encr (step u z)))
    (h' : ∀ u, foldR step l s0 = .inl u → EvS r (Es u) (.rt (encr (k u)))) : EvS (sSeq (sFor it g s) r) E (.rt (encr (endR k (foldR step l s0)))) := fun Δ M S => by
  obtain ⟨t, N, h1⟩ := hi Δ M S
  suffices hs : ∀ rest done, l = done ++ rest → ∀ Δ M u, foldR step done s0 = .inl u → Sat (Es u) Δ → ∃ f Δ' N, forGo t g s (rest.map enc) Δ M = some (f, Δ', M ++ N) ∧ Mt f Δ' (ocR Es encr (foldR step l s0)) by
    obtain ⟨f, Δ', N2, h2, m2⟩ := hs l [] rfl Δ (M ++ N) s0 rfl (sat_wk hw S)
    have hf : sFor it g s Δ M = some (f, Δ', M ++ (N ++ N2)) := by unfold sFor; rw [h1]; simp only []; rw [h2, List.append_assoc]
    cases hr : foldR step l s0 with
    | inl u =>
      rw [hr] at m2
      cases f with
      | nx =>
        obtain ⟨f3, Δ3, N3, h3, m3⟩ := h' u hr Δ' (M ++ (N ++ N2)) m2
        refine ⟨f3, Δ3, N ++ N2 ++ N3, ?_, m3⟩
        unfold sSeq
        rw [hf]
        simp only []
        rw [h3]
        simp
      | rt w => cases m2
      | bk => cases m2
      | ct => cases m2
    | inr b =>
      rw [hr] at m2
      cases f with
      | rt w => exact ⟨.rt w, Δ', N ++ N2, by unfold sSeq; rw [hf], m2⟩
      | nx => cases m2
      | bk => cases m2
      | ct => cases m2
  intro rest
  induction rest with
  | nil =>
    intro done e Δ M u hu S
    refine ⟨.nx, Δ, [], by simp [forGo], ?_⟩
    rw [e, List.append_nil, hu]
    exact S
  | cons z rest ih =>
    intro done e Δ M u hu S
    obtain ⟨E', h2, h3⟩ := h done z rest e u hu
    obtain ⟨Δ1, g1, S1⟩ := h2 t Δ S
    obtain ⟨f, Δ2, N2, k1, m1⟩ := h3 Δ1 M S1
    have e2 : foldR step (done ++ [z]) s0 = step u z := by
      rw [foldR_app, hu]
      show (match step u z with | .inl v => (Sum.inl v : σ ⊕ β) | .inr b => .inr b) = _
      cases step u z <;> rfl
    cases hz : step u z with
    | inl v =>
      rw [hz] at m1 e2
      cases f with
      | nx =>
        obtain ⟨f3, Δ3, N3, k3, m3⟩ := ih (done ++ [z]) (by simp [e]) Δ2 (M ++ N2) v e2 m1
        refine ⟨f3, Δ3, N2 ++ N3, ?_, m3⟩
        simp [forGo, g1, k1]
        rw [k3]
        simp
      | rt w => cases m1
      | bk => cases m1
      | ct => cases m1
    | inr b =>
      rw [hz] at m1 e2
      have e3 : foldR step l s0 = .inr b := by
        rw [e, show done ++ z :: rest = (done ++ [z]) ++ rest by simp, foldR_app, e2]
      rw [e3]
      cases f with
      | rt w => exact ⟨.rt w, Δ2, N2, by simp [forGo, g1, k1], m1⟩
      | nx => cases m1
      | bk => cases m1
      | ct => cases m1
/-- a def's promise from its body's -/
theorem fn_c {vs : List AV} (h : EvS s (vs.map some ++ List.replicate (n - vs.length) none) (.rt x)) : FnC (semF n s) vs x := fun ws M hd => by
  have S : Sat (vs.map some ++ List.replicate (n - vs.length) none) (ws.map some ++ List.replicate (n - ws.length) none) := by
    refine ⟨by simp [hd.length], fun i v hv => ?_⟩
    by_cases hi : i < vs.length
    · rw [List.getElem?_append_left (by simpa using hi), List.getElem?_map] at hv
      cases hu : vs[i]? with
      | none => rw [hu] at hv; cases hv
      | some u =>
        rw [hu] at hv
        cases hv
        obtain ⟨w, h1, h2⟩ := hd.get hu
        refine ⟨w, ?_, h2⟩
        rw [List.getElem?_append_left (by rw [List.length_map, hd.length]; exact hi), List.getElem?_map, h1]
        rfl
    · rw [List.getElem?_append_right (by simpa using Nat.le_of_not_lt hi), List.getElem?_replicate] at hv
      split at hv <;> cases hv
  obtain ⟨f, Δ', N, h1, m1⟩ := h _ M S
  cases f with
  | rt w =>
    obtain ⟨t, rfl⟩ := isV_d m1
    exact ⟨t, N, by unfold semF; rw [h1]⟩
  | nx => cases m1
  | bk => cases m1
  | ct => cases m1
theorem fn_c0 {vs : List AV} (h : EvS s (vs.map some ++ List.replicate (n - vs.length) none) (.nx E)) : FnC (semF n s) vs .none := fun ws M hd => by
  have S : Sat (vs.map some ++ List.replicate (n - vs.length) none) (ws.map some ++ List.replicate (n - ws.length) none) := by
    refine ⟨by simp [hd.length], fun i v hv => ?_⟩
    by_cases hi : i < vs.length
    · rw [List.getElem?_append_left (by simpa using hi), List.getElem?_map] at hv
      cases hu : vs[i]? with
      | none => rw [hu] at hv; cases hv
      | some u =>
        rw [hu] at hv
        cases hv
        obtain ⟨w, h1, h2⟩ := hd.get hu
        refine ⟨w, ?_, h2⟩
        rw [List.getElem?_append_left (by rw [List.length_map, hd.length]; exact hi), List.getElem?_map, h1]
        rfl
    · rw [List.getElem?_append_right (by simpa using Nat.le_of_not_lt hi), List.getElem?_replicate] at hv
      split at hv <;> cases hv
  obtain ⟨f, Δ', N, h1, m1⟩ := h _ M S
  cases f with
  | nx => exact ⟨true, N, by unfold semF; rw [h1]⟩
  | rt w => cases m1
  | bk => cases m1
  | ct => cases m1
end
end Ek

/-! EkZ: typed readings of operations -/
namespace Ek
open PySem PySem.Spec PyProof.Rows L2
def eL {α : Type} (enc : α → PD) (l : List α) : PD := .list (l.map enc)
def eT {α : Type} (enc : α → PD) (l : List α) : PD := .tuple (l.map enc)
def eP {α β : Type} (ea : α → PD) (eb : β → PD) (p : α × β) : PD := .tuple [ea p.1, eb p.2]
def eP3 {α β γ : Type} (ea : α → PD) (eb : β → PD) (ec : γ → PD) (p : α × β × γ) : PD := .tuple [ea p.1, eb p.2.1, ec p.2.2]
def eI (i : Int) : PD := .int i
def eB (b : Bool) : PD := .bool b
/-- what == tells of encoded things; n: how deep they are at most -/
structure EqOk {α : Type} [DecidableEq α] (n : Nat) (enc : α → PD) : Prop where
  lay : ∀ a, PyData.canLay0 (enc a) = true
  dep : ∀ a, PyData.depth (enc a) ≤ n
  eq : ∀ a b, PyData.eqv (enc a) (enc b) = decide (a = b)
theorem EqOk.sh {α : Type} [DecidableEq α] {n : Nat} {enc : α → PD} (h : EqOk n enc) (l : n ≤ 64) (a : α) : SeqAt.shaped (enc a) = true := by
  unfold SeqAt.shaped
  rw [h.lay a]
  simpa using Nat.le_trans (h.dep a) l
theorem eq_fr : EqOk 1 fr := ⟨fun a => rfl, fun a => by simp [fr, PyData.depth, PyData.depthAll], fr_eqv⟩
theorem layAll {α : Type} {enc : α → PD} (h : ∀ a, PyData.canLay0 (enc a) = true) : ∀ l : List α, PyData.canLayAll0 (l.map enc) = true
  | [] => rfl
  | a :: l => by simp [PyData.canLayAll0, h a, layAll h l]
theorem depAll {α : Type} {enc : α → PD} {n : Nat} (h : ∀ a, PyData.depth (enc a) ≤ n) : ∀ l : List α, PyData.depthAll (l.map enc) ≤ n
  | [] => Nat.zero_le _
  | a :: l => by
    have := h a
    have := depAll h l
    simp [PyData.depthAll]
    omega
theorem eqAll {α : Type} [DecidableEq α] {enc : α → PD} (h : ∀ a b, PyData.eqv (enc a) (enc b) = decide (a = b)) : ∀ l m : List α, PyData.eqvAll (l.map enc) (m.map enc) = decide (l = m)
  | [], [] => by simp [PyData.eqvAll]
  | [], b :: m => by simp [PyData.eqvAll]
  | a :: l, [] => by simp [PyData.eqvAll]
  | a :: l, b :: m => by
    simp only [List.map_cons, PyData.eqvAll, h a b, eqAll h l m]
    by_cases h1 : a = b <;> by_cases h2 : l = m <;> simp [h1, h2]
theorem eq_L {α : Type} [DecidableEq α] {n : Nat} {enc : α → PD} (h : EqOk n enc) : EqOk (n + 1) (eL enc) :=
  ⟨fun l => by simp [eL, PyData.canLay0, layAll h.lay], fun l => by simpa [eL, PyData.depth] using depAll h.dep l, fun l m => by simpa [eL, PyData.eqv] using eqAll h.eq l m⟩
theorem eq_T {α : Type} [DecidableEq α] {n : Nat} {enc : α → PD} (h : EqOk n enc) : EqOk (n + 1) (eT enc) :=
  ⟨fun l => by simp [eT, PyData.canLay0, layAll h.lay], fun l => by simpa [eT, PyData.depth] using depAll h.dep l, fun l m => by simpa [eT, PyData.eqv] using eqAll h.eq l m⟩
theorem eq_P {α β : Type} [DecidableEq α] [DecidableEq β] {ea : α → PD} {eb : β → PD} {n m : Nat} (ha : EqOk n ea) (hb : EqOk m eb) : EqOk (max n m + 1) (eP ea eb) := by
  refine ⟨fun p => ?_, fun p => ?_, fun p q => ?_⟩
  · simp [eP, PyData.canLay0, PyData.canLayAll0, ha.lay, hb.lay]
  · have := ha.dep p.1
    have := hb.dep p.2
    simp [eP, PyData.depth, PyData.depthAll]
    omega
  · have e : PyData.eqv (eP ea eb p) (eP ea eb q) = (PyData.eqv (ea p.1) (ea q.1) && (PyData.eqv (eb p.2) (eb q.2) && true)) := by
      unfold eP
      rfl
    rw [e, ha.eq, hb.eq]
    obtain ⟨p1, p2⟩ := p
    obtain ⟨q1, q2⟩ := q
    by_cases h1 : p1 = q1 <;> by_cases h2 : p2 = q2 <;> simp [h1, h2]
theorem eq_I : EqOk 0 eI := ⟨fun a => rfl, fun a => Nat.le_refl 0, fun a b => rfl⟩
theorem eq_B : EqOk 0 eB := ⟨fun a => rfl, fun a => Nat.le_refl 0, fun a b => by cases a <;> cases b <;> rfl⟩
section
variable {E E' : AE} {a b c : Sm W} {x y z : PD} {i j : Int} {α β γ : Type} {ea : α → PD} {eb : β → PD}
theorem i_add (ha : Ev a E (eI i)) (hb : Ev b E (eI j)) : Ev (mBin gAdd a b) E (eI (i + j)) := e_bin ha hb fun t s M => ⟨_, rfl⟩
theorem i_sub (ha : Ev a E (eI i)) (hb : Ev b E (eI j)) : Ev (mBin gSub a b) E (eI (i - j)) := e_bin ha hb fun t s M => ⟨_, rfl⟩
theorem i_mul (ha : Ev a E (eI i)) (hb : Ev b E (eI j)) (h : CMulE i j) : Ev (mBin gMul a b) E (eI (i * j)) := e_bin ha hb fun t s M => ⟨_, gMul_i h⟩
theorem i_fdiv (ha : Ev a E (eI i)) (hb : Ev b E (eI j)) (h : CDivW i j) : Ev (mBin gFdiv a b) E (eI (i / j)) := e_bin ha hb fun t s M => ⟨_, gFdiv_i h⟩
theorem i_mod (ha : Ev a E (eI i)) (hb : Ev b E (eI j)) (h : 0 < j) : Ev (mBin gMod a b) E (eI (i % j)) := e_bin ha hb fun t s M => ⟨_, gMod_i h⟩
theorem i_neg (ha : Ev a E (eI i)) : Ev (mUn gNeg a) E (eI (-i)) := e_un ha fun t M => ⟨_, gNeg_i⟩
theorem i_lt (ha : Ev a E (eI i)) (hb : Ev b E (eI j)) : Ev (mBin gLt a b) E (eB (decide (i < j))) := e_bin ha hb fun t s M => ⟨_, gLt_i⟩
theorem i_le (ha : Ev a E (eI i)) (hb : Ev b E (eI j)) : Ev (mBin gLe a b) E (eB (decide (i ≤ j))) := e_bin ha hb fun t s M => ⟨_, gLe_i⟩
theorem i_gt (ha : Ev a E (eI i)) (hb : Ev b E (eI j)) : Ev (mBin gGt a b) E (eB (decide (j < i))) := e_bin ha hb fun t s M => ⟨_, gGt_i⟩
theorem i_ge (ha : Ev a E (eI i)) (hb : Ev b E (eI j)) : Ev (mBin gGe a b) E (eB (decide (j ≤ i))) := e_bin ha hb fun t s M => ⟨_, gGe_i⟩
theorem y_eq [DecidableEq α] {u v : α} {n : Nat} (H : EqOk n ea) (ha : Ev a E (ea u)) (hb : Ev b E (ea v)) (hn : n ≤ 64 := by decide) : Ev (mBin gEq a b) E (eB (decide (u = v))) := e_bin ha hb fun t s M => ⟨_, by rw [gEq_d (H.sh hn u) (H.sh hn v), H.eq]; rfl⟩
theorem y_ne [DecidableEq α] {u v : α} {n : Nat} (H : EqOk n ea) (ha : Ev a E (ea u)) (hb : Ev b E (ea v)) (hn : n ≤ 64 := by decide) : Ev (mBin gNe a b) E (eB (!decide (u = v))) := e_bin ha hb fun t s M => ⟨_, by rw [gNe_d (H.sh hn u) (H.sh hn v), H.eq]; rfl⟩
theorem y_not {k : Bool} (ha : Ev a E (eB k)) : Ev (mUn gNot a) E (eB (!k)) := e_un ha fun t M => ⟨_, rfl⟩
theorem t_b {k : Bool} (ha : Ev a E (eB k)) : EvT (tB1 a) E k := t_B1 ha
theorem y_and {k l : Bool} (h : Ev a E (eB k)) (h' : k = true → Ev b E (eB l)) : Ev (mAnd a b) E (eB (k && l)) := e_and h h'
theorem y_or {k l : Bool} (h : Ev a E (eB k)) (h' : k = false → Ev b E (eB l)) : Ev (mOr a b) E (eB (k || l)) := e_or h h'
/-! pairs -/
theorem p_0 {p : α × β} (ha : Ev a E (eP ea eb p)) : Ev (mBin gIx a (mD true (.int 0))) E (ea p.1) := e_bin ha e_D fun t s M => ⟨_, gIx_0⟩
theorem p_1 {p : α × β} (ha : Ev a E (eP ea eb p)) : Ev (mBin gIx a (mD true (.int 1))) E (eb p.2) := e_bin ha e_D fun t s M => ⟨_, gIx_1⟩
theorem f_0 {q : Rat} (ha : Ev a E (fr q)) : Ev (mBin gIx a (mD true (.int 0))) E (eI q.num) := e_bin ha e_D fun t s M => ⟨_, gIx_0⟩
theorem f_1 {q : Rat} (ha : Ev a E (fr q)) : Ev (mBin gIx a (mD true (.int 1))) E (eI q.den) := e_bin ha e_D fun t s M => ⟨_, gIx_1⟩
theorem p_mk {u : α} {v : β} (ha : Ev a E (ea u)) (hb : Ev b E (eb v)) : Ev (mTup (mArgs [a, b])) E (eP ea eb (u, v)) := e_tup (xs := [ea u, eb v]) (a_cons ha (a_cons hb a_nil)) rfl (by simp)
theorem p_mk3 {ec : γ → PD} {u : α} {v : β} {w : γ} (ha : Ev a E (ea u)) (hb : Ev b E (eb v)) (hc : Ev c E (ec w)) : Ev (mTup (mArgs [a, b, c])) E (eP3 ea eb ec (u, v, w)) := e_tup (xs := [ea u, eb v, ec w]) (a_cons ha (a_cons hb (a_cons hc a_nil))) rfl (by simp)
theorem g_p {i j : Nat} {p : α × β} : TgA (gTp (gsCons (gNm i) (gsCons (gNm j) gsNil))) (eP ea eb p) E ((E.set i (some (.d (ea p.1)))).set j (some (.d (eb p.2)))) := g_tp (gs_cons g_nm (gs_cons g_nm gs_nil))
theorem g_p3 {i j k : Nat} {ec : γ → PD} {p : α × β × γ} : TgA (gTp (gsCons (gNm i) (gsCons (gNm j) (gsCons (gNm k) gsNil)))) (eP3 ea eb ec p) E (((E.set i (some (.d (ea p.1)))).set j (some (.d (eb p.2.1)))).set k (some (.d (ec p.2.2)))) := g_tp (gs_cons g_nm (gs_cons g_nm (gs_cons g_nm gs_nil)))
/-! lists, tuples -/
/-- the thing at an index, as Python counts -/
def ix {α : Type} [Inhabited α] (l : List α) (i : Int) : α := (atI l i).getD default
/-- the index is one -/
def IxOk (n : Nat) (i : Int) : Prop := -(n : Int) ≤ i ∧ i < n
theorem atI_map {α β : Type} (f : α → β) (l : List α) (i : Int) : atI (l.map f) i = (atI l i).map f := by
  unfold atI
  rw [List.length_map]
  cases ixN l.length i with
  | none => rfl
  | some j => simp
theorem ix_some {α : Type} [Inhabited α] {l : List α} {i : Int} (h : IxOk l.length i) : atI l i = some (ix l i) := by
  obtain ⟨h1, h2⟩ := h
  have : ∃ j, ixN l.length i = some j ∧ j < l.length := by
    unfold ixN
    by_cases h0 : 0 ≤ i
    · rw [if_pos h0, if_pos h2]
      exact ⟨_, rfl, by omega⟩
    · rw [if_neg h0, if_pos h1]
      exact ⟨_, rfl, by omega⟩
  obtain ⟨j, e, hj⟩ := this
  unfold ix atI
  rw [e]
  simp [hj]
theorem ix_nat {α : Type} [Inhabited α] {l : List α} {n : Nat} (h : n < l.length) : ix l (n : Int) = l[n] := by
  unfold ix
  rw [atI_nat (j := n) (v := l[n]) (by simp [h])]
  rfl
theorem ix_zero {α : Type} [Inhabited α] (z : α) (l : List α) : ix (z :: l) 0 = z := ix_nat (l := z :: l) (n := 0) (by simp)
theorem ix_last {α : Type} [Inhabited α] (z : α) (l : List α) : ix (l ++ [z]) (-1) = z := by
  have e : ixN (l ++ [z]).length (-1) = some l.length := by
    unfold ixN
    rw [if_neg (by decide), if_pos (by simp; omega)]
    congr 1
    simp
    omega
  unfold ix atI
  rw [e]
  simp
theorem x_L [Inhabited α] {l : List α} (ha : Ev a E (eL ea l)) (hb : Ev b E (eI i)) (h : IxOk l.length i) : Ev (mBin gIx a b) E (ea (ix l i)) := e_bin ha hb fun t s M => ⟨nf t (ea (ix l i)), by
  show (match atI (l.map ea) i with | some y => some (W.d (nf t y) y, M) | none => none) = _
  rw [atI_map, ix_some h]
  rfl⟩
theorem x_T [Inhabited α] {l : List α} (ha : Ev a E (eT ea l)) (hb : Ev b E (eI i)) (h : IxOk l.length i) : Ev (mBin gIx a b) E (ea (ix l i)) := e_bin ha hb fun t s M => ⟨nf t (ea (ix l i)), by
  show (match atI (l.map ea) i with | some y => some (W.d (nf t y) y, M) | none => none) = _
  rw [atI_map, ix_some h]
  rfl⟩
theorem catL {l m : List α} (ha : Ev a E (eL ea l)) (hb : Ev b E (eL ea m)) (h : l.length + m.length ≤ 10000) : Ev (mBin gAdd a b) E (eL ea (l ++ m)) := e_bin ha hb fun t s M => ⟨t && s, by
  show (if (l.map ea).length + (m.map ea).length ≤ 10000 then some (W.d (t && s) (PyData.list (l.map ea ++ m.map ea)), M) else none) = _
  rw [if_pos (by simpa using h), ← List.map_append]
  rfl⟩
theorem itL {l : List α} (h : Ev a E (eL ea l)) : EvL (mItems a) E (l.map ea) := l_itemsL h
theorem itT {l : List α} (h : Ev a E (eT ea l)) : EvL (mItems a) E (l.map ea) := l_itemsT h
theorem oldL {it : Sm (Bool × List PD)} {l : List α} (h : EvL it E (l.map ea)) : Ev (mOld it) E (eL ea l) := e_old h
theorem lenL {l : List α} (h : Ev a E (eL ea l)) : Ev (mFn bLen (mArgs [a])) E (eI l.length) := e_fn (vs := [.d (eL ea l)]) (fun ws M hd => by
  cases hd with
  | cons h1 h2 =>
    cases h2
    obtain ⟨t, rfl⟩ := isV_d h1
    exact ⟨true, [], by unfold eL; rw [bLen_l]; simp [eI]⟩) (a_cons h a_nil)
theorem lenT {l : List α} (h : Ev a E (eT ea l)) : Ev (mFn bLen (mArgs [a])) E (eI l.length) := e_fn (vs := [.d (eT ea l)]) (fun ws M hd => by
  cases hd with
  | cons h1 h2 =>
    cases h2
    obtain ⟨t, rfl⟩ := isV_d h1
    exact ⟨true, [], by unfold eT; rw [bLen_t]; simp [eI]⟩) (a_cons h a_nil)
theorem e_fn1 {f : Fd} (h : Ev a E x) (hf : ∀ t M, ∃ s, f [.d t x] M = some (.d s y, M)) : Ev (mFn f (mArgs [a])) E y := e_fn (vs := [.d x]) (fun ws M hd => by
  cases hd with
  | cons h1 h2 =>
    cases h2
    obtain ⟨t, rfl⟩ := isV_d h1
    obtain ⟨s, h3⟩ := hf t M
    exact ⟨s, [], by simpa using h3⟩) (a_cons h a_nil)
theorem e_fn2 {f : Fd} (h : Ev a E x) (h' : Ev b E y) (hf : ∀ t r M, ∃ s, f [.d t x, .d r y] M = some (.d s z, M)) : Ev (mFn f (mArgs [a, b])) E z := e_fn (vs := [.d x, .d y]) (fun ws M hd => by
  cases hd with
  | cons h1 h2 =>
    cases h2 with
    | cons h2 h3 =>
      cases h3
      obtain ⟨t, rfl⟩ := isV_d h1
      obtain ⟨r, rfl⟩ := isV_d h2
      obtain ⟨s, h3⟩ := hf t r M
      exact ⟨s, [], by simpa using h3⟩) (a_cons h (a_cons h' a_nil))
theorem tupL {l : List α} (h : Ev a E (eL ea l)) : Ev (mFn bTuple (mArgs [a])) E (eT ea l) := e_fn1 h fun t M => ⟨t, rfl⟩
theorem tupT {l : List α} (h : Ev a E (eT ea l)) : Ev (mFn bTuple (mArgs [a])) E (eT ea l) := e_fn1 h fun t M => ⟨t, rfl⟩
theorem lstT {l : List α} (h : Ev a E (eT ea l)) : Ev (mFn bList (mArgs [a])) E (eL ea l) := e_fn1 h fun t M => ⟨t, rfl⟩
theorem lstL {l : List α} (h : Ev a E (eL ea l)) : Ev (mFn bList (mArgs [a])) E (eL ea l) := e_fn1 h fun t M => ⟨t, rfl⟩
theorem i_int (h : Ev a E (eI i)) : Ev (mFn bInt (mArgs [a])) E (eI i) := e_fn1 h fun t M => ⟨true, rfl⟩
theorem i_abs (h : Ev a E (eI i)) : Ev (mFn bAbs (mArgs [a])) E (eI (i.natAbs : Int)) := e_fn1 h fun t M => ⟨true, by
  show some (W.d true (PyData.int (if i < 0 then -i else i)), M) = some (W.d true (PyData.int (i.natAbs : Int)), M)
  have : (if i < 0 then -i else i) = ((i.natAbs : Nat) : Int) := by split <;> omega
  rw [this]⟩
theorem i_max (h : Ev a E (eI i)) (h' : Ev b E (eI j)) : Ev (mFn bMax (mArgs [a, b])) E (eI (max i j)) := e_fn2 h h' fun t s M => ⟨true, by
  show some (W.d true (PyData.int (if j > i then j else i)), M) = some (W.d true (PyData.int (max i j)), M)
  have : (if j > i then j else i) = max i j := by split <;> omega
  rw [this]⟩
theorem i_min (h : Ev a E (eI i)) (h' : Ev b E (eI j)) : Ev (mFn bMin (mArgs [a, b])) E (eI (min i j)) := e_fn2 h h' fun t s M => ⟨true, by
  show some (W.d true (PyData.int (if j < i then j else i)), M) = some (W.d true (PyData.int (min i j)), M)
  have : (if j < i then j else i) = min i j := by split <;> omega
  rw [this]⟩
theorem boolsL (l : List Bool) : asBools (l.map eB) = some l := by
  induction l with
  | nil => rfl
  | cons a l ih => simp [asBools, ih, eB]
theorem y_all {l : List Bool} (h : Ev a E (eL eB l)) : Ev (mFn bAll (mArgs [a])) E (eB (l.all id)) := e_fn1 h fun t M => ⟨true, by
  show (match asBools (l.map eB) with | some bs => some (W.d true (PyData.bool (bs.all id)), M) | none => none) = _
  rw [boolsL]
  rfl⟩
theorem y_any {l : List Bool} (h : Ev a E (eL eB l)) : Ev (mFn bAny (mArgs [a])) E (eB (l.any id)) := e_fn1 h fun t M => ⟨true, by
  show (match asBools (l.map eB) with | some bs => some (W.d true (PyData.bool (bs.any id)), M) | none => none) = _
  rw [boolsL]
  rfl⟩
theorem intsL (l : List Int) : asInts (l.map eI) = some l := by
  induction l with
  | nil => rfl
  | cons a l ih => simp [asInts, ih, eI]
theorem y_sum {l : List Int} (h : Ev a E (eL eI l)) : Ev (mFn bSum (mArgs [a])) E (eI l.sum) := e_fn1 h fun t M => ⟨true, by
  show (match asInts (l.map eI) with | some l => some (W.d true (PyData.int l.sum), M) | none => none) = _
  rw [intsL]
  rfl⟩
/-- displays -/
theorem lst0 : EvL (mLst (mArgs [])) E (([] : List α).map ea) := l_lst (xs := []) a_nil rfl (by simp)
/-- a list display by its parts -/
theorem lstN {ms : List (Sm W)} {l : List α} {vs : List AV} (h : EvA ms E vs) (e : vs = (l.map ea).map AV.d) (hl : l.length ≤ 1000) : EvL (mLst (mArgs ms)) E (l.map ea) := l_lst h e (by simpa using hl)
theorem tupN {ms : List (Sm W)} {l : List α} {vs : List AV} (h : EvA ms E vs) (e : vs = (l.map ea).map AV.d) (hl : l.length ≤ 1000) : Ev (mTup (mArgs ms)) E (eT ea l) := e_tup h e (by simpa using hl)
/-- slices -/
def cut {α : Type} (l : List α) (lo hi : Option Int) : List α := (l.drop (HT.sIx l.length 0 lo)).take (HT.sIx l.length l.length hi - HT.sIx l.length 0 lo)
theorem cut_map {α β : Type} (f : α → β) (l : List α) (lo hi : Option Int) : ((l.map f).drop (HT.sIx (l.map f).length 0 lo)).take (HT.sIx (l.map f).length (l.map f).length hi - HT.sIx (l.map f).length 0 lo) = (cut l lo hi).map f := by
  unfold cut
  rw [List.map_take, List.map_drop, List.length_map]
def EvP (m : Sm (Option Int)) (E : AE) (o : Option Int) : Prop := ∀ Δ M, Sat E Δ → ∃ N, m Δ M = some (o, M ++ N)
theorem prt0 : EvP (mPart none) E none := fun Δ M S => ⟨[], by simp [mPart]⟩
theorem prt1 (h : Ev a E (eI i)) : EvP (mPart (some a)) E (some i) := fun Δ M S => by
  obtain ⟨t, N, h1⟩ := h Δ M S
  exact ⟨N, by unfold mPart; simp only []; rw [h1]; rfl⟩
theorem slL {p q : Sm (Option Int)} {lo hi : Option Int} {l : List α} (ha : Ev a E (eL ea l)) (hp : EvP p E lo) (hq : EvP q E hi) : Ev (mSl a p q) E (eL ea (cut l lo hi)) := fun Δ M S => by
  obtain ⟨t, N, h1⟩ := ha Δ M S
  obtain ⟨N2, h2⟩ := hp Δ (M ++ N) S
  obtain ⟨N3, h3⟩ := hq Δ (M ++ N ++ N2) S
  refine ⟨t, N ++ (N2 ++ N3), ?_⟩
  unfold mSl
  rw [h1]
  simp only []
  rw [h2]
  simp only []
  rw [h3]
  unfold eL
  simp only [rdL, rdM, cutD]
  rw [cut_map]
  simp
theorem slT {p q : Sm (Option Int)} {lo hi : Option Int} {l : List α} (ha : Ev a E (eT ea l)) (hp : EvP p E lo) (hq : EvP q E hi) : Ev (mSl a p q) E (eT ea (cut l lo hi)) := fun Δ M S => by
  obtain ⟨t, N, h1⟩ := ha Δ M S
  obtain ⟨N2, h2⟩ := hp Δ (M ++ N) S
  obtain ⟨N3, h3⟩ := hq Δ (M ++ N ++ N2) S
  refine ⟨t, N ++ (N2 ++ N3), ?_⟩
  unfold mSl
  rw [h1]
  simp only []
  rw [h2]
  simp only []
  rw [h3]
  unfold eT
  simp only [cutD]
  rw [cut_map]
  simp
theorem revL {l : List α} (ha : Ev a E (eL ea l)) : Ev (mRevQ a) E (eL ea l.reverse) := fun Δ M S => by
  obtain ⟨t, N, h1⟩ := ha Δ M S
  refine ⟨t, N, ?_⟩
  unfold mRevQ
  rw [h1]
  unfold eL
  simp [rdL, rdM]
theorem revT {l : List α} (ha : Ev a E (eT ea l)) : Ev (mRevQ a) E (eT ea l.reverse) := fun Δ M S => by
  obtain ⟨t, N, h1⟩ := ha Δ M S
  refine ⟨t, N, ?_⟩
  unfold mRevQ
  rw [h1]
  unfold eT
  simp
theorem cut_from1 {α : Type} (l : List α) : cut l (some 1) none = l.drop 1 := by
  unfold cut HT.sIx
  cases l with
  | nil => simp
  | cons a l => simp
theorem cut_to1 {α : Type} (l : List α) : cut l none (some 1) = l.take 1 := by
  unfold cut HT.sIx
  cases l with
  | nil => simp
  | cons a l => simp
end
end Ek

/-! EkQ: small fractions; more typed readings -/
namespace Ek
open PySem PySem.Spec PyProof.Rows L2
/-- small enough for all that laws and program do -/
def Sm' (q : Rat) : Prop := Sz 480 q
def Sm2 (p q : Rat) : Prop := Sm' p ∧ Sm' q
section
variable {E E' E1 E2 : AE} {a b c : Sm W} {x y z : PD} {i j : Int} {α β γ : Type} {ea : α → PD} {eb : β → PD} {ec : γ → PD}
theorem rg1 (h : Ev a E (eI i)) (hl : -(2 ^ 62) ≤ i ∧ i < 2 ^ 62) : EvL (mRange1 (mArgs [a])) E ((rng 0 i).map eI) := l_range1 h hl
theorem rg2 (h : Ev a E (eI i)) (h' : Ev b E (eI j)) (hl : -(2 ^ 62) ≤ i ∧ i < 2 ^ 62 ∧ -(2 ^ 62) ≤ j ∧ j < 2 ^ 62) : EvL (mRange2 (mArgs [a, b])) E ((rng i j).map eI) := l_range2 h h' hl
theorem g_pp {g1 g2 : Tg} {p : α × β} (h1 : TgA g1 (ea p.1) E E1) (h2 : TgA g2 (eb p.2) E1 E2) : TgA (gTp (gsCons g1 (gsCons g2 gsNil))) (eP ea eb p) E E2 := g_tp (gs_cons h1 (gs_cons h2 gs_nil))
theorem g_pp3 {g1 g2 g3 : Tg} {p : α × β × γ} {E3 : AE} (h1 : TgA g1 (ea p.1) E E1) (h2 : TgA g2 (eb p.2.1) E1 E2) (h3 : TgA g3 (ec p.2.2) E2 E3) : TgA (gTp (gsCons g1 (gsCons g2 (gsCons g3 gsNil)))) (eP3 ea eb ec p) E E3 := g_tp (gs_cons h1 (gs_cons h2 (gs_cons h3 gs_nil)))
theorem q_lit {q : Rat} (ha : Ev a E (eI i)) (hb : Ev b E (eI j)) (h : q.num = i ∧ (q.den : Int) = j) : Ev (mTup (mArgs [a, b])) E (fr q) := by
  unfold fr
  rw [h.1, h.2]
  exact e_tup (xs := [eI i, eI j]) (a_cons ha (a_cons hb a_nil)) rfl (by simp)
theorem q_cst {q : Rat} {t : Bool} (h : q.num = i ∧ (q.den : Int) = j) : Ev (mD t (.tuple [.int i, .int j])) E (fr q) := by
  unfold fr
  rw [h.1, h.2]
  exact e_D
theorem i_lit {t : Bool} : Ev (mD t (.int i)) E (eI i) := e_D
theorem b_lit {t k : Bool} : Ev (mD t (.bool k)) E (eB k) := e_D
theorem y_in [DecidableEq α] {u : α} {l : List α} {n : Nat} (neg : Bool) (H : EqOk n ea) (ha : Ev a E (ea u)) (hb : Ev b E (eL ea l)) (hn : n ≤ 63 := by decide) : Ev (mBin (gIn neg) a b) E (eB (neg != decide (u ∈ l))) := e_bin ha hb fun t s M => ⟨true, by
  show (if SeqAt.shaped (ea u) = true ∧ SeqAt.shaped (eL ea l) = true then some (W.d true (PyData.bool (neg != (l.map ea).any fun z => PyData.eqv z (ea u))), M) else none) = _
  rw [if_pos ⟨H.sh (by omega) u, (eq_L H).sh (by omega) l⟩]
  have : ((l.map ea).any fun z => PyData.eqv z (ea u)) = decide (u ∈ l) := by
    rw [List.any_map]
    have e : ((fun z => PyData.eqv z (ea u)) ∘ ea) = fun v => decide (v = u) := by
      funext v
      exact H.eq v u
    rw [e]
    by_cases h : u ∈ l
    · simp [h]
    · simp only [h, decide_false]
      rw [List.any_eq_false]
      intro v hv
      simp
      rintro rfl
      exact h hv
  rw [this]
  rfl⟩
theorem y_chain {g g' : W → W → MS → Option (W × MS)} {k l : Bool} (ha : Ev a E x) (hb : Ev b E y) (hc : Ev c E z) (h : ∀ t s M, ∃ r, g (.d t x) (.d s y) M = some (.d r (.bool k), M)) (h' : ∀ t s M, ∃ r, g' (.d t y) (.d s z) M = some (.d r (.bool l), M)) : Ev (mChain g g' a b c) E (eB (k && l)) := fun Δ M S => by
  obtain ⟨t, N, h1⟩ := ha Δ M S
  obtain ⟨s, N2, h2⟩ := hb Δ (M ++ N) S
  obtain ⟨r, h3⟩ := h t s (M ++ N ++ N2)
  obtain ⟨u, N3, h4⟩ := hc Δ (M ++ N ++ N2) S
  obtain ⟨r', h5⟩ := h' s u (M ++ N ++ N2 ++ N3)
  cases k with
  | true =>
    refine ⟨r', N ++ (N2 ++ N3), ?_⟩
    unfold mChain
    rw [h1]
    simp only []
    rw [h2]
    simp only []
    rw [h3]
    simp only [if_true]
    rw [h4]
    simp only []
    rw [h5]
    simp [eB]
  | false =>
    refine ⟨true, N ++ N2, ?_⟩
    unfold mChain
    rw [h1]
    simp only []
    rw [h2]
    simp only []
    rw [h3]
    simp [eB]
theorem y_isN0 (ha : Ev a E .none) : Ev (mUn gIs a) E (eB true) := e_un ha fun t M => ⟨true, rfl⟩
/-- old promises as new ones -/
theorem fnc1 {f : Fd} {x y : PD} (h : ∀ r M, ∃ t N, f [.d r x] M = some (.d t y, M ++ N)) : FnC f [.d x] y := fun ws M hd => by
  cases hd with
  | cons h1 h2 =>
    cases h2
    obtain ⟨t, rfl⟩ := isV_d h1
    exact h t M
theorem fnc2 {f : Fd} {x y z : PD} (h : ∀ r s M, ∃ t N, f [.d r x, .d s y] M = some (.d t z, M ++ N)) : FnC f [.d x, .d y] z := fun ws M hd => by
  cases hd with
  | cons h1 h2 =>
    cases h2 with
    | cons h2 h3 =>
      cases h3
      obtain ⟨t, rfl⟩ := isV_d h1
      obtain ⟨s, rfl⟩ := isV_d h2
      exact h t s M
theorem fnc3 {f : Fd} {x y z v : PD} (h : ∀ r s u M, ∃ t N, f [.d r x, .d s y, .d u z] M = some (.d t v, M ++ N)) : FnC f [.d x, .d y, .d z] v := fun ws M hd => by
  cases hd with
  | cons h1 h2 =>
    cases h2 with
    | cons h2 h3 =>
      cases h3 with
      | cons h3 h4 =>
        cases h4
        obtain ⟨t, rfl⟩ := isV_d h1
        obtain ⟨s, rfl⟩ := isV_d h2
        obtain ⟨u, rfl⟩ := isV_d h3
        exact h t s u M
theorem ex0 {m : Option (W × MS)} {t : Bool} {x : PD} {M : MS} (h : m = some (.d t x, M)) : ∃ t N, m = some (.d t x, M ++ N) := ⟨t, [], by simpa using h⟩
end
end Ek

/-! EkW: code that draws from a flask -/
namespace Ek
open PySem PySem.Spec PyProof.Rows L2
/-- the flask: three ints at a place -/
def Fk (j : Nat) (M : MS) : Prop := ∃ a i c : Int, M[j]? = some (.lst true [.int a, .int i, .int c])
theorem Fk.app {j : Nat} {M : MS} (h : Fk j M) (N : MS) : Fk j (M ++ N) := by
  obtain ⟨a, i, c, h⟩ := h
  refine ⟨a, i, c, ?_⟩
  have : j < M.length := (List.getElem?_eq_some_iff.mp h).1
  rw [List.getElem?_append_left this]
  exact h
def Wc (j : Nat) (m : Sm W) (E : AE) (K : PD → Prop) : Prop := ∀ Δ M, Sat E Δ → Fk j M → ∃ t x M', m Δ M = some (.d t x, M') ∧ K x ∧ Fk j M'
def WcA (j : Nat) (ms : List (Sm W)) (E : AE) (K : List AV → Prop) : Prop := ∀ Δ M, Sat E Δ → Fk j M → ∃ ws vs M', mArgs ms Δ M = some (ws, M') ∧ DV ws vs ∧ K vs ∧ Fk j M'
def WcL (j : Nat) (m : Sm (Bool × List PD)) (E : AE) (K : List PD → Prop) : Prop := ∀ Δ M, Sat E Δ → Fk j M → ∃ t xs M', m Δ M = some ((t, xs), M') ∧ K xs ∧ Fk j M'
def WcT (j : Nat) (m : Sm Bool) (E : AE) (K : Bool → Prop) : Prop := ∀ Δ M, Sat E Δ → Fk j M → ∃ b M', m Δ M = some (b, M') ∧ K b ∧ Fk j M'
def WcS (j : Nat) (s : Ss) (E : AE) (K : PD → Prop) : Prop := ∀ Δ M, Sat E Δ → Fk j M → ∃ w Δ' M' x, s Δ M = some (.rt w, Δ', M') ∧ isV w (.d x) ∧ K x ∧ Fk j M'
def FnW (j : Nat) (f : Fd) (vs : List AV) (K : PD → Prop) : Prop := ∀ ws M, DV ws vs → Fk j M → ∃ t x M', f ws M = some (.d t x, M') ∧ K x ∧ Fk j M'
inductive Rel2 {α β : Type} (R : α → β → Prop) : List α → List β → Prop
  | nil : Rel2 R [] []
  | cons {a : α} {b : β} {l : List α} {m : List β} : R a b → Rel2 R l m → Rel2 R (a :: l) (b :: m)
theorem Rel2.length {α β : Type} {R : α → β → Prop} : ∀ {l : List α} {m : List β}, Rel2 R l m → m.length = l.length
  | _, _, .nil => rfl
  | _, _, .cons _ t => by simp [Rel2.length t]
theorem Rel2.all {α β : Type} {R : α → β → Prop} {P : β → Prop} (h : ∀ a b, R a b → P b) : ∀ {l : List α} {m : List β}, Rel2 R l m → ∀ b, b ∈ m → P b
  | _, _, .nil, b, hb => by cases hb
  | _, _, .cons r t, b, hb => by
    cases hb with
    | head => exact h _ _ r
    | tail _ hb => exact Rel2.all h t b hb
section
variable {j : Nat} {E E' : AE} {a b c : Sm W} {x y z : PD} {i n : Nat} {p q : Sm Bool} {it : Sm (Bool × List PD)} {g : Tg} {K K' : PD → Prop} {α β : Type}
theorem FnW.mono {f : Fd} {vs : List AV} (h : FnW j f vs K) (k : ∀ x, K x → K' x) : FnW j f vs K' := fun ws M hd F => by
  obtain ⟨t, x, M', h1, h2, h3⟩ := h ws M hd F
  exact ⟨t, x, M', h1, k x h2, h3⟩
theorem fnw_pure {f : Fd} {vs : List AV} (h : FnC f vs x) (k : K x) : FnW j f vs K := fun ws M hd F => by
  obtain ⟨t, N, h1⟩ := h ws M hd
  exact ⟨t, x, _, h1, k, F.app N⟩
theorem wc_pure (h : Ev a E x) (k : K x) : Wc j a E K := fun Δ M S F => by
  obtain ⟨t, N, h1⟩ := h Δ M S
  exact ⟨t, x, _, h1, k, F.app N⟩
theorem wc_bin {g : W → W → MS → Option (W × MS)} (h : Wc j a E fun x => Wc j b E fun y => ∃ z, (∀ t s M, ∃ r, g (.d t x) (.d s y) M = some (.d r z, M)) ∧ K z) : Wc j (mBin g a b) E K := fun Δ M S F => by
  obtain ⟨t, x, M1, h1, h2, F1⟩ := h Δ M S F
  obtain ⟨s, y, M2, h3, ⟨z, h4, k⟩, F2⟩ := h2 Δ M1 S F1
  obtain ⟨r, h5⟩ := h4 t s M2
  exact ⟨r, z, M2, by unfold mBin; rw [h1]; simp only []; rw [h3]; exact h5, k, F2⟩
theorem wcA_nil {K : List AV → Prop} (k : K []) : WcA j [] E K := fun Δ M S F => ⟨[], [], M, rfl, .nil, k, F⟩
theorem wcA_cons {ms : List (Sm W)} {K : List AV → Prop} (h : Wc j a E fun x => WcA j ms E fun vs => K (.d x :: vs)) : WcA j (a :: ms) E K := fun Δ M S F => by
  obtain ⟨t, x, M1, h1, h2, F1⟩ := h Δ M S F
  obtain ⟨ws, vs, M2, h3, h4, k, F2⟩ := h2 Δ M1 S F1
  refine ⟨.d t x :: ws, .d x :: vs, M2, ?_, .cons rfl h4, k, F2⟩
  show (match a Δ M with | some (x, M1) => (match mArgs ms Δ M1 with | some (xs, M2) => some (x :: xs, M2) | none => none) | none => none) = _
  rw [h1]
  simp only []
  rw [h3]
theorem wcA_var {ms : List (Sm W)} {K : List AV → Prop} {v : AV} (ha : E[i]? = some (some v)) (h : WcA j ms E fun vs => K (v :: vs)) : WcA j (mVar i :: ms) E K := fun Δ M S F => by
  obtain ⟨w, h1, h4⟩ := S.sl i _ ha
  obtain ⟨ws, vs, M2, h3, h5, k, F2⟩ := h Δ M S F
  refine ⟨w :: ws, v :: vs, M2, ?_, .cons h4 h5, k, F2⟩
  show (match mVar i Δ M with | some (x, M1) => (match mArgs ms Δ M1 with | some (xs, M2) => some (x :: xs, M2) | none => none) | none => none) = _
  unfold mVar
  rw [h1]
  simp only []
  rw [h3]
theorem wc_call {f : Fd} {ms : List (Sm W)} (h : WcA j ms E fun vs => vs.length = n ∧ FnW j f vs K) : Wc j (mCall n f (mArgs ms)) E K := fun Δ M S F => by
  obtain ⟨ws, vs, M1, h1, h2, ⟨h3, h4⟩, F1⟩ := h Δ M S F
  obtain ⟨t, x, M2, h5, k, F2⟩ := h4 ws M1 h2 F1
  refine ⟨t, x, M2, ?_, k, F2⟩
  unfold mCall
  rw [h1]
  simp only [h2.length, h3, if_true]
  exact h5
theorem wc_fn1 {f : Fd} (h : Wc j a E fun x => ∃ y, (∀ t M, ∃ s, f [.d t x] M = some (.d s y, M)) ∧ K y) : Wc j (mFn f (mArgs [a])) E K := fun Δ M S F => by
  obtain ⟨t, x, M1, h1, ⟨y, h2, k⟩, F1⟩ := h Δ M S F
  obtain ⟨s, h3⟩ := h2 t M1
  refine ⟨s, y, M1, ?_, k, F1⟩
  unfold mFn mArgs
  rw [h1]
  simp only [mArgs]
  exact h3
theorem wc_tup {ms : List (Sm W)} (h : WcA j ms E fun vs => ∃ xs : List PD, vs = xs.map AV.d ∧ xs.length ≤ 1000 ∧ K (.tuple xs)) : Wc j (mTup (mArgs ms)) E K := fun Δ M S F => by
  obtain ⟨ws, vs, M1, h1, h2, ⟨xs, rfl, hl, k⟩, F1⟩ := h Δ M S F
  obtain ⟨t, h3⟩ := fzAll_dv (M := M1) h2
  exact ⟨t, .tuple xs, M1, by unfold mTup; rw [h1]; simp only [h3, if_pos hl], k, F1⟩
theorem wcL_lst {ms : List (Sm W)} {K : List PD → Prop} (h : WcA j ms E fun vs => ∃ xs : List PD, vs = xs.map AV.d ∧ xs.length ≤ 1000 ∧ K xs) : WcL j (mLst (mArgs ms)) E K := fun Δ M S F => by
  obtain ⟨ws, vs, M1, h1, h2, ⟨xs, rfl, hl, k⟩, F1⟩ := h Δ M S F
  obtain ⟨t, h3⟩ := fzAll_dv (M := M1) h2
  exact ⟨t, xs, M1, by unfold mLst; rw [h1]; simp only [h3, if_pos hl], k, F1⟩
theorem wc_old (h : WcL j it E fun xs => K (.list xs)) : Wc j (mOld it) E K := fun Δ M S F => by
  obtain ⟨t, xs, M1, h1, k, F1⟩ := h Δ M S F
  exact ⟨t, .list xs, M1, by unfold mOld; rw [h1], k, F1⟩
theorem wcL_pure {xs : List PD} {K : List PD → Prop} (h : EvL it E xs) (k : K xs) : WcL j it E K := fun Δ M S F => by
  obtain ⟨t, N, h1⟩ := h Δ M S
  exact ⟨t, xs, _, h1, k, F.app N⟩
theorem wcT_pure {k : Bool} {K : Bool → Prop} (h : EvT p E k) (hk : K k) : WcT j p E K := fun Δ M S F => by
  obtain ⟨N, h1⟩ := h Δ M S
  exact ⟨k, _, h1, hk, F.app N⟩
theorem wcT_B1 {K : Bool → Prop} (h : Wc j a E fun x => ∃ k, x = .bool k ∧ K k) : WcT j (tB1 a) E K := fun Δ M S F => by
  obtain ⟨t, x, M1, h1, ⟨k, rfl, hk⟩, F1⟩ := h Δ M S F
  exact ⟨k, M1, by unfold tB1; rw [h1], hk, F1⟩
theorem wc_if (h : WcT j p E fun k => (k = true → Wc j a E K) ∧ (k = false → Wc j b E K)) : Wc j (mIf p a b) E K := fun Δ M S F => by
  obtain ⟨k, M1, h1, ⟨h2, h3⟩, F1⟩ := h Δ M S F
  cases k with
  | true =>
    obtain ⟨t, x, M2, h4, hk, F2⟩ := h2 rfl Δ M1 S F1
    exact ⟨t, x, M2, by unfold mIf; rw [h1]; simp only [if_true]; exact h4, hk, F2⟩
  | false =>
    obtain ⟨t, x, M2, h4, hk, F2⟩ := h3 rfl Δ M1 S F1
    exact ⟨t, x, M2, by unfold mIf; rw [h1]; simp only [Bool.false_eq_true, if_false]; exact h4, hk, F2⟩
theorem wcL_range1 {K : List PD → Prop} (h : Wc j a E fun x => ∃ i : Int, x = eI i ∧ (-(2 ^ 62) ≤ i ∧ i < 2 ^ 62) ∧ K ((rng 0 i).map eI)) : WcL j (mRange1 (mArgs [a])) E K := fun Δ M S F => by
  obtain ⟨t, x, M1, h1, ⟨i, rfl, hl, k⟩, F1⟩ := h Δ M S F
  refine ⟨true, _, M1, ?_, k, F1⟩
  unfold mRange1 mArgs
  rw [h1]
  unfold eI
  simp only [mArgs, if_pos hl]
  rw [← show (rng 0 i).map PyData.int = (rng 0 i).map fun i => PyData.int i from rfl, ← rngD]
  simp
theorem wcL_items {K : List PD → Prop} (h : Wc j a E fun x => ∃ xs, (x = .list xs ∨ x = .tuple xs) ∧ K xs) : WcL j (mItems a) E K := fun Δ M S F => by
  obtain ⟨t, x, M1, h1, ⟨xs, hx, k⟩, F1⟩ := h Δ M S F
  rcases hx with rfl | rfl
  · exact ⟨t, xs, M1, by unfold mItems; rw [h1]; rfl, k, F1⟩
  · exact ⟨t, xs, M1, by unfold mItems; rw [h1]; rfl, k, F1⟩
theorem lcw_go (enc : α → PD) (encb : β → PD) (R : α → β → Prop) (l : List α) {te : Sm W} (h : ∀ z, z ∈ l → ∃ E', TgA g (enc z) E E' ∧ Wc j te E' fun y => ∃ b, R z b ∧ y = encb b) (t : Bool) (Δ : Sl) (S : Sat E Δ) : ∀ M, Fk j M → ∃ s bs M', lcGo t g tTrue te Δ (l.map enc) M = some ((s, bs.map encb), M') ∧ Rel2 R l bs ∧ Fk j M' := by
  induction l with
  | nil => exact fun M F => ⟨true, [], M, by simp [lcGo], .nil, F⟩
  | cons z l ih =>
    intro M F
    obtain ⟨E', h1, h2⟩ := h z List.mem_cons_self
    obtain ⟨Δ1, g1, S1⟩ := h1 t Δ S
    obtain ⟨s, y, M1, k1, ⟨b, hb, rfl⟩, F1⟩ := h2 Δ1 M S1 F
    obtain ⟨s2, bs, M2, k2, k3, F2⟩ := ih (fun z hz => h z (List.mem_cons_of_mem _ hz)) M1 F1
    refine ⟨s && s2, b :: bs, M2, ?_, .cons hb k3, F2⟩
    simp [lcGo, g1, tTrue]
    rw [k1]
    simp [fz1]
    rw [k2]
theorem wcL_lc {K : List PD → Prop} (enc : α → PD) (encb : β → PD) (R : α → β → Prop) {te : Sm W} {vs : List Nat} (h : WcL j it E fun xs => ∃ l : List α, xs = l.map enc ∧ l.length ≤ 100000 ∧ (∀ z, z ∈ l → ∃ E', TgA g (enc z) (wipeA E vs) E' ∧ Wc j te E' fun y => ∃ b, R z b ∧ y = encb b) ∧ ∀ bs, Rel2 R l bs → K (bs.map encb)) : WcL j (mLc it g tTrue te vs) E K := fun Δ M S F => by
  obtain ⟨t, xs, M1, h1, ⟨l, rfl, hl, h2, k⟩, F1⟩ := h Δ M S F
  obtain ⟨s, bs, M2, h3, h4, F2⟩ := lcw_go enc encb R l h2 t (wipeD Δ vs) (sat_wipe S vs) M1 F1
  exact ⟨s, _, M2, by unfold mLc; rw [h1]; simp only []; rw [if_pos (by simpa using hl), h3], k bs h4, F2⟩
/-! statements -/
variable {s t r : Ss}
theorem ws_pure (h : EvS s E (.rt x)) (k : K x) : WcS j s E K := fun Δ M S F => by
  obtain ⟨f, Δ', N, h1, m1⟩ := h Δ M S
  cases f with
  | rt w => exact ⟨w, Δ', _, x, h1, m1, k, F.app N⟩
  | nx => cases m1
  | bk => cases m1
  | ct => cases m1
theorem ws_ret (h : Wc j a E K) : WcS j (sSeq (sRet a) t) E K := fun Δ M S F => by
  obtain ⟨u, x, M1, h1, k, F1⟩ := h Δ M S F
  exact ⟨.d u x, Δ, M1, x, by unfold sSeq sRet; rw [h1]; rfl, rfl, k, F1⟩
theorem ws_set (h : Wc j a E fun x => WcS j t (E.set i (some (.d x))) K) : WcS j (sSeq (sSet i a) t) E K := fun Δ M S F => by
  obtain ⟨u, x, M1, h1, h2, F1⟩ := h Δ M S F
  obtain ⟨w, Δ', M2, z, h3, h4, k, F2⟩ := h2 _ M1 (sat_set S i (show isV (.d u x) (.d x) from rfl)) F1
  exact ⟨w, Δ', M2, z, by unfold sSeq sSet; rw [h1]; exact h3, h4, k, F2⟩
theorem ws_drop (h : Wc j a E fun _ => WcS j t E K) : WcS j (sSeq (sDrop a) t) E K := fun Δ M S F => by
  obtain ⟨u, x, M1, h1, h2, F1⟩ := h Δ M S F
  obtain ⟨w, Δ', M2, z, h3, h4, k, F2⟩ := h2 _ M1 S F1
  exact ⟨w, Δ', M2, z, by unfold sSeq sDrop; rw [h1]; exact h3, h4, k, F2⟩
theorem ws_par {i k : Nat} {K : PD → Prop} (h : Wc j a E fun x => Wc j b E fun y => WcS j t ((E.set i (some (.d x))).set k (some (.d y))) K) : WcS j (sSeq (sPar i k (mArgs [a, b])) t) E K := fun Δ M S F => by
  obtain ⟨u, x, M1, h1, h2, F1⟩ := h Δ M S F
  obtain ⟨v, y, M2, h3, h4, F2⟩ := h2 Δ M1 S F1
  obtain ⟨w, Δ', M3, z, h5, h6, kk, F3⟩ := h4 _ M2 (sat_set (sat_set S i (show isV (.d u x) (.d x) from rfl)) k (show isV (.d v y) (.d y) from rfl)) F2
  refine ⟨w, Δ', M3, z, ?_, h6, kk, F3⟩
  unfold sSeq sPar mArgs mArgs mArgs
  rw [h1]
  simp only []
  rw [h3]
  exact h5
theorem ws_par3 {i k l : Nat} {K : PD → Prop} (h : Wc j a E fun x => Wc j b E fun y => Wc j c E fun z => WcS j t (((E.set i (some (.d x))).set k (some (.d y))).set l (some (.d z))) K) : WcS j (sSeq (sPar3 i k l (mArgs [a, b, c])) t) E K := fun Δ M S F => by
  obtain ⟨u, x, M1, h1, h2, F1⟩ := h Δ M S F
  obtain ⟨v, y, M2, h3, h4, F2⟩ := h2 Δ M1 S F1
  obtain ⟨o, z, M3, h7, h8, F3⟩ := h4 Δ M2 S F2
  obtain ⟨w, Δ', M4, zz, h5, h6, kk, F4⟩ := h8 _ M3 (sat_set (sat_set (sat_set S i (show isV (.d u x) (.d x) from rfl)) k (show isV (.d v y) (.d y) from rfl)) l (show isV (.d o z) (.d z) from rfl)) F3
  refine ⟨w, Δ', M4, zz, ?_, h6, kk, F4⟩
  unfold sSeq sPar3 mArgs mArgs mArgs mArgs
  rw [h1]
  simp only []
  rw [h3]
  simp only []
  rw [h7]
  exact h5
theorem ws_if (h : WcT j p E fun k => (k = true → WcS j (sSeq s r) E K) ∧ (k = false → WcS j (sSeq t r) E K)) : WcS j (sSeq (sIf p s t) r) E K := fun Δ M S F => by
  obtain ⟨k, M1, h1, ⟨h2, h3⟩, F1⟩ := h Δ M S F
  cases k with
  | true =>
    obtain ⟨w, Δ', M2, z, h4, h5, kk, F2⟩ := h2 rfl Δ M1 S F1
    refine ⟨w, Δ', M2, z, ?_, h5, kk, F2⟩
    rw [← h4]
    unfold sSeq sIf
    rw [h1]
    rfl
  | false =>
    obtain ⟨w, Δ', M2, z, h4, h5, kk, F2⟩ := h3 rfl Δ M1 S F1
    refine ⟨w, Δ', M2, z, ?_, h5, kk, F2⟩
    rw [← h4]
    unfold sSeq sIf
    rw [h1]
    rfl
theorem ws_skip (h : WcS j r E K) : WcS j (sSeq sNext r) E K := h
theorem ws_assoc (h : WcS j (sSeq s (sSeq t r)) E K) : WcS j (sSeq (sSeq s t) r) E K := fun Δ M S F => by
  obtain ⟨w, Δ', M2, z, h4, h5, kk, F2⟩ := h Δ M S F
  refine ⟨w, Δ', M2, z, ?_, h5, kk, F2⟩
  rw [← h4]
  unfold sSeq
  cases s Δ M with
  | none => rfl
  | some u => obtain ⟨f, Δ2, M2⟩ := u; cases f <;> rfl
theorem fn_w {vs : List AV} (h : WcS j s (vs.map some ++ List.replicate (n - vs.length) none) K) : FnW j (semF n s) vs K := fun ws M hd F => by
  have S : Sat (vs.map some ++ List.replicate (n - vs.length) none) (ws.map some ++ List.replicate (n - ws.length) none) := by
    refine ⟨by simp [hd.length], fun i v hv => ?_⟩
    by_cases hi : i < vs.length
    · rw [List.getElem?_append_left (by simpa using hi), List.getElem?_map] at hv
      cases hu : vs[i]? with
      | none => rw [hu] at hv; cases hv
      | some u =>
        rw [hu] at hv
        cases hv
        obtain ⟨w, h1, h2⟩ := hd.get hu
        refine ⟨w, ?_, h2⟩
        rw [List.getElem?_append_left (by rw [List.length_map, hd.length]; exact hi), List.getElem?_map, h1]
        rfl
    · rw [List.getElem?_append_right (by simpa using Nat.le_of_not_lt hi), List.getElem?_replicate] at hv
      split at hv <;> cases hv
  obtain ⟨w, Δ', M2, z, h1, h2, k, F2⟩ := h _ M S F
  obtain ⟨t, rfl⟩ := isV_d h2
  exact ⟨t, z, M2, by unfold semF; rw [h1], k, F2⟩
/-! operations, told apart from where their arguments come from -/
theorem o_add {x y : Int} : ∀ t s M, ∃ r, gAdd (.d t (eI x)) (.d s (eI y)) M = some (.d r (eI (x + y)), M) := fun t s M => ⟨_, rfl⟩
theorem o_sub {x y : Int} : ∀ t s M, ∃ r, gSub (.d t (eI x)) (.d s (eI y)) M = some (.d r (eI (x - y)), M) := fun t s M => ⟨_, rfl⟩
theorem o_mul {x y : Int} (h : CMulE x y) : ∀ t s M, ∃ r, gMul (.d t (eI x)) (.d s (eI y)) M = some (.d r (eI (x * y)), M) := fun t s M => ⟨_, gMul_i h⟩
theorem o_fdiv {x y : Int} (h : CDivW x y) : ∀ t s M, ∃ r, gFdiv (.d t (eI x)) (.d s (eI y)) M = some (.d r (eI (x / y)), M) := fun t s M => ⟨_, gFdiv_i h⟩
theorem o_mod {x y : Int} (h : 0 < y) : ∀ t s M, ∃ r, gMod (.d t (eI x)) (.d s (eI y)) M = some (.d r (eI (x % y)), M) := fun t s M => ⟨_, gMod_i h⟩
theorem o_eq [DecidableEq α] {ea : α → PD} {u v : α} {n : Nat} (H : EqOk n ea) (hn : n ≤ 64) : ∀ t s M, ∃ r, gEq (.d t (ea u)) (.d s (ea v)) M = some (.d r (eB (decide (u = v))), M) := fun t s M => ⟨_, by rw [gEq_d (H.sh hn u) (H.sh hn v), H.eq]; rfl⟩
theorem o_lt {x y : Int} : ∀ t s M, ∃ r, gLt (.d t (eI x)) (.d s (eI y)) M = some (.d r (eB (decide (x < y))), M) := fun t s M => ⟨_, gLt_i⟩
theorem o_p0 {ea : α → PD} {eb : β → PD} {p : α × β} : ∀ t s M, ∃ r, gIx (.d t (eP ea eb p)) (.d s (.int 0)) M = some (.d r (ea p.1), M) := fun t s M => ⟨_, gIx_0⟩
theorem o_p1 {ea : α → PD} {eb : β → PD} {p : α × β} : ∀ t s M, ∃ r, gIx (.d t (eP ea eb p)) (.d s (.int 1)) M = some (.d r (eb p.2), M) := fun t s M => ⟨_, gIx_1⟩
theorem o_ixL [Inhabited α] {ea : α → PD} {l : List α} {i : Int} (h : IxOk l.length i) : ∀ t s M, ∃ r, gIx (.d t (eL ea l)) (.d s (eI i)) M = some (.d r (ea (ix l i)), M) := fun t s M => ⟨nf t (ea (ix l i)), by
  show (match atI (l.map ea) i with | some y => some (W.d (nf t y) y, M) | none => none) = _
  rw [atI_map, ix_some h]
  rfl⟩
theorem o_ixT [Inhabited α] {ea : α → PD} {l : List α} {i : Int} (h : IxOk l.length i) : ∀ t s M, ∃ r, gIx (.d t (eT ea l)) (.d s (eI i)) M = some (.d r (ea (ix l i)), M) := fun t s M => ⟨nf t (ea (ix l i)), by
  show (match atI (l.map ea) i with | some y => some (W.d (nf t y) y, M) | none => none) = _
  rw [atI_map, ix_some h]
  rfl⟩
theorem o_catL {ea : α → PD} {l m : List α} (h : l.length + m.length ≤ 10000) : ∀ t s M, ∃ r, gAdd (.d t (eL ea l)) (.d s (eL ea m)) M = some (.d r (eL ea (l ++ m)), M) := fun t s M => ⟨t && s, by
  show (if (l.map ea).length + (m.map ea).length ≤ 10000 then some (W.d (t && s) (PyData.list (l.map ea ++ m.map ea)), M) else none) = _
  rw [if_pos (by simpa using h), ← List.map_append]
  rfl⟩
theorem o_tupL {ea : α → PD} {l : List α} : ∀ t M, ∃ s, bTuple [.d t (eL ea l)] M = some (.d s (eT ea l), M) := fun t M => ⟨t, rfl⟩
theorem o_lenL {ea : α → PD} {l : List α} : ∀ t M, ∃ s, bLen [.d t (eL ea l)] M = some (.d s (eI l.length), M) := fun t M => ⟨true, by unfold eL; rw [bLen_l]; simp [eI]⟩
theorem o_lenT {ea : α → PD} {l : List α} : ∀ t M, ∃ s, bLen [.d t (eT ea l)] M = some (.d s (eI l.length), M) := fun t M => ⟨true, by unfold eT; rw [bLen_t]; simp [eI]⟩
theorem wc_sortset {l0 : Unit} (h : Wc j a E fun x => ∃ l : List Int, x = eL eI l ∧ l.length < 64 ∧ K (eL eI (upI l))) : Wc j (mOld (mSortSet a)) E K := fun Δ M S F => by
  obtain ⟨t, x, M1, h1, ⟨l, rfl, hl, k⟩, F1⟩ := h Δ M S F
  refine ⟨true, _, M1, ?_, k, F1⟩
  unfold mOld mSortSet
  rw [h1]
  have e : rdL (.d t (eL eI l)) M1 = some (t, l.map eI) := rfl
  simp only [e, intsL, if_pos hl]
  rfl
theorem e_sortset {l : List Int} (h : Ev a E (eL eI l)) (hl : l.length < 64) : Ev (mOld (mSortSet a)) E (eL eI (upI l)) := fun Δ M S => by
  obtain ⟨t, N, h1⟩ := h Δ M S
  refine ⟨true, N, ?_⟩
  unfold mOld mSortSet
  rw [h1]
  have e : rdL (.d t (eL eI l)) (M ++ N) = some (t, l.map eI) := rfl
  simp only [e, intsL, if_pos hl]
  rfl
end
end Ek

/-! EkM: plain facts -/
namespace Ek
open PySem PySem.Spec PyProof.Rows L2
theorem mem_rng {a b i : Int} : i ∈ rng a b ↔ a ≤ i ∧ i < b := by
  unfold rng
  rw [List.mem_map]
  constructor
  · rintro ⟨n, hn, rfl⟩
    rw [List.mem_range] at hn
    omega
  · intro ⟨h1, h2⟩
    exact ⟨(i - a).toNat, by rw [List.mem_range]; omega, by omega⟩
theorem rng_len (a b : Int) : (rng a b).length = (b - a).toNat := by unfold rng; simp
theorem rng0 (n : Nat) : rng 0 (n : Int) = (List.range n).map fun (i : Nat) => (i : Int) := by
  unfold rng
  have : ((n : Int) - 0).toNat = n := by omega
  rw [this]
  simp
theorem map_rng_ix {α β : Type} [Inhabited α] (l : List α) (f : α → β) : (rng 0 (l.length : Int)).map (fun i => f (ix l i)) = l.map f := by
  rw [rng0, List.map_map]
  apply List.ext_getElem
  · simp
  · intro i h1 h2
    have hi : i < l.length := by simpa using h2
    simp [ix_nat hi]
theorem foldl_sum (l : List Rat) : List.foldl (fun (s : Rat) (z : Rat) => s + z) 0 l = l.sum := by
  suffices h : ∀ (l : List Rat) (a : Rat), List.foldl (fun (s : Rat) (z : Rat) => s + z) a l = a + l.sum by rw [h, Rat.zero_add]
  intro l
  induction l with
  | nil => intro a; simp [Rat.add_zero]
  | cons z l ih => intro a; rw [List.foldl_cons, ih, List.sum_cons, Rat.add_assoc]
theorem foldl_flat {α β : Type} (f : α → List β) (l : List α) : List.foldl (fun (s : List β) (z : α) => s ++ f z) [] l = l.flatMap f := by
  suffices h : ∀ (l : List α) (a : List β), List.foldl (fun (s : List β) (z : α) => s ++ f z) a l = a ++ l.flatMap f by rw [h]; rfl
  intro l
  induction l with
  | nil => intro a; simp
  | cons z l ih => intro a; rw [List.foldl_cons, ih, List.flatMap_cons, List.append_assoc]
/-! ascending ints -/
theorem insU_len {x : Int} : ∀ {l : List Int}, (insU x l).length ≤ l.length + 1 ∧ 0 < (insU x l).length
  | [] => by simp [insU]
  | z :: l => by
    have := insU_len (x := x) (l := l)
    unfold insU
    split
    · simp
    · split
      · simp
      · simp; omega
theorem upI_len : ∀ {l : List Int}, (upI l).length ≤ l.length
  | [] => by simp [upI]
  | x :: l => by
    have h1 := upI_len (l := l)
    have h2 := insU_len (x := x) (l := upI l)
    unfold upI
    simp
    omega
theorem upI_ne {l : List Int} (h : l ≠ []) : 0 < (upI l).length := by
  cases l with
  | nil => exact absurd rfl h
  | cons x l => unfold upI; exact insU_len.2
/-! sizes -/
theorem Bd.zero {D : Nat} : Bd D 0 0 := ⟨0, by simp, by simp⟩
theorem Bd.one {D : Nat} : Bd D D 1 := ⟨D, by simp, by rw [Rat.one_mul, Rat.intCast_natCast]⟩
theorem Bd.neg {D N : Nat} {p : Rat} (h : Bd D N p) : Bd D N (-p) := by
  obtain ⟨n, h1, h2⟩ := h
  exact ⟨-n, by omega, by rw [Rat.neg_mul, h2, Rat.intCast_neg]⟩
theorem Bd.sub {D N L : Nat} {p q : Rat} (h : Bd D N p) (k : Bd D L q) : Bd D (N + L) (p - q) := by
  rw [Rat.sub_eq_add_neg]
  exact h.add k.neg
theorem Bd.sum {D N : Nat} : ∀ {l : List Rat}, (∀ q, q ∈ l → Bd D N q) → Bd D (l.length * N) l.sum
  | [], _ => by simpa using Bd.zero
  | a :: l, h => by
    have h1 := Bd.sum fun q hq => h q (List.mem_cons_of_mem _ hq)
    have h2 := h a List.mem_cons_self
    rw [List.sum_cons, List.length_cons, Nat.succ_mul, Nat.add_comm]
    exact h2.add h1
theorem Bd.sm {D N : Nat} {p : Rat} (h : Bd D N p) (h0 : D ≠ 0) (hD : D < 2 ^ 480) (hN : N < 2 ^ 480) : Sm' p := h.sz h0 hD hN
/-- sums have small parts -/
theorem sums_sm {D N : Nat} {l : List Rat} (h : ∀ q, q ∈ l → Bd D N q) (h0 : D ≠ 0) (hD : D < 2 ^ 480) (hN : l.length * N < 2 ^ 480) : ∀ (dn : List Rat) (z : Rat) (rs : List Rat), l = dn ++ z :: rs → ∀ s, s = List.foldl (fun (s : Rat) (z : Rat) => s + z) 0 dn → Sm2 s z := by
  intro dn z rs e s hs
  rw [foldl_sum] at hs
  subst hs
  have hl : dn.length + 1 ≤ l.length := by rw [e]; simp
  have h1 : dn.length * N ≤ l.length * N := Nat.mul_le_mul_right _ (by omega)
  have h2 : 1 * N ≤ l.length * N := Nat.mul_le_mul_right _ (by omega)
  exact ⟨(Bd.sum fun q hq => h q (by rw [e]; exact List.mem_append_left _ hq)).sm h0 hD (by omega), (h z (by rw [e]; simp)).sm h0 hD (by omega)⟩
theorem Sz.sm {b : Nat} {p : Rat} (h : Sz b p) (l : b ≤ 480) : Sm' p := h.mono l
theorem mk_mul (a : Int) {d : Nat} (h : d ≠ 0) : mkRat a d * (d : Rat) = (a : Rat) := by
  have hd : (d : Rat) ≠ 0 := by
    intro e
    exact h (by exact_mod_cast e)
  rw [Rat.mkRat_eq_div]
  grind
theorem mk_bd {a : Int} {d N : Nat} (h : d ≠ 0) (l : a.natAbs ≤ N) : Bd d N (mkRat a d) := ⟨a, l, mk_mul a h⟩
theorem mk_lt {a b : Int} {d : Nat} (h : d ≠ 0) (l : a < b) : mkRat a d < mkRat b d := by
  have hd : (0 : Rat) < (d : Rat) := by
    have : 0 < d := Nat.pos_of_ne_zero h
    exact_mod_cast this
  have h1 := mk_mul a h
  have h2 := mk_mul b h
  have h3 : (a : Rat) < (b : Rat) := by exact_mod_cast l
  rw [← h1, ← h2] at h3
  exact (Rat.mul_lt_mul_right hd).mp h3
theorem cut1 {α : Type} (z : α) (l : List α) : cut (z :: l) none (some 1) = [z] := by rw [cut_to1]; rfl
theorem foldR_ok {α σ β : Type} {step : σ → α → σ ⊕ β} {l : List α} {u : σ} (h : ∀ z, z ∈ l → step u z = .inl u) : foldR step l u = .inl u := by
  induction l with
  | nil => rfl
  | cons z l ih =>
    show (match step u z with | .inl v => foldR step l v | .inr b => .inr b) = _
    rw [h z List.mem_cons_self]
    exact ih fun z hz => h z (List.mem_cons_of_mem _ hz)
end Ek

namespace K15
open PySem PySem.Spec PyProof.Rows L2 Ek
def topS (i : Nat) : Stmt := PySem.Challenge.pw_placeworths_k15_whole_one_bar_for_all.main.body.getD i (.Pass ⟨0, 0, 0, 0⟩)
def G0 : GE := ⟨[], [("ZERO", false, .tuple [.int 0, .int 1]), ("ONE", false, .tuple [.int 1, .int 1]), ("MOST_PAIRS", true, .int 64), ("MOST_DRAWS", true, .int 6)], ["abs", "all", "bool", "divmod", "int", "isinstance", "len", "max", "min", "range", "set", "sorted", "tuple"]⟩
noncomputable def f_is_between : Fd := semF 3 (sSeq (sIf (tOr' (tNot' (tB1 (mUn (gIsi "int") (mVar 0)))) (tB1 (mUn (gIsi "bool") (mVar 0)))) (sSeq (sRet (mD true (.bool false))) sNext) sNext) (sSeq (sRet (mAnd (mOr (mUn gIs (mVar 1)) (mBin gGe (mVar 0) (mVar 1))) (mOr (mUn gIs (mVar 2)) (mBin gLe (mVar 0) (mVar 2))))) sNext))
theorem sc_f_is_between : FnScope ["value", "least", "most"] ["value", "least", "most"] (defScope (topS 8)) := ⟨rfl, rfl, rfl, by decide +kernel, rfl, by decide +kernel, by decide +kernel⟩
theorem eq_f_is_between : f_is_between = semF (["value", "least", "most"] : List Str).length (denSs G0 ["value", "least", "most"] ⟨[], false⟩ (defScope (topS 8)) 60 (defBody (topS 8))) := by kernel_rfl
theorem bd_f_is_between : BindD "is_between" (topS 8) ["value", "least", "most"] := fun _ _ _ _ _ _ us hl => match us, hl with | [_, _, _], _ => rfl
noncomputable def G1 : GE := { G0 with fn := ("is_between", ⟨["value", "least", "most"], f_is_between, []⟩) :: G0.fn }
noncomputable def f_common : Fd := semF 2 (sSeq (sSet 0 (mFn bAbs (mArgs [(mVar 0)]))) (sSeq (sWhile (tB1 (mBin gGt (mVar 1) (mD true (.int 0)))) (sSeq (sPar 0 1 (mArgs [(mVar 1), (mBin gMod (mFn bInt (mArgs [(mVar 0)])) (mVar 1))])) sNext)) (sSeq (sRet (mVar 0)) sNext)))
theorem sc_f_common : FnScope ["first", "last"] ["first", "last"] (defScope (topS 9)) := ⟨rfl, rfl, rfl, by decide +kernel, rfl, by decide +kernel, by decide +kernel⟩
theorem eq_f_common : f_common = semF (["first", "last"] : List Str).length (denSs G1 ["first", "last"] ⟨[], false⟩ (defScope (topS 9)) 60 (defBody (topS 9))) := by kernel_rfl
theorem bd_f_common : BindD "common" (topS 9) ["first", "last"] := fun _ _ _ _ _ _ us hl => match us, hl with | [_, _], _ => rfl
noncomputable def G2 : GE := { G1 with fn := ("common", ⟨["first", "last"], f_common, []⟩) :: G1.fn }
noncomputable def f_lowest : Fd := semF 3 (sSeq (sSet 2 (mCall 2 f_common (mArgs [(mVar 0), (mVar 1)]))) (sSeq (sRet (mTup (mArgs [(mBin gFdiv (mVar 0) (mVar 2)), (mBin gFdiv (mVar 1) (mVar 2))]))) sNext))
theorem sc_f_lowest : FnScope ["top", "bottom", "shared"] ["top", "bottom"] (defScope (topS 10)) := ⟨rfl, rfl, rfl, by decide +kernel, rfl, by decide +kernel, by decide +kernel⟩
theorem eq_f_lowest : f_lowest = semF (["top", "bottom", "shared"] : List Str).length (denSs G2 ["top", "bottom", "shared"] ⟨[], false⟩ (defScope (topS 10)) 60 (defBody (topS 10))) := by kernel_rfl
theorem bd_f_lowest : BindD "lowest" (topS 10) ["top", "bottom"] := fun _ _ _ _ _ _ us hl => match us, hl with | [_, _], _ => rfl
noncomputable def G3 : GE := { G2 with fn := ("lowest", ⟨["top", "bottom"], f_lowest, []⟩) :: G2.fn }
noncomputable def f_is_fraction : Fd := semF 1 (sSeq (sIf (tOr' (tNot' (tB1 (mUn (gIsi "tuple") (mVar 0)))) (tB1 (mBin gNe (mFn bLen (mArgs [(mVar 0)])) (mD true (.int 2))))) (sSeq (sRet (mD true (.bool false))) sNext) sNext) (sSeq (sIf (tOr' (tNot' (tB1 (mCall 3 f_is_between (mArgs [(mBin gIx (mVar 0) (mD true (.int 0))), (mD true .none), (mD true .none)])))) (tNot' (tB1 (mCall 3 f_is_between (mArgs [(mBin gIx (mVar 0) (mD true (.int 1))), (mD true (.int 1)), (mD true .none)]))))) (sSeq (sRet (mD true (.bool false))) sNext) sNext) (sSeq (sRet (mBin gEq (mCall 2 f_common (mArgs [(mBin gIx (mVar 0) (mD true (.int 0))), (mBin gIx (mVar 0) (mD true (.int 1)))])) (mD true (.int 1)))) sNext)))
theorem sc_f_is_fraction : FnScope ["value"] ["value"] (defScope (topS 11)) := ⟨rfl, rfl, rfl, by decide +kernel, rfl, by decide +kernel, by decide +kernel⟩
theorem eq_f_is_fraction : f_is_fraction = semF (["value"] : List Str).length (denSs G3 ["value"] ⟨[], false⟩ (defScope (topS 11)) 60 (defBody (topS 11))) := by kernel_rfl
theorem bd_f_is_fraction : BindD "is_fraction" (topS 11) ["value"] := fun _ _ _ _ _ _ us hl => match us, hl with | [_], _ => rfl
noncomputable def G4 : GE := { G3 with fn := ("is_fraction", ⟨["value"], f_is_fraction, []⟩) :: G3.fn }
noncomputable def f_add : Fd := semF 2 (sSeq (sRet (mCall 2 f_lowest (mArgs [(mBin gAdd (mBin gMul (mBin gIx (mVar 0) (mD true (.int 0))) (mBin gIx (mVar 1) (mD true (.int 1)))) (mBin gMul (mBin gIx (mVar 1) (mD true (.int 0))) (mBin gIx (mVar 0) (mD true (.int 1))))), (mBin gMul (mBin gIx (mVar 0) (mD true (.int 1))) (mBin gIx (mVar 1) (mD true (.int 1))))]))) sNext)
theorem sc_f_add : FnScope ["one", "other"] ["one", "other"] (defScope (topS 12)) := ⟨rfl, rfl, rfl, by decide +kernel, rfl, by decide +kernel, by decide +kernel⟩
theorem eq_f_add : f_add = semF (["one", "other"] : List Str).length (denSs G4 ["one", "other"] ⟨[], false⟩ (defScope (topS 12)) 60 (defBody (topS 12))) := by kernel_rfl
theorem bd_f_add : BindD "add" (topS 12) ["one", "other"] := fun _ _ _ _ _ _ us hl => match us, hl with | [_, _], _ => rfl
noncomputable def G5 : GE := { G4 with fn := ("add", ⟨["one", "other"], f_add, []⟩) :: G4.fn }
noncomputable def f_less : Fd := semF 2 (sSeq (sRet (mCall 2 f_lowest (mArgs [(mBin gSub (mBin gMul (mBin gIx (mVar 0) (mD true (.int 0))) (mBin gIx (mVar 1) (mD true (.int 1)))) (mBin gMul (mBin gIx (mVar 1) (mD true (.int 0))) (mBin gIx (mVar 0) (mD true (.int 1))))), (mBin gMul (mBin gIx (mVar 0) (mD true (.int 1))) (mBin gIx (mVar 1) (mD true (.int 1))))]))) sNext)
theorem sc_f_less : FnScope ["one", "other"] ["one", "other"] (defScope (topS 13)) := ⟨rfl, rfl, rfl, by decide +kernel, rfl, by decide +kernel, by decide +kernel⟩
theorem eq_f_less : f_less = semF (["one", "other"] : List Str).length (denSs G5 ["one", "other"] ⟨[], false⟩ (defScope (topS 13)) 60 (defBody (topS 13))) := by kernel_rfl
theorem bd_f_less : BindD "less" (topS 13) ["one", "other"] := fun _ _ _ _ _ _ us hl => match us, hl with | [_, _], _ => rfl
noncomputable def G6 : GE := { G5 with fn := ("less", ⟨["one", "other"], f_less, []⟩) :: G5.fn }
noncomputable def f_times : Fd := semF 2 (sSeq (sRet (mCall 2 f_lowest (mArgs [(mBin gMul (mBin gIx (mVar 0) (mD true (.int 0))) (mBin gIx (mVar 1) (mD true (.int 0)))), (mBin gMul (mBin gIx (mVar 0) (mD true (.int 1))) (mBin gIx (mVar 1) (mD true (.int 1))))]))) sNext)
theorem sc_f_times : FnScope ["one", "other"] ["one", "other"] (defScope (topS 14)) := ⟨rfl, rfl, rfl, by decide +kernel, rfl, by decide +kernel, by decide +kernel⟩
theorem eq_f_times : f_times = semF (["one", "other"] : List Str).length (denSs G6 ["one", "other"] ⟨[], false⟩ (defScope (topS 14)) 60 (defBody (topS 14))) := by kernel_rfl
theorem bd_f_times : BindD "times" (topS 14) ["one", "other"] := fun _ _ _ _ _ _ us hl => match us, hl with | [_, _], _ => rfl
noncomputable def G7 : GE := { G6 with fn := ("times", ⟨["one", "other"], f_times, []⟩) :: G6.fn }
noncomputable def f_is_below : Fd := semF 2 (sSeq (sRet (mBin gLt (mBin gMul (mBin gIx (mVar 0) (mD true (.int 0))) (mBin gIx (mVar 1) (mD true (.int 1)))) (mBin gMul (mBin gIx (mVar 1) (mD true (.int 0))) (mBin gIx (mVar 0) (mD true (.int 1)))))) sNext)
theorem sc_f_is_below : FnScope ["one", "other"] ["one", "other"] (defScope (topS 15)) := ⟨rfl, rfl, rfl, by decide +kernel, rfl, by decide +kernel, by decide +kernel⟩
theorem eq_f_is_below : f_is_below = semF (["one", "other"] : List Str).length (denSs G7 ["one", "other"] ⟨[], false⟩ (defScope (topS 15)) 60 (defBody (topS 15))) := by kernel_rfl
theorem bd_f_is_below : BindD "is_below" (topS 15) ["one", "other"] := fun _ _ _ _ _ _ us hl => match us, hl with | [_, _], _ => rfl
noncomputable def G8 : GE := { G7 with fn := ("is_below", ⟨["one", "other"], f_is_below, []⟩) :: G7.fn }
noncomputable def f_greater : Fd := semF 2 (sSeq (sRet (mIf (tB1 (mCall 2 f_is_below (mArgs [(mVar 0), (mVar 1)]))) (mVar 1) (mVar 0))) sNext)
theorem sc_f_greater : FnScope ["one", "other"] ["one", "other"] (defScope (topS 16)) := ⟨rfl, rfl, rfl, by decide +kernel, rfl, by decide +kernel, by decide +kernel⟩
theorem eq_f_greater : f_greater = semF (["one", "other"] : List Str).length (denSs G8 ["one", "other"] ⟨[], false⟩ (defScope (topS 16)) 60 (defBody (topS 16))) := by kernel_rfl
theorem bd_f_greater : BindD "greater" (topS 16) ["one", "other"] := fun _ _ _ _ _ _ us hl => match us, hl with | [_, _], _ => rfl
noncomputable def G9 : GE := { G8 with fn := ("greater", ⟨["one", "other"], f_greater, []⟩) :: G8.fn }
noncomputable def f_total : Fd := semF 3 (sSeq (sSet 1 (mD false (.tuple [.int 0, .int 1]))) (sSeq (sFor (mItems (mVar 0)) (gNm 2) (sSeq (sSet 1 (mCall 2 f_add (mArgs [(mVar 1), (mVar 2)]))) sNext)) (sSeq (sRet (mVar 1)) sNext)))
theorem sc_f_total : FnScope ["some", "found", "one"] ["some"] (defScope (topS 17)) := ⟨rfl, rfl, rfl, by decide +kernel, rfl, by decide +kernel, by decide +kernel⟩
theorem eq_f_total : f_total = semF (["some", "found", "one"] : List Str).length (denSs G9 ["some", "found", "one"] ⟨[], false⟩ (defScope (topS 17)) 60 (defBody (topS 17))) := by kernel_rfl
theorem bd_f_total : BindD "total" (topS 17) ["some"] := fun _ _ _ _ _ _ us hl => match us, hl with | [_], _ => rfl
noncomputable def G10 : GE := { G9 with fn := ("total", ⟨["some"], f_total, []⟩) :: G9.fn }
noncomputable def f_is_chance : Fd := semF 1 (sSeq (sRet (mAnd (mCall 1 f_is_fraction (mArgs [(mVar 0)])) (mChain gLe gLe (mD true (.int 0)) (mBin gIx (mVar 0) (mD true (.int 0))) (mBin gIx (mVar 0) (mD true (.int 1)))))) sNext)
theorem sc_f_is_chance : FnScope ["value"] ["value"] (defScope (topS 18)) := ⟨rfl, rfl, rfl, by decide +kernel, rfl, by decide +kernel, by decide +kernel⟩
theorem eq_f_is_chance : f_is_chance = semF (["value"] : List Str).length (denSs G10 ["value"] ⟨[], false⟩ (defScope (topS 18)) 60 (defBody (topS 18))) := by kernel_rfl
theorem bd_f_is_chance : BindD "is_chance" (topS 18) ["value"] := fun _ _ _ _ _ _ us hl => match us, hl with | [_], _ => rfl
noncomputable def G11 : GE := { G10 with fn := ("is_chance", ⟨["value"], f_is_chance, []⟩) :: G10.fn }
noncomputable def f_are_rising : Fd := semF 2 (sSeq (sRet (mFn bAll (mArgs [(mOld (mLc (mRange1 (mArgs [(mBin gSub (mFn bLen (mArgs [(mVar 0)])) (mD true (.int 1)))])) (gNm 1) tTrue (mCall 2 f_is_below (mArgs [(mBin gIx (mVar 0) (mVar 1)), (mBin gIx (mVar 0) (mBin gAdd (mVar 1) (mD true (.int 1))))])) [1]))]))) sNext)
theorem sc_f_are_rising : FnScope ["numbers", "index"] ["numbers"] (defScope (topS 19)) := ⟨rfl, rfl, rfl, by decide +kernel, rfl, by decide +kernel, by decide +kernel⟩
theorem eq_f_are_rising : f_are_rising = semF (["numbers", "index"] : List Str).length (denSs G11 ["numbers", "index"] ⟨[], false⟩ (defScope (topS 19)) 60 (defBody (topS 19))) := by kernel_rfl
theorem bd_f_are_rising : BindD "are_rising" (topS 19) ["numbers"] := fun _ _ _ _ _ _ us hl => match us, hl with | [_], _ => rfl
noncomputable def G12 : GE := { G11 with fn := ("are_rising", ⟨["numbers"], f_are_rising, []⟩) :: G11.fn }
noncomputable def f_is_pair : Fd := semF 1 (sSeq (sIf (tOr' (tNot' (tB1 (mUn (gIsi "tuple") (mVar 0)))) (tB1 (mBin gNe (mFn bLen (mArgs [(mVar 0)])) (mD true (.int 2))))) (sSeq (sRet (mD true (.bool false))) sNext) sNext) (sSeq (sRet (mAnd (mCall 1 f_is_fraction (mArgs [(mBin gIx (mVar 0) (mD true (.int 0)))])) (mAnd (mCall 1 f_is_chance (mArgs [(mBin gIx (mVar 0) (mD true (.int 1)))])) (mBin gGt (mBin gIx (mBin gIx (mVar 0) (mD true (.int 1))) (mD true (.int 0))) (mD true (.int 0)))))) sNext))
theorem sc_f_is_pair : FnScope ["value"] ["value"] (defScope (topS 23)) := ⟨rfl, rfl, rfl, by decide +kernel, rfl, by decide +kernel, by decide +kernel⟩
theorem eq_f_is_pair : f_is_pair = semF (["value"] : List Str).length (denSs G12 ["value"] ⟨[], false⟩ (defScope (topS 23)) 60 (defBody (topS 23))) := by kernel_rfl
theorem bd_f_is_pair : BindD "is_pair" (topS 23) ["value"] := fun _ _ _ _ _ _ us hl => match us, hl with | [_], _ => rfl
noncomputable def G13 : GE := { G12 with fn := ("is_pair", ⟨["value"], f_is_pair, []⟩) :: G12.fn }
noncomputable def f_is_draw : Fd := semF 2 (sSeq (sIf (tOr' (tNot' (tB1 (mUn (gIsi "tuple") (mVar 0)))) (tNot' (tB1 (mChain gLe gLe (mD true (.int 1)) (mFn bLen (mArgs [(mVar 0)])) (mD true (.int 64)))))) (sSeq (sRet (mD true (.bool false))) sNext) sNext) (sSeq (sIf (tOr' (tNot' (tB1 (mFn bAll (mArgs [(mOld (mLc (mItems (mVar 0)) (gNm 1) tTrue (mCall 1 f_is_pair (mArgs [(mVar 1)])) [1]))])))) (tNot' (tB1 (mCall 1 f_are_rising (mArgs [(mOld (mLc (mItems (mVar 0)) (gNm 1) tTrue (mBin gIx (mVar 1) (mD true (.int 0))) [1]))]))))) (sSeq (sRet (mD true (.bool false))) sNext) sNext) (sSeq (sRet (mBin gEq (mCall 1 f_total (mArgs [(mOld (mLc (mItems (mVar 0)) (gNm 1) tTrue (mBin gIx (mVar 1) (mD true (.int 1))) [1]))])) (mD false (.tuple [.int 1, .int 1])))) sNext)))
theorem sc_f_is_draw : FnScope ["value", "pair"] ["value"] (defScope (topS 24)) := ⟨rfl, rfl, rfl, by decide +kernel, rfl, by decide +kernel, by decide +kernel⟩
theorem eq_f_is_draw : f_is_draw = semF (["value", "pair"] : List Str).length (denSs G13 ["value", "pair"] ⟨[], false⟩ (defScope (topS 24)) 60 (defBody (topS 24))) := by kernel_rfl
theorem bd_f_is_draw : BindD "is_draw" (topS 24) ["value"] := fun _ _ _ _ _ _ us hl => match us, hl with | [_], _ => rfl
noncomputable def G14 : GE := { G13 with fn := ("is_draw", ⟨["value"], f_is_draw, []⟩) :: G13.fn }
noncomputable def f_check_draw : Fd := semF 1 (sSeq (sIf (tNot' (tB1 (mCall 1 f_is_draw (mArgs [(mVar 0)])))) (sSeq sNo sNext) sNext) sNext)
theorem sc_f_check_draw : FnScope ["draw"] ["draw"] (defScope (topS 25)) := ⟨rfl, rfl, rfl, by decide +kernel, rfl, by decide +kernel, by decide +kernel⟩
theorem eq_f_check_draw : f_check_draw = semF (["draw"] : List Str).length (denSs G14 ["draw"] ⟨[], false⟩ (defScope (topS 25)) 60 (defBody (topS 25))) := by kernel_rfl
theorem bd_f_check_draw : BindD "check_draw" (topS 25) ["draw"] := fun _ _ _ _ _ _ us hl => match us, hl with | [_], _ => rfl
noncomputable def G15 : GE := { G14 with fn := ("check_draw", ⟨["draw"], f_check_draw, []⟩) :: G14.fn }
noncomputable def f_check_number : Fd := semF 1 (sSeq (sIf (tNot' (tB1 (mCall 1 f_is_fraction (mArgs [(mVar 0)])))) (sSeq sNo sNext) sNext) sNext)
theorem sc_f_check_number : FnScope ["number"] ["number"] (defScope (topS 26)) := ⟨rfl, rfl, rfl, by decide +kernel, rfl, by decide +kernel, by decide +kernel⟩
theorem eq_f_check_number : f_check_number = semF (["number"] : List Str).length (denSs G15 ["number"] ⟨[], false⟩ (defScope (topS 26)) 60 (defBody (topS 26))) := by kernel_rfl
theorem bd_f_check_number : BindD "check_number" (topS 26) ["number"] := fun _ _ _ _ _ _ us hl => match us, hl with | [_], _ => rfl
noncomputable def G16 : GE := { G15 with fn := ("check_number", ⟨["number"], f_check_number, []⟩) :: G15.fn }
noncomputable def f_are_draws : Fd := semF 2 (sSeq (sIf (tOr' (tNot' (tB1 (mUn (gIsi "tuple") (mVar 0)))) (tNot' (tB1 (mChain gLe gLe (mD true (.int 1)) (mFn bLen (mArgs [(mVar 0)])) (mD true (.int 6)))))) (sSeq (sRet (mD true (.bool false))) sNext) sNext) (sSeq (sRet (mFn bAll (mArgs [(mOld (mLc (mItems (mVar 0)) (gNm 1) tTrue (mCall 1 f_is_draw (mArgs [(mVar 1)])) [1]))]))) sNext))
theorem sc_f_are_draws : FnScope ["value", "draw"] ["value"] (defScope (topS 27)) := ⟨rfl, rfl, rfl, by decide +kernel, rfl, by decide +kernel, by decide +kernel⟩
theorem eq_f_are_draws : f_are_draws = semF (["value", "draw"] : List Str).length (denSs G16 ["value", "draw"] ⟨[], false⟩ (defScope (topS 27)) 60 (defBody (topS 27))) := by kernel_rfl
theorem bd_f_are_draws : BindD "are_draws" (topS 27) ["value"] := fun _ _ _ _ _ _ us hl => match us, hl with | [_], _ => rfl
noncomputable def G17 : GE := { G16 with fn := ("are_draws", ⟨["value"], f_are_draws, []⟩) :: G16.fn }
noncomputable def f_weighed : Fd := semF 2 (sSeq (sRet (mCall 2 f_times (mArgs [(mVar 0), (mVar 1)]))) sNext)
theorem sc_f_weighed : FnScope ["number", "chance"] ["number", "chance"] (defScope (topS 28)) := ⟨rfl, rfl, rfl, by decide +kernel, rfl, by decide +kernel, by decide +kernel⟩
theorem eq_f_weighed : f_weighed = semF (["number", "chance"] : List Str).length (denSs G17 ["number", "chance"] ⟨[], false⟩ (defScope (topS 28)) 60 (defBody (topS 28))) := by kernel_rfl
theorem bd_f_weighed : BindD "weighed" (topS 28) ["number", "chance"] := fun _ _ _ _ _ _ us hl => match us, hl with | [_, _], _ => rfl
noncomputable def G18 : GE := { G17 with fn := ("weighed", ⟨["number", "chance"], f_weighed, []⟩) :: G17.fn }
noncomputable def f_mean_of : Fd := semF 3 (sSeq (sRet (mCall 1 f_total (mArgs [(mOld (mLc (mItems (mVar 0)) (gTp (gsCons (gNm 1) (gsCons (gNm 2) gsNil))) tTrue (mCall 2 f_times (mArgs [(mVar 1), (mVar 2)])) [1, 2]))]))) sNext)
theorem sc_f_mean_of : FnScope ["draw", "number", "chance"] ["draw"] (defScope (topS 29)) := ⟨rfl, rfl, rfl, by decide +kernel, rfl, by decide +kernel, by decide +kernel⟩
theorem eq_f_mean_of : f_mean_of = semF (["draw", "number", "chance"] : List Str).length (denSs G18 ["draw", "number", "chance"] ⟨[], false⟩ (defScope (topS 29)) 60 (defBody (topS 29))) := by kernel_rfl
theorem bd_f_mean_of : BindD "mean_of" (topS 29) ["draw"] := fun _ _ _ _ _ _ us hl => match us, hl with | [_], _ => rfl
noncomputable def G19 : GE := { G18 with fn := ("mean_of", ⟨["draw"], f_mean_of, []⟩) :: G18.fn }
noncomputable def f_excess_of : Fd := semF 4 (sSeq (sRet (mCall 1 f_total (mArgs [(mOld (mLc (mItems (mVar 0)) (gTp (gsCons (gNm 2) (gsCons (gNm 3) gsNil))) tTrue (mCall 2 f_times (mArgs [(mCall 2 f_greater (mArgs [(mCall 2 f_less (mArgs [(mVar 2), (mVar 1)])), (mD false (.tuple [.int 0, .int 1]))])), (mVar 3)])) [2, 3]))]))) sNext)
theorem sc_f_excess_of : FnScope ["draw", "number", "one", "chance"] ["draw", "number"] (defScope (topS 30)) := ⟨rfl, rfl, rfl, by decide +kernel, rfl, by decide +kernel, by decide +kernel⟩
theorem eq_f_excess_of : f_excess_of = semF (["draw", "number", "one", "chance"] : List Str).length (denSs G19 ["draw", "number", "one", "chance"] ⟨[], false⟩ (defScope (topS 30)) 60 (defBody (topS 30))) := by kernel_rfl
theorem bd_f_excess_of : BindD "excess_of" (topS 30) ["draw", "number"] := fun _ _ _ _ _ _ us hl => match us, hl with | [_, _], _ => rfl
noncomputable def G20 : GE := { G19 with fn := ("excess_of", ⟨["draw", "number"], f_excess_of, []⟩) :: G19.fn }
noncomputable def f_mean : Fd := semF 1 (sSeq (sDrop (mCall 1 f_check_draw (mArgs [(mVar 0)]))) (sSeq (sRet (mCall 1 f_mean_of (mArgs [(mVar 0)]))) sNext))
theorem sc_f_mean : FnScope ["draw"] ["draw"] (defScope (topS 31)) := ⟨rfl, rfl, rfl, by decide +kernel, rfl, by decide +kernel, by decide +kernel⟩
theorem eq_f_mean : f_mean = semF (["draw"] : List Str).length (denSs G20 ["draw"] ⟨[], false⟩ (defScope (topS 31)) 60 (defBody (topS 31))) := by kernel_rfl
theorem bd_f_mean : BindD "mean" (topS 31) ["draw"] := fun _ _ _ _ _ _ us hl => match us, hl with | [_], _ => rfl
noncomputable def G21 : GE := { G20 with fn := ("mean", ⟨["draw"], f_mean, []⟩) :: G20.fn }
noncomputable def f_is_row : Fd := semF 1 (sSeq (sRet (mCall 1 f_are_draws (mArgs [(mVar 0)]))) sNext)
theorem sc_f_is_row : FnScope ["value"] ["value"] (defScope (topS 33)) := ⟨rfl, rfl, rfl, by decide +kernel, rfl, by decide +kernel, by decide +kernel⟩
theorem eq_f_is_row : f_is_row = semF (["value"] : List Str).length (denSs G21 ["value"] ⟨[], false⟩ (defScope (topS 33)) 60 (defBody (topS 33))) := by kernel_rfl
theorem bd_f_is_row : BindD "is_row" (topS 33) ["value"] := fun _ _ _ _ _ _ us hl => match us, hl with | [_], _ => rfl
noncomputable def G22 : GE := { G21 with fn := ("is_row", ⟨["value"], f_is_row, []⟩) :: G21.fn }
noncomputable def f_check_row : Fd := semF 1 (sSeq (sIf (tNot' (tB1 (mCall 1 f_is_row (mArgs [(mVar 0)])))) (sSeq sNo sNext) sNext) sNext)
theorem sc_f_check_row : FnScope ["row"] ["row"] (defScope (topS 34)) := ⟨rfl, rfl, rfl, by decide +kernel, rfl, by decide +kernel, by decide +kernel⟩
theorem eq_f_check_row : f_check_row = semF (["row"] : List Str).length (denSs G22 ["row"] ⟨[], false⟩ (defScope (topS 34)) 60 (defBody (topS 34))) := by kernel_rfl
theorem bd_f_check_row : BindD "check_row" (topS 34) ["row"] := fun _ _ _ _ _ _ us hl => match us, hl with | [_], _ => rfl
noncomputable def G23 : GE := { G22 with fn := ("check_row", ⟨["row"], f_check_row, []⟩) :: G22.fn }
noncomputable def f_check_row_rest : Fd := semF 2 (sSeq (sDrop (mCall 1 f_check_row (mArgs [(mVar 0)]))) (sSeq (sDrop (mCall 1 f_check_number (mArgs [(mVar 1)]))) sNext))
theorem sc_f_check_row_rest : FnScope ["row", "rest"] ["row", "rest"] (defScope (topS 35)) := ⟨rfl, rfl, rfl, by decide +kernel, rfl, by decide +kernel, by decide +kernel⟩
theorem eq_f_check_row_rest : f_check_row_rest = semF (["row", "rest"] : List Str).length (denSs G23 ["row", "rest"] ⟨[], false⟩ (defScope (topS 35)) 60 (defBody (topS 35))) := by kernel_rfl
theorem bd_f_check_row_rest : BindD "check_row_rest" (topS 35) ["row", "rest"] := fun _ _ _ _ _ _ us hl => match us, hl with | [_, _], _ => rfl
noncomputable def G24 : GE := { G23 with fn := ("check_row_rest", ⟨["row", "rest"], f_check_row_rest, []⟩) :: G23.fn }
noncomputable def f_worths_of : Fd := semF 4 (sSeq (sSet 2 (mNew (mLst (mArgs [(mVar 1)])))) (sSeq (sFor (mItems (mRevQ (mVar 0))) (gNm 3) (sSeq (sDrop (mApp (mVar 2) (mCall 2 f_add (mArgs [(mBin gIx (mVar 2) (mUn gNeg (mD true (.int 1)))), (mCall 2 f_excess_of (mArgs [(mVar 3), (mBin gIx (mVar 2) (mUn gNeg (mD true (.int 1))))]))])))) sNext)) (sSeq (sRet (mRevQ (mVar 2))) sNext)))
theorem sc_f_worths_of : FnScope ["row", "rest", "found", "draw"] ["row", "rest"] (defScope (topS 36)) := ⟨rfl, rfl, rfl, by decide +kernel, rfl, by decide +kernel, by decide +kernel⟩
theorem eq_f_worths_of : f_worths_of = semF (["row", "rest", "found", "draw"] : List Str).length (denSs G24 ["row", "rest", "found", "draw"] ⟨["found"], false⟩ (defScope (topS 36)) 60 (defBody (topS 36))) := by kernel_rfl
theorem bd_f_worths_of : BindD "worths_of" (topS 36) ["row", "rest"] := fun _ _ _ _ _ _ us hl => match us, hl with | [_, _], _ => rfl
noncomputable def G25 : GE := { G24 with fn := ("worths_of", ⟨["row", "rest"], f_worths_of, []⟩) :: G24.fn }
noncomputable def f_worths_behind : Fd := semF 2 (sSeq (sRet (mFn bTuple (mArgs [(mCall 2 f_worths_of (mArgs [(mVar 0), (mVar 1)]))]))) sNext)
theorem sc_f_worths_behind : FnScope ["row", "rest"] ["row", "rest"] (defScope (topS 37)) := ⟨rfl, rfl, rfl, by decide +kernel, rfl, by decide +kernel, by decide +kernel⟩
theorem eq_f_worths_behind : f_worths_behind = semF (["row", "rest"] : List Str).length (denSs G25 ["row", "rest"] ⟨[], false⟩ (defScope (topS 37)) 60 (defBody (topS 37))) := by kernel_rfl
theorem bd_f_worths_behind : BindD "worths_behind" (topS 37) ["row", "rest"] := fun _ _ _ _ _ _ us hl => match us, hl with | [_, _], _ => rfl
noncomputable def G26 : GE := { G25 with fn := ("worths_behind", ⟨["row", "rest"], f_worths_behind, []⟩) :: G25.fn }
noncomputable def f_worths_from : Fd := semF 2 (sSeq (sDrop (mCall 2 f_check_row_rest (mArgs [(mVar 0), (mVar 1)]))) (sSeq (sRet (mCall 2 f_worths_behind (mArgs [(mVar 0), (mVar 1)]))) sNext))
theorem sc_f_worths_from : FnScope ["row", "rest"] ["row", "rest"] (defScope (topS 38)) := ⟨rfl, rfl, rfl, by decide +kernel, rfl, by decide +kernel, by decide +kernel⟩
theorem eq_f_worths_from : f_worths_from = semF (["row", "rest"] : List Str).length (denSs G26 ["row", "rest"] ⟨[], false⟩ (defScope (topS 38)) 60 (defBody (topS 38))) := by kernel_rfl
theorem bd_f_worths_from : BindD "worths_from" (topS 38) ["row", "rest"] := fun _ _ _ _ _ _ us hl => match us, hl with | [_, _], _ => rfl
noncomputable def G27 : GE := { G26 with fn := ("worths_from", ⟨["row", "rest"], f_worths_from, []⟩) :: G26.fn }
noncomputable def f_bar_worth : Fd := semF 9 (sSeq (sDrop (mCall 2 f_check_row_rest (mArgs [(mVar 0), (mVar 1)]))) (sSeq (sDrop (mCall 1 f_check_number (mArgs [(mVar 2)]))) (sSeq (sPar 3 4 (mArgs [(mD false (.tuple [.int 0, .int 1])), (mD false (.tuple [.int 1, .int 1]))])) (sSeq (sFor (mItems (mVar 0)) (gNm 5) (sSeq (sSet 6 (mOld (mLc (mItems (mVar 5)) (gTp (gsCons (gNm 7) (gsCons (gNm 8) gsNil))) (tNot' (tB1 (mCall 2 f_is_below (mArgs [(mVar 7), (mVar 2)])))) (mTup (mArgs [(mVar 7), (mVar 8)])) [7, 8]))) (sSeq (sSet 3 (mCall 2 f_add (mArgs [(mVar 3), (mCall 2 f_weighed (mArgs [(mVar 4), (mCall 1 f_total (mArgs [(mOld (mLc (mItems (mVar 6)) (gTp (gsCons (gNm 7) (gsCons (gNm 8) gsNil))) tTrue (mCall 2 f_weighed (mArgs [(mVar 7), (mVar 8)])) [7, 8]))]))]))]))) (sSeq (sSet 4 (mCall 2 f_weighed (mArgs [(mVar 4), (mCall 2 f_less (mArgs [(mD false (.tuple [.int 1, .int 1])), (mCall 1 f_total (mArgs [(mOld (mLc (mItems (mVar 6)) (gTp (gsCons (gNm 7) (gsCons (gNm 8) gsNil))) tTrue (mVar 8) [7, 8]))]))]))]))) sNext)))) (sSeq (sRet (mCall 2 f_add (mArgs [(mVar 3), (mCall 2 f_weighed (mArgs [(mVar 4), (mVar 1)]))]))) sNext)))))
theorem sc_f_bar_worth : FnScope ["row", "rest", "bar", "found", "chance", "draw", "high", "number", "one"] ["row", "rest", "bar"] (defScope (topS 39)) := ⟨rfl, rfl, rfl, by decide +kernel, rfl, by decide +kernel, by decide +kernel⟩
theorem eq_f_bar_worth : f_bar_worth = semF (["row", "rest", "bar", "found", "chance", "draw", "high", "number", "one"] : List Str).length (denSs G27 ["row", "rest", "bar", "found", "chance", "draw", "high", "number", "one"] ⟨[], false⟩ (defScope (topS 39)) 60 (defBody (topS 39))) := by kernel_rfl
theorem bd_f_bar_worth : BindD "bar_worth" (topS 39) ["row", "rest", "bar"] := fun _ _ _ _ _ _ us hl => match us, hl with | [_, _, _], _ => rfl
theorem bk_f_bar_worth_0 : BindK "bar_worth" (topS 39) ["row", "rest", "bar"] ["bar", "rest", "row"] [2, 1, 0] := ⟨by decide, fun _ _ _ _ _ _ us ws h1 h2 => match us, ws, h1, h2 with | [], [_, _, _], _, _ => rfl⟩
noncomputable def G28 : GE := { G27 with fn := ("bar_worth", ⟨["row", "rest", "bar"], f_bar_worth, [(["bar", "rest", "row"], [2, 1, 0])]⟩) :: G27.fn }
noncomputable def f__law_flask : Fd := semF 5 (sSeq (sSet 2 (mIf (tB1 (mBin gLt (mVar 1) (mFn bLen (mArgs [(mVar 0)])))) (mFn bInt (mArgs [(mBin gIx (mVar 0) (mVar 1))])) (mBin gAdd (mBin gMul (mD true (.int 71)) (mVar 1)) (mD true (.int 29))))) (sSeq (sSet 3 (mBin gAdd (mD true (.int 80021)) (mBin gMul (mD true (.int 5009)) (mVar 1)))) (sSeq (sFor (mItems (mSl (mVar 0) (mPart none) (mPart (some (mD true (.int 6)))))) (gNm 4) (sSeq (sSet 3 (mBin gMod (mFn bInt (mArgs [(mBin gAdd (mBin gMul (mVar 3) (mD true (.int 32009))) (mFn bInt (mArgs [(mVar 4)])))])) (mD true (.int 2147482811)))) sNext)) (sSeq (sRetW (mNew (mLst (mArgs [(mBin gMod (mFn bInt (mArgs [(mBin gAdd (mVar 3) (mBin gMul (mVar 2) (mD true (.int 7013))))])) (mD true (.int 2147482811))), (mD true (.int 0)), (mIf (tOr' (tB1 (mBin gLt (mVar 2) (mD true (.int 0)))) (tB1 (mBin gGe (mVar 2) (mBin gPow (mD true (.int 10)) (mD true (.int 18)))))) (mFn bAbs (mArgs [(mVar 2)])) (mD true (.int 0)))])))) sNext))))
theorem sc_f__law_flask : FnScope ["_law_script", "_law_k", "_law_own", "_law_mixed", "_law_entry_here"] ["_law_script", "_law_k"] (defScope (topS 41)) := ⟨rfl, rfl, rfl, by decide +kernel, rfl, by decide +kernel, by decide +kernel⟩
theorem eq_f__law_flask : f__law_flask = semF (["_law_script", "_law_k", "_law_own", "_law_mixed", "_law_entry_here"] : List Str).length (denSs G28 ["_law_script", "_law_k", "_law_own", "_law_mixed", "_law_entry_here"] ⟨[], true⟩ (defScope (topS 41)) 60 (defBody (topS 41))) := by kernel_rfl
theorem bd_f__law_flask : BindD "_law_flask" (topS 41) ["_law_script", "_law_k"] := fun _ _ _ _ _ _ us hl => match us, hl with | [_, _], _ => rfl
noncomputable def G29 : GE := { G28 with fn := ("_law_flask", ⟨["_law_script", "_law_k"], f__law_flask, []⟩) :: G28.fn }
noncomputable def f__law_pour : Fd := semF 5 (sSeq (sSub (mVar 0) (mD true (.int 1)) (mBin gAdd (mBin gIx (mVar 0) (mD true (.int 1))) (mD true (.int 1)))) (sSeq (sIf (tB1 (mBin gGt (mBin gIx (mVar 0) (mD true (.int 2))) (mD true (.int 0)))) (sSeq (sSubNm (mVar 0) (mD true (.int 2)) 2 (mFn bDivmod (mArgs [(mFn bInt (mArgs [(mBin gIx (mVar 0) (mD true (.int 2)))])), (mVar 1)]))) (sSeq (sRet (mVar 2)) sNext)) sNext) (sSeq (sSet 3 (mFn bInt (mArgs [(mBin gIx (mVar 0) (mD true (.int 0)))]))) (sSeq (sSet 4 (mBin gAdd (mBin gMod (mFn bInt (mArgs [(mVar 3)])) (mD true (.int 17011))) (mD true (.int 61001)))) (sSeq (sSub (mVar 0) (mD true (.int 0)) (mBin gMod (mFn bInt (mArgs [(mBin gAdd (mBin gAdd (mBin gMul (mVar 3) (mVar 4)) (mBin gMul (mD true (.int 70001)) (mBin gIx (mVar 0) (mD true (.int 1))))) (mD true (.int 17)))])) (mD true (.int 2147482811)))) (sSeq (sRet (mBin gMod (mFn bInt (mArgs [(mBin gFdiv (mBin gIx (mVar 0) (mD true (.int 0))) (mD true (.int 4099)))])) (mVar 1))) sNext))))))
theorem sc_f__law_pour : FnScope ["_law_flask_here", "_law_top", "_law_digit", "_law_level_here", "_law_factor"] ["_law_flask_here", "_law_top"] (defScope (topS 42)) := ⟨rfl, rfl, rfl, by decide +kernel, rfl, by decide +kernel, by decide +kernel⟩
theorem eq_f__law_pour : f__law_pour = semF (["_law_flask_here", "_law_top", "_law_digit", "_law_level_here", "_law_factor"] : List Str).length (denSs G29 ["_law_flask_here", "_law_top", "_law_digit", "_law_level_here", "_law_factor"] ⟨[], false⟩ (defScope (topS 42)) 60 (defBody (topS 42))) := by kernel_rfl
theorem bd_f__law_pour : BindD "_law_pour" (topS 42) ["_law_flask_here", "_law_top"] := fun _ _ _ _ _ _ us hl => match us, hl with | [_, _], _ => rfl
noncomputable def G30 : GE := { G29 with fn := ("_law_pour", ⟨["_law_flask_here", "_law_top"], f__law_pour, []⟩) :: G29.fn }
noncomputable def f__law_pick : Fd := semF 2 (sSeq (sRet (mBin gIx (mVar 1) (mCall 2 f__law_pour (mArgs [(mVar 0), (mFn bLen (mArgs [(mVar 1)]))])))) sNext)
theorem sc_f__law_pick : FnScope ["_law_flask_here", "_law_some"] ["_law_flask_here", "_law_some"] (defScope (topS 43)) := ⟨rfl, rfl, rfl, by decide +kernel, rfl, by decide +kernel, by decide +kernel⟩
theorem eq_f__law_pick : f__law_pick = semF (["_law_flask_here", "_law_some"] : List Str).length (denSs G30 ["_law_flask_here", "_law_some"] ⟨[], false⟩ (defScope (topS 43)) 60 (defBody (topS 43))) := by kernel_rfl
theorem bd_f__law_pick : BindD "_law_pick" (topS 43) ["_law_flask_here", "_law_some"] := fun _ _ _ _ _ _ us hl => match us, hl with | [_, _], _ => rfl
noncomputable def G31 : GE := { G30 with fn := ("_law_pick", ⟨["_law_flask_here", "_law_some"], f__law_pick, []⟩) :: G30.fn }
noncomputable def f__law_low : Fd := semF 5 (sSeq (sPar 2 3 (mArgs [(mFn bAbs (mArgs [(mVar 0)])), (mVar 1)])) (sSeq (sFor (mRange1 (mArgs [(mD true (.int 2000))])) (gNm 4) (sSeq (sIf (tB1 (mBin gEq (mVar 3) (mD true (.int 0)))) (sSeq sBreak sNext) sNext) (sSeq (sPar 2 3 (mArgs [(mVar 3), (mBin gMod (mFn bInt (mArgs [(mVar 2)])) (mVar 3))])) sNext))) (sSeq (sRet (mTup (mArgs [(mBin gFdiv (mVar 0) (mVar 2)), (mBin gFdiv (mVar 1) (mVar 2))]))) sNext)))
theorem sc_f__law_low : FnScope ["_law_top", "_law_bottom", "_law_one", "_law_two", "_law_turn"] ["_law_top", "_law_bottom"] (defScope (topS 44)) := ⟨rfl, rfl, rfl, by decide +kernel, rfl, by decide +kernel, by decide +kernel⟩
theorem eq_f__law_low : f__law_low = semF (["_law_top", "_law_bottom", "_law_one", "_law_two", "_law_turn"] : List Str).length (denSs G31 ["_law_top", "_law_bottom", "_law_one", "_law_two", "_law_turn"] ⟨[], false⟩ (defScope (topS 44)) 60 (defBody (topS 44))) := by kernel_rfl
theorem bd_f__law_low : BindD "_law_low" (topS 44) ["_law_top", "_law_bottom"] := fun _ _ _ _ _ _ us hl => match us, hl with | [_, _], _ => rfl
noncomputable def G32 : GE := { G31 with fn := ("_law_low", ⟨["_law_top", "_law_bottom"], f__law_low, []⟩) :: G31.fn }
noncomputable def f__law_plus : Fd := semF 2 (sSeq (sRet (mCall 2 f__law_low (mArgs [(mBin gAdd (mBin gMul (mBin gIx (mVar 0) (mD true (.int 0))) (mBin gIx (mVar 1) (mD true (.int 1)))) (mBin gMul (mBin gIx (mVar 1) (mD true (.int 0))) (mBin gIx (mVar 0) (mD true (.int 1))))), (mBin gMul (mBin gIx (mVar 0) (mD true (.int 1))) (mBin gIx (mVar 1) (mD true (.int 1))))]))) sNext)
theorem sc_f__law_plus : FnScope ["_law_one", "_law_other"] ["_law_one", "_law_other"] (defScope (topS 45)) := ⟨rfl, rfl, rfl, by decide +kernel, rfl, by decide +kernel, by decide +kernel⟩
theorem eq_f__law_plus : f__law_plus = semF (["_law_one", "_law_other"] : List Str).length (denSs G32 ["_law_one", "_law_other"] ⟨[], false⟩ (defScope (topS 45)) 60 (defBody (topS 45))) := by kernel_rfl
theorem bd_f__law_plus : BindD "_law_plus" (topS 45) ["_law_one", "_law_other"] := fun _ _ _ _ _ _ us hl => match us, hl with | [_, _], _ => rfl
noncomputable def G33 : GE := { G32 with fn := ("_law_plus", ⟨["_law_one", "_law_other"], f__law_plus, []⟩) :: G32.fn }
noncomputable def f__law_times : Fd := semF 2 (sSeq (sRet (mCall 2 f__law_low (mArgs [(mBin gMul (mBin gIx (mVar 0) (mD true (.int 0))) (mBin gIx (mVar 1) (mD true (.int 0)))), (mBin gMul (mBin gIx (mVar 0) (mD true (.int 1))) (mBin gIx (mVar 1) (mD true (.int 1))))]))) sNext)
theorem sc_f__law_times : FnScope ["_law_one", "_law_other"] ["_law_one", "_law_other"] (defScope (topS 46)) := ⟨rfl, rfl, rfl, by decide +kernel, rfl, by decide +kernel, by decide +kernel⟩
theorem eq_f__law_times : f__law_times = semF (["_law_one", "_law_other"] : List Str).length (denSs G33 ["_law_one", "_law_other"] ⟨[], false⟩ (defScope (topS 46)) 60 (defBody (topS 46))) := by kernel_rfl
theorem bd_f__law_times : BindD "_law_times" (topS 46) ["_law_one", "_law_other"] := fun _ _ _ _ _ _ us hl => match us, hl with | [_, _], _ => rfl
noncomputable def G34 : GE := { G33 with fn := ("_law_times", ⟨["_law_one", "_law_other"], f__law_times, []⟩) :: G33.fn }
noncomputable def f__law_below : Fd := semF 2 (sSeq (sRet (mBin gLt (mBin gMul (mBin gIx (mVar 0) (mD true (.int 0))) (mBin gIx (mVar 1) (mD true (.int 1)))) (mBin gMul (mBin gIx (mVar 1) (mD true (.int 0))) (mBin gIx (mVar 0) (mD true (.int 1)))))) sNext)
theorem sc_f__law_below : FnScope ["_law_one", "_law_other"] ["_law_one", "_law_other"] (defScope (topS 47)) := ⟨rfl, rfl, rfl, by decide +kernel, rfl, by decide +kernel, by decide +kernel⟩
theorem eq_f__law_below : f__law_below = semF (["_law_one", "_law_other"] : List Str).length (denSs G34 ["_law_one", "_law_other"] ⟨[], false⟩ (defScope (topS 47)) 60 (defBody (topS 47))) := by kernel_rfl
theorem bd_f__law_below : BindD "_law_below" (topS 47) ["_law_one", "_law_other"] := fun _ _ _ _ _ _ us hl => match us, hl with | [_, _], _ => rfl
noncomputable def G35 : GE := { G34 with fn := ("_law_below", ⟨["_law_one", "_law_other"], f__law_below, []⟩) :: G34.fn }
noncomputable def f__law_sum : Fd := semF 3 (sSeq (sSet 1 (mTup (mArgs [(mD true (.int 0)), (mD true (.int 1))]))) (sSeq (sFor (mItems (mVar 0)) (gNm 2) (sSeq (sSet 1 (mCall 2 f__law_plus (mArgs [(mVar 1), (mVar 2)]))) sNext)) (sSeq (sRet (mVar 1)) sNext)))
theorem sc_f__law_sum : FnScope ["_law_some", "_law_found", "_law_each"] ["_law_some"] (defScope (topS 48)) := ⟨rfl, rfl, rfl, by decide +kernel, rfl, by decide +kernel, by decide +kernel⟩
theorem eq_f__law_sum : f__law_sum = semF (["_law_some", "_law_found", "_law_each"] : List Str).length (denSs G35 ["_law_some", "_law_found", "_law_each"] ⟨[], false⟩ (defScope (topS 48)) 60 (defBody (topS 48))) := by kernel_rfl
theorem bd_f__law_sum : BindD "_law_sum" (topS 48) ["_law_some"] := fun _ _ _ _ _ _ us hl => match us, hl with | [_], _ => rfl
noncomputable def G36 : GE := { G35 with fn := ("_law_sum", ⟨["_law_some"], f__law_sum, []⟩) :: G35.fn }
noncomputable def f__law_draw : Fd := semF 10 (sSeq (sSet 3 (mOld (mLc (mItems (mOld (mLst (mArgs [(mUn gNeg (mD true (.int 15))), (mUn gNeg (mD true (.int 6))), (mD true (.int 0)), (mD true (.int 0)), (mD true (.int 3)), (mD true (.int 6)), (mD true (.int 8)), (mD true (.int 12)), (mD true (.int 18)), (mD true (.int 21)), (mD true (.int 30)), (mD true (.int 54))])))) (gNm 7) (tB1 (mBin gGe (mVar 7) (mVar 2))) (mVar 7) [7]))) (sSeq (sSet 4 (mOld (mSortSet (mOld (mLc (mRange1 (mArgs [(mBin gAdd (mD true (.int 1)) (mCall 2 f__law_pour (mArgs [(mVar 0), (mVar 1)])))])) (gNm 8) tTrue (mCall 2 f__law_pick (mArgs [(mVar 0), (mVar 3)])) [8]))))) (sSeq (sSet 5 (mOld (mLst (mArgs [(mOld (mLst (mArgs [(mOld (mLst (mArgs [(mD true (.int 12))])))]))), (mOld (mLst (mArgs [(mOld (mLst (mArgs [(mD true (.int 6)), (mD true (.int 6))]))), (mOld (mLst (mArgs [(mD true (.int 4)), (mD true (.int 8))]))), (mOld (mLst (mArgs [(mD true (.int 9)), (mD true (.int 3))])))]))), (mOld (mLst (mArgs [(mOld (mLst (mArgs [(mD true (.int 4)), (mD true (.int 4)), (mD true (.int 4))]))), (mOld (mLst (mArgs [(mD true (.int 6)), (mD true (.int 3)), (mD true (.int 3))]))), (mOld (mLst (mArgs [(mD true (.int 2)), (mD true (.int 4)), (mD true (.int 6))])))])))])))) (sSeq (sSet 6 (mCall 2 f__law_pick (mArgs [(mVar 0), (mBin gIx (mVar 5) (mBin gSub (mFn bLen (mArgs [(mVar 4)])) (mD true (.int 1))))]))) (sSeq (sRet (mFn bTuple (mArgs [(mOld (mLc (mRange1 (mArgs [(mFn bLen (mArgs [(mVar 4)]))])) (gNm 9) tTrue (mTup (mArgs [(mCall 2 f__law_low (mArgs [(mBin gIx (mVar 4) (mVar 9)), (mD true (.int 6))])), (mCall 2 f__law_low (mArgs [(mBin gIx (mVar 6) (mVar 9)), (mD true (.int 12))]))])) [9]))]))) sNext)))))
theorem sc_f__law_draw : FnScope ["_law_flask_here", "_law_most", "_law_least", "_law_menu", "_law_found", "_law_parts", "_law_some", "_law_each", "_law_turn", "_law_k"] ["_law_flask_here", "_law_most", "_law_least"] (defScope (topS 49)) := ⟨rfl, rfl, rfl, by decide +kernel, rfl, by decide +kernel, by decide +kernel⟩
theorem eq_f__law_draw : f__law_draw = semF (["_law_flask_here", "_law_most", "_law_least", "_law_menu", "_law_found", "_law_parts", "_law_some", "_law_each", "_law_turn", "_law_k"] : List Str).length (denSs G36 ["_law_flask_here", "_law_most", "_law_least", "_law_menu", "_law_found", "_law_parts", "_law_some", "_law_each", "_law_turn", "_law_k"] ⟨[], false⟩ (defScope (topS 49)) 60 (defBody (topS 49))) := by kernel_rfl
theorem bd_f__law_draw : BindD "_law_draw" (topS 49) ["_law_flask_here", "_law_most", "_law_least"] := fun _ _ _ _ _ _ us hl => match us, hl with | [_, _, _], _ => rfl
noncomputable def G37 : GE := { G36 with fn := ("_law_draw", ⟨["_law_flask_here", "_law_most", "_law_least"], f__law_draw, []⟩) :: G36.fn }
noncomputable def f__law_row : Fd := semF 4 (sSeq (sRet (mFn bTuple (mArgs [(mOld (mLc (mRange1 (mArgs [(mBin gAdd (mD true (.int 1)) (mCall 2 f__law_pour (mArgs [(mVar 0), (mVar 1)])))])) (gNm 3) tTrue (mCall 3 f__law_draw (mArgs [(mVar 0), (mD true (.int 3)), (mVar 2)])) [3]))]))) sNext)
theorem sc_f__law_row : FnScope ["_law_flask_here", "_law_most", "_law_least", "_law_turn"] ["_law_flask_here", "_law_most", "_law_least"] (defScope (topS 50)) := ⟨rfl, rfl, rfl, by decide +kernel, rfl, by decide +kernel, by decide +kernel⟩
theorem eq_f__law_row : f__law_row = semF (["_law_flask_here", "_law_most", "_law_least", "_law_turn"] : List Str).length (denSs G37 ["_law_flask_here", "_law_most", "_law_least", "_law_turn"] ⟨[], false⟩ (defScope (topS 50)) 60 (defBody (topS 50))) := by kernel_rfl
theorem bd_f__law_row : BindD "_law_row" (topS 50) ["_law_flask_here", "_law_most", "_law_least"] := fun _ _ _ _ _ _ us hl => match us, hl with | [_, _, _], _ => rfl
noncomputable def G38 : GE := { G37 with fn := ("_law_row", ⟨["_law_flask_here", "_law_most", "_law_least"], f__law_row, []⟩) :: G37.fn }
noncomputable def f__law_rest : Fd := semF 1 (sSeq (sRet (mCall 2 f__law_pick (mArgs [(mVar 0), (mOld (mLst (mArgs [(mTup (mArgs [(mD true (.int 0)), (mD true (.int 1))])), (mTup (mArgs [(mD true (.int 0)), (mD true (.int 1))])), (mTup (mArgs [(mD true (.int 1)), (mD true (.int 1))])), (mTup (mArgs [(mD true (.int 5)), (mD true (.int 2))])), (mTup (mArgs [(mUn gNeg (mD true (.int 1))), (mD true (.int 1))])), (mTup (mArgs [(mD true (.int 7)), (mD true (.int 3))])), (mTup (mArgs [(mD true (.int 12)), (mD true (.int 1))]))])))]))) sNext)
theorem sc_f__law_rest : FnScope ["_law_flask_here"] ["_law_flask_here"] (defScope (topS 51)) := ⟨rfl, rfl, rfl, by decide +kernel, rfl, by decide +kernel, by decide +kernel⟩
theorem eq_f__law_rest : f__law_rest = semF (["_law_flask_here"] : List Str).length (denSs G38 ["_law_flask_here"] ⟨[], false⟩ (defScope (topS 51)) 60 (defBody (topS 51))) := by kernel_rfl
theorem bd_f__law_rest : BindD "_law_rest" (topS 51) ["_law_flask_here"] := fun _ _ _ _ _ _ us hl => match us, hl with | [_], _ => rfl
noncomputable def G39 : GE := { G38 with fn := ("_law_rest", ⟨["_law_flask_here"], f__law_rest, []⟩) :: G38.fn }
noncomputable def f__law_outcomes : Fd := semF 8 (sSeq (sSet 1 (mOld (mLst (mArgs [(mTup (mArgs [(mOld (mLst (mArgs []))), (mTup (mArgs [(mD true (.int 1)), (mD true (.int 1))]))]))])))) (sSeq (sFor (mItems (mVar 0)) (gNm 2) (sSeq (sSet 3 (mOld (mLst (mArgs [])))) (sSeq (sFor (mItems (mVar 1)) (gTp (gsCons (gNm 4) (gsCons (gNm 5) gsNil))) (sSeq (sSet 3 (mBin gAdd (mVar 3) (mOld (mLc (mItems (mVar 2)) (gTp (gsCons (gNm 6) (gsCons (gNm 7) gsNil))) tTrue (mTup (mArgs [(mBin gAdd (mVar 4) (mOld (mLst (mArgs [(mVar 6)])))), (mCall 2 f__law_times (mArgs [(mVar 5), (mVar 7)]))])) [6, 7])))) sNext)) (sSeq (sSet 1 (mVar 3)) sNext)))) (sSeq (sRet (mVar 1)) sNext)))
theorem sc_f__law_outcomes : FnScope ["_law_line", "_law_found", "_law_each", "_law_longer", "_law_seen", "_law_part", "_law_had", "_law_chance"] ["_law_line"] (defScope (topS 52)) := ⟨rfl, rfl, rfl, by decide +kernel, rfl, by decide +kernel, by decide +kernel⟩
theorem eq_f__law_outcomes : f__law_outcomes = semF (["_law_line", "_law_found", "_law_each", "_law_longer", "_law_seen", "_law_part", "_law_had", "_law_chance"] : List Str).length (denSs G39 ["_law_line", "_law_found", "_law_each", "_law_longer", "_law_seen", "_law_part", "_law_had", "_law_chance"] ⟨[], false⟩ (defScope (topS 52)) 60 (defBody (topS 52))) := by kernel_rfl
theorem bd_f__law_outcomes : BindD "_law_outcomes" (topS 52) ["_law_line"] := fun _ _ _ _ _ _ us hl => match us, hl with | [_], _ => rfl
noncomputable def G40 : GE := { G39 with fn := ("_law_outcomes", ⟨["_law_line"], f__law_outcomes, []⟩) :: G39.fn }
noncomputable def f__law_first : Fd := semF 5 (sSeq (sSet 3 (mOld (mLc (mItems (mVar 0)) (gNm 4) (tNot' (tB1 (mCall 2 f__law_below (mArgs [(mVar 4), (mVar 1)])))) (mVar 4) [4]))) (sSeq (sRet (mIf (tB1 (mBin gNe (mVar 3) (mOld (mLst (mArgs []))))) (mBin gIx (mVar 3) (mD true (.int 0))) (mVar 2))) sNext))
theorem sc_f__law_first : FnScope ["_law_seen", "_law_bar_here", "_law_last", "_law_some", "_law_had"] ["_law_seen", "_law_bar_here", "_law_last"] (defScope (topS 53)) := ⟨rfl, rfl, rfl, by decide +kernel, rfl, by decide +kernel, by decide +kernel⟩
theorem eq_f__law_first : f__law_first = semF (["_law_seen", "_law_bar_here", "_law_last", "_law_some", "_law_had"] : List Str).length (denSs G40 ["_law_seen", "_law_bar_here", "_law_last", "_law_some", "_law_had"] ⟨[], false⟩ (defScope (topS 53)) 60 (defBody (topS 53))) := by kernel_rfl
theorem bd_f__law_first : BindD "_law_first" (topS 53) ["_law_seen", "_law_bar_here", "_law_last"] := fun _ _ _ _ _ _ us hl => match us, hl with | [_, _, _], _ => rfl
noncomputable def G41 : GE := { G40 with fn := ("_law_first", ⟨["_law_seen", "_law_bar_here", "_law_last"], f__law_first, []⟩) :: G40.fn }
noncomputable def f__law_right : Fd := semF 19 (sSeq (sPar 1 2 (mArgs [(mCall 3 f__law_row (mArgs [(mVar 0), (mD true (.int 4)), (mUn gNeg (mD true (.int 99)))])), (mCall 1 f__law_rest (mArgs [(mVar 0)]))])) (sSeq (sPar 3 4 (mArgs [(mCall 1 f__law_outcomes (mArgs [(mVar 1)])), (mBin gIx (mCall 2 f_worths_from (mArgs [(mVar 1), (mVar 2)])) (mD true (.int 0)))])) (sSeq (sSet 5 (mOld (mLc (mRange1 (mArgs [(mD true (.int 2))])) (gNm 13) tTrue (mBin gIx (mCall 2 f__law_pick (mArgs [(mVar 0), (mCall 2 f__law_pick (mArgs [(mVar 0), (mVar 1)]))])) (mD true (.int 0))) [13]))) (sSeq (sSet 5 (mBin gAdd (mVar 5) (mOld (mLst (mArgs [(mTup (mArgs [(mUn gNeg (mD true (.int 100))), (mD true (.int 1))])), (mTup (mArgs [(mD true (.int 100)), (mD true (.int 1))])), (mCall 1 f__law_rest (mArgs [(mVar 0)])), (mCall 2 f__law_low (mArgs [(mCall 2 f__law_pour (mArgs [(mVar 0), (mD true (.int 50))])), (mD true (.int 7))]))]))))) (sSeq (sSet 6 (mOld (mLc (mItems (mVar 5)) (gNm 14) tTrue (mCall 3 f_bar_worth (mArgs [(mVar 1), (mVar 2), (mVar 14)])) [14]))) (sSeq (sFor (mRange1 (mArgs [(mFn bLen (mArgs [(mVar 5)]))])) (gNm 7) (sSeq (sSet 8 (mCall 1 f__law_sum (mArgs [(mOld (mLc (mItems (mVar 3)) (gTp (gsCons (gNm 15) (gsCons (gNm 16) gsNil))) tTrue (mCall 2 f__law_times (mArgs [(mVar 16), (mCall 3 f__law_first (mArgs [(mVar 15), (mBin gIx (mVar 5) (mVar 7)), (mVar 2)]))])) [15, 16]))]))) (sSeq (sIf (tOr' (tB1 (mBin gNe (mBin gIx (mVar 6) (mVar 7)) (mVar 8))) (tOr' (tB1 (mBin gNe (mCallK 3 0 3 [2, 1, 0] f_bar_worth (mArgs []) (mArgs [(mBin gIx (mVar 5) (mVar 7)), (mVar 2), (mVar 1)])) (mVar 8))) (tB1 (mCall 2 f__law_below (mArgs [(mVar 4), (mVar 8)]))))) (sSeq (sRet (mD true (.bool false))) sNext) sNext) sNext))) (sSeq (sIf (tOr' (tB1 (mBin gNe (mBin gIx (mVar 6) (mD true (.int 2))) (mCall 1 f_mean (mArgs [(mBin gIx (mVar 1) (mD true (.int 0)))])))) (tB1 (mBin gNe (mBin gIx (mVar 6) (mD true (.int 3))) (mVar 2)))) (sSeq (sRet (mD true (.bool false))) sNext) sNext) (sSeq (sSet 9 (mSl (mVar 1) (mPart none) (mPart (some (mD true (.int 1)))))) (sSeq (sSet 10 (mBin gAdd (mOld (mLc (mItems (mBin gIx (mVar 9) (mD true (.int 0)))) (gTp (gsCons (gNm 17) (gsCons (gNm 18) gsNil))) tTrue (mCall 3 f_bar_worth (mArgs [(mVar 9), (mVar 2), (mVar 17)])) [17, 18])) (mOld (mLst (mArgs [(mCall 3 f_bar_worth (mArgs [(mVar 9), (mVar 2), (mTup (mArgs [(mD true (.int 100)), (mD true (.int 1))]))]))]))))) (sSeq (sSet 11 (mBin gIx (mVar 10) (mD true (.int 0)))) (sSeq (sFor (mItems (mVar 10)) (gNm 12) (sSeq (sSet 11 (mIf (tB1 (mCall 2 f__law_below (mArgs [(mVar 11), (mVar 12)]))) (mVar 12) (mVar 11))) sNext)) (sSeq (sRet (mBin gEq (mVar 11) (mBin gIx (mCall 2 f_worths_from (mArgs [(mVar 9), (mVar 2)])) (mD true (.int 0))))) sNext))))))))))))
theorem sc_f__law_right : FnScope ["_law_flask_here", "_law_line", "_law_last", "_law_all_here", "_law_worth_here", "_law_some", "_law_told", "_law_k", "_law_due", "_law_one", "_law_best", "_law_top", "_law_each", "_law_turn", "_law_bar_here", "_law_seen", "_law_part", "_law_had", "_law_chance"] ["_law_flask_here"] (defScope (topS 54)) := ⟨rfl, rfl, rfl, by decide +kernel, rfl, by decide +kernel, by decide +kernel⟩
theorem eq_f__law_right : f__law_right = semF (["_law_flask_here", "_law_line", "_law_last", "_law_all_here", "_law_worth_here", "_law_some", "_law_told", "_law_k", "_law_due", "_law_one", "_law_best", "_law_top", "_law_each", "_law_turn", "_law_bar_here", "_law_seen", "_law_part", "_law_had", "_law_chance"] : List Str).length (denSs G41 ["_law_flask_here", "_law_line", "_law_last", "_law_all_here", "_law_worth_here", "_law_some", "_law_told", "_law_k", "_law_due", "_law_one", "_law_best", "_law_top", "_law_each", "_law_turn", "_law_bar_here", "_law_seen", "_law_part", "_law_had", "_law_chance"] ⟨[], false⟩ (defScope (topS 54)) 60 (defBody (topS 54))) := by kernel_rfl
theorem bd_f__law_right : BindD "_law_right" (topS 54) ["_law_flask_here"] := fun _ _ _ _ _ _ us hl => match us, hl with | [_], _ => rfl
noncomputable def G42 : GE := { G41 with fn := ("_law_right", ⟨["_law_flask_here"], f__law_right, []⟩) :: G41.fn }
noncomputable def f_law : Fd := semF 2 (sSeq (sRet (mFn bAll (mArgs [(mOld (mLc (mRange1 (mArgs [(mFn bMax (mArgs [(mD true (.int 2)), (mFn bMin (mArgs [(mFn bLen (mArgs [(mVar 0)])), (mD true (.int 3))]))]))])) (gNm 1) tTrue (mCall 1 f__law_right (mArgs [(mCall 2 f__law_flask (mArgs [(mVar 0), (mVar 1)]))])) [1]))]))) sNext)
theorem sc_f_law : FnScope ["_law_script", "_law_k"] ["_law_script"] (defScope (topS 55)) := ⟨rfl, rfl, rfl, by decide +kernel, rfl, by decide +kernel, by decide +kernel⟩
theorem eq_f_law : f_law = semF (["_law_script", "_law_k"] : List Str).length (denSs G42 ["_law_script", "_law_k"] ⟨[], false⟩ (defScope (topS 55)) 60 (defBody (topS 55))) := by kernel_rfl
theorem bd_f_law : BindD "law" (topS 55) ["_law_script"] := fun _ _ _ _ _ _ us hl => match us, hl with | [_], _ => rfl
end K15

namespace K15
open PySem PySem.Spec PyProof.Rows L2 Ek
theorem gcd_step {a b : Nat} (h : 0 < b) : a.gcd b = b.gcd (a % b) := by
  rw [Nat.gcd_comm a b, Nat.gcd_rec b a, Nat.gcd_comm]
theorem w_common : ∀ (b a : Nat) (M : MS), ∃ n, whileN (tB1 (mBin gGt (mVar 1) (mD true (.int 0)))) (sSeq (sPar 0 1 (mArgs [(mVar 1), (mBin gMod (mFn bInt (mArgs [(mVar 0)])) (mVar 1))])) sNext) n [some (.d true (.int a)), some (.d true (.int b))] M
    = some (.nx, [some (.d true (.int (a.gcd b : Nat))), some (.d true (.int 0))], M) := by
  intro b
  induction b using Nat.strongRecOn with
  | _ b ih =>
    intro a M
    by_cases h : b = 0
    · subst h
      refine ⟨1, ?_⟩
      simp [whileN, tB1, mBin, mVar, mD, gGt, gI]
    · have hb : 0 < b := Nat.pos_of_ne_zero h
      obtain ⟨n, hn⟩ := ih (a % b) (Nat.mod_lt _ hb) b M
      refine ⟨n + 1, ?_⟩
      rw [gcd_step hb]
      rw [← hn]
      have h1 : decide ((0 : Int) < (b : Int)) = true := by simp; omega
      simp only [whileN, tB1, mBin, mVar, mD, gGt, gI, mArgs, mFn, bInt, gMod, gIC, sSeq, sPar, sNext, List.getElem?_cons_zero, List.getElem?_cons_succ, h1]
      have h2 : (0 : Int) < (b : Int) := by omega
      simp only [h2, if_true]
      rfl
theorem bAbs_i {r : Bool} {x : Int} {M : MS} : bAbs [.d r (.int x)] M = some (.d true (.int (x.natAbs : Nat)), M) := by
  show some (W.d true (PyData.int (if x < 0 then -x else x)), M) = _
  have : (if x < 0 then -x else x) = ((x.natAbs : Nat) : Int) := by split <;> omega
  rw [this]
theorem bInt_i {r : Bool} {x : Int} {M : MS} : bInt [.d r (.int x)] M = some (.d true (.int x), M) := rfl
theorem c_common (a : Int) (b : Nat) (M : MS) : f_common [.d true (.int a), .d true (.int (b : Int))] M = some (.d true (.int (a.natAbs.gcd b : Nat)), M) := by
  obtain ⟨n, hn⟩ := w_common b a.natAbs M
  have hw := sWhile_of hn
  unfold f_common
  simp only [ev_var, ev_D, ev_bin, ev_un, ev_args0, ev_args, ev_fn, ev_call, ev_callK, ev_if, ev_B1, asB_d, ev_and, ev_or, ev_not, ev_mand, ev_mor, ev_true, ev_chain, ev_tup, ev_lst, ev_old, ev_new, ev_items, ev_lc, ev_seq, seq_nx, seq_rt, seq_bk, seq_ct, ev_next, ev_break, ev_ret, fz_d, ev_retW, ev_drop, ev_sif, ev_set, ev_par, par_2, ev_for, ev_sem, ob_some, ob_none, oif_true, oif_false, mkT2, mkT3, mkL0, mkL1, mkL2, gSub_i, gAdd_i, gLt_i, gLe_i, gGt_i, gGe_i, gEq_i, gNe_i, frIx0, frIx1, List.length_cons, List.length_nil, List.map_cons, List.map_nil, List.cons_append, List.nil_append, List.append_nil, List.replicate, List.getElem?_cons_zero, List.getElem?_cons_succ, List.set_cons_zero, List.set_cons_succ, if_true, if_false, Nat.reduceAdd, Nat.reduceSub, Bool.and_true, Bool.true_and, Bool.not_true, Bool.not_false, bAbs_i, hw]
theorem c_lowest {c : Nat} (a : Int) (b : Nat) (h : b ≠ 0) (z : b < 2 ^ c) (l : c ≤ 8000) (M : MS) : f_lowest [.d true (.int a), .d true (.int (b : Int))] M = some (.d true (fr (Rat.normalize a b h)), M) := by
  have g0 := gcd_pos (a := a.natAbs) h
  have g1 : a.natAbs.gcd b ≤ b := Nat.gcd_le_right _ (Nat.pos_of_ne_zero h)
  have g2 : ∀ i : Int, CDivW i ((a.natAbs.gcd b : Nat) : Int) := fun i => divE (b := c) (by omega) (by rw [Int.natAbs_natCast]; exact Nat.lt_of_le_of_lt g1 z) (by omega)
  unfold f_lowest
  simp only [ev_var, ev_D, ev_bin, ev_un, ev_args0, ev_args, ev_fn, ev_call, ev_callK, ev_if, ev_B1, asB_d, ev_and, ev_or, ev_not, ev_mand, ev_mor, ev_true, ev_chain, ev_tup, ev_lst, ev_old, ev_new, ev_items, ev_lc, ev_seq, seq_nx, seq_rt, seq_bk, seq_ct, ev_next, ev_break, ev_ret, fz_d, ev_retW, ev_drop, ev_sif, ev_set, ev_par, par_2, ev_for, ev_sem, ob_some, ob_none, oif_true, oif_false, mkT2, mkT3, mkL0, mkL1, mkL2, gSub_i, gAdd_i, gLt_i, gLe_i, gGt_i, gGe_i, gEq_i, gNe_i, frIx0, frIx1, List.length_cons, List.length_nil, List.map_cons, List.map_nil, List.cons_append, List.nil_append, List.append_nil, List.replicate, List.getElem?_cons_zero, List.getElem?_cons_succ, List.set_cons_zero, List.set_cons_succ, if_true, if_false, Nat.reduceAdd, Nat.reduceSub, Bool.and_true, Bool.true_and, Bool.not_true, Bool.not_false, c_common, gFdiv_i (g2 _)]
  unfold fr
  rw [norm_num, norm_den]
  simp

theorem den_pos (q : Rat) : q.den ≠ 0 := q.den_nz
theorem c_add {r s : Bool} {p q : Rat} {a b : Nat} (h : Sz a p) (k : Sz b q) (l : a + b ≤ 8000) (M : MS) : f_add [.d r (fr p), .d s (fr q)] M = some (.d true (fr (p + q)), M) := by
  have h1 : CMulE p.num q.den := mulE h.1 (by exact k.2) (by omega)
  have h2 : CMulE q.num p.den := mulE k.1 (by exact h.2) (by omega)
  have h3 : CMulE (p.den : Int) (q.den : Int) := mulE (by exact h.2) (by exact k.2) (by omega)
  have h4 : ((p.den : Int) * (q.den : Int)) = ((p.den * q.den : Nat) : Int) := by simp
  have h5 : p.den * q.den < 2 ^ (a + b) := lt2_mul h.2 k.2
  unfold f_add
  simp only [ev_var, ev_D, ev_bin, ev_un, ev_args0, ev_args, ev_fn, ev_call, ev_callK, ev_if, ev_B1, asB_d, ev_and, ev_or, ev_not, ev_mand, ev_mor, ev_true, ev_chain, ev_tup, ev_lst, ev_old, ev_new, ev_items, ev_lc, ev_seq, seq_nx, seq_rt, seq_bk, seq_ct, ev_next, ev_break, ev_ret, fz_d, ev_retW, ev_drop, ev_sif, ev_set, ev_par, par_2, ev_for, ev_sem, ob_some, ob_none, oif_true, oif_false, mkT2, mkT3, mkL0, mkL1, mkL2, gSub_i, gAdd_i, gLt_i, gLe_i, gGt_i, gGe_i, gEq_i, gNe_i, frIx0, frIx1, List.length_cons, List.length_nil, List.map_cons, List.map_nil, List.cons_append, List.nil_append, List.append_nil, List.replicate, List.getElem?_cons_zero, List.getElem?_cons_succ, List.set_cons_zero, List.set_cons_succ, if_true, if_false, Nat.reduceAdd, Nat.reduceSub, Bool.and_true, Bool.true_and, Bool.not_true, Bool.not_false, gMul_i h1, gMul_i h2, gMul_i h3, h4, c_lowest _ _ (Nat.mul_ne_zero p.den_nz q.den_nz) h5 l]
  rw [Rat.add_def]
theorem c_less {r s : Bool} {p q : Rat} {a b : Nat} (h : Sz a p) (k : Sz b q) (l : a + b ≤ 8000) (M : MS) : f_less [.d r (fr p), .d s (fr q)] M = some (.d true (fr (p - q)), M) := by
  have h1 : CMulE p.num q.den := mulE h.1 (by exact k.2) (by omega)
  have h2 : CMulE q.num p.den := mulE k.1 (by exact h.2) (by omega)
  have h3 : CMulE (p.den : Int) (q.den : Int) := mulE (by exact h.2) (by exact k.2) (by omega)
  have h4 : ((p.den : Int) * (q.den : Int)) = ((p.den * q.den : Nat) : Int) := by simp
  have h5 : p.den * q.den < 2 ^ (a + b) := lt2_mul h.2 k.2
  unfold f_less
  simp only [ev_var, ev_D, ev_bin, ev_un, ev_args0, ev_args, ev_fn, ev_call, ev_callK, ev_if, ev_B1, asB_d, ev_and, ev_or, ev_not, ev_mand, ev_mor, ev_true, ev_chain, ev_tup, ev_lst, ev_old, ev_new, ev_items, ev_lc, ev_seq, seq_nx, seq_rt, seq_bk, seq_ct, ev_next, ev_break, ev_ret, fz_d, ev_retW, ev_drop, ev_sif, ev_set, ev_par, par_2, ev_for, ev_sem, ob_some, ob_none, oif_true, oif_false, mkT2, mkT3, mkL0, mkL1, mkL2, gSub_i, gAdd_i, gLt_i, gLe_i, gGt_i, gGe_i, gEq_i, gNe_i, frIx0, frIx1, List.length_cons, List.length_nil, List.map_cons, List.map_nil, List.cons_append, List.nil_append, List.append_nil, List.replicate, List.getElem?_cons_zero, List.getElem?_cons_succ, List.set_cons_zero, List.set_cons_succ, if_true, if_false, Nat.reduceAdd, Nat.reduceSub, Bool.and_true, Bool.true_and, Bool.not_true, Bool.not_false, gMul_i h1, gMul_i h2, gMul_i h3, h4, c_lowest _ _ (Nat.mul_ne_zero p.den_nz q.den_nz) h5 l]
  rw [Rat.sub_def]
theorem c_times {r s : Bool} {p q : Rat} {a b : Nat} (h : Sz a p) (k : Sz b q) (l : a + b ≤ 8000) (M : MS) : f_times [.d r (fr p), .d s (fr q)] M = some (.d true (fr (p * q)), M) := by
  have h1 : CMulE p.num q.num := mulE h.1 k.1 (by omega)
  have h3 : CMulE (p.den : Int) (q.den : Int) := mulE (by exact h.2) (by exact k.2) (by omega)
  have h4 : ((p.den : Int) * (q.den : Int)) = ((p.den * q.den : Nat) : Int) := by simp
  have h5 : p.den * q.den < 2 ^ (a + b) := lt2_mul h.2 k.2
  unfold f_times
  simp only [ev_var, ev_D, ev_bin, ev_un, ev_args0, ev_args, ev_fn, ev_call, ev_callK, ev_if, ev_B1, asB_d, ev_and, ev_or, ev_not, ev_mand, ev_mor, ev_true, ev_chain, ev_tup, ev_lst, ev_old, ev_new, ev_items, ev_lc, ev_seq, seq_nx, seq_rt, seq_bk, seq_ct, ev_next, ev_break, ev_ret, fz_d, ev_retW, ev_drop, ev_sif, ev_set, ev_par, par_2, ev_for, ev_sem, ob_some, ob_none, oif_true, oif_false, mkT2, mkT3, mkL0, mkL1, mkL2, gSub_i, gAdd_i, gLt_i, gLe_i, gGt_i, gGe_i, gEq_i, gNe_i, frIx0, frIx1, List.length_cons, List.length_nil, List.map_cons, List.map_nil, List.cons_append, List.nil_append, List.append_nil, List.replicate, List.getElem?_cons_zero, List.getElem?_cons_succ, List.set_cons_zero, List.set_cons_succ, if_true, if_false, Nat.reduceAdd, Nat.reduceSub, Bool.and_true, Bool.true_and, Bool.not_true, Bool.not_false, gMul_i h1, gMul_i h3, h4, c_lowest _ _ (Nat.mul_ne_zero p.den_nz q.den_nz) h5 l]
  rw [Rat.mul_def]
theorem c_below {r s : Bool} {p q : Rat} {a b : Nat} (h : Sz a p) (k : Sz b q) (l : a + b ≤ 8000) (M : MS) : f_is_below [.d r (fr p), .d s (fr q)] M = some (.d true (.bool (decide (p < q))), M) := by
  have h1 : CMulE p.num q.den := mulE h.1 (by exact k.2) (by omega)
  have h2 : CMulE q.num p.den := mulE k.1 (by exact h.2) (by omega)
  unfold f_is_below
  simp only [ev_var, ev_D, ev_bin, ev_un, ev_args0, ev_args, ev_fn, ev_call, ev_callK, ev_if, ev_B1, asB_d, ev_and, ev_or, ev_not, ev_mand, ev_mor, ev_true, ev_chain, ev_tup, ev_lst, ev_old, ev_new, ev_items, ev_lc, ev_seq, seq_nx, seq_rt, seq_bk, seq_ct, ev_next, ev_break, ev_ret, fz_d, ev_retW, ev_drop, ev_sif, ev_set, ev_par, par_2, ev_for, ev_sem, ob_some, ob_none, oif_true, oif_false, mkT2, mkT3, mkL0, mkL1, mkL2, gSub_i, gAdd_i, gLt_i, gLe_i, gGt_i, gGe_i, gEq_i, gNe_i, frIx0, frIx1, List.length_cons, List.length_nil, List.map_cons, List.map_nil, List.cons_append, List.nil_append, List.append_nil, List.replicate, List.getElem?_cons_zero, List.getElem?_cons_succ, List.set_cons_zero, List.set_cons_succ, if_true, if_false, Nat.reduceAdd, Nat.reduceSub, Bool.and_true, Bool.true_and, Bool.not_true, Bool.not_false, gMul_i h1, gMul_i h2]
  simp only [Rat.lt_iff]
/-- the greater one -/
def mx (p q : Rat) : Rat := if p < q then q else p
theorem c_greater {r s : Bool} {p q : Rat} {a b : Nat} (h : Sz a p) (k : Sz b q) (l : a + b ≤ 8000) (M : MS) : f_greater [.d r (fr p), .d s (fr q)] M = some (.d (if p < q then s else r) (fr (mx p q)), M) := by
  unfold f_greater mx
  simp only [ev_var, ev_D, ev_bin, ev_un, ev_args0, ev_args, ev_fn, ev_call, ev_callK, ev_if, ev_B1, asB_d, ev_and, ev_or, ev_not, ev_mand, ev_mor, ev_true, ev_chain, ev_tup, ev_lst, ev_old, ev_new, ev_items, ev_lc, ev_seq, seq_nx, seq_rt, seq_bk, seq_ct, ev_next, ev_break, ev_ret, fz_d, ev_retW, ev_drop, ev_sif, ev_set, ev_par, par_2, ev_for, ev_sem, ob_some, ob_none, oif_true, oif_false, mkT2, mkT3, mkL0, mkL1, mkL2, gSub_i, gAdd_i, gLt_i, gLe_i, gGt_i, gGe_i, gEq_i, gNe_i, frIx0, frIx1, List.length_cons, List.length_nil, List.map_cons, List.map_nil, List.cons_append, List.nil_append, List.append_nil, List.replicate, List.getElem?_cons_zero, List.getElem?_cons_succ, List.set_cons_zero, List.set_cons_succ, if_true, if_false, Nat.reduceAdd, Nat.reduceSub, Bool.and_true, Bool.true_and, Bool.not_true, Bool.not_false, c_below h k l]
  by_cases c : p < q
  · simp only [c, decide_true]
    simp only [ev_var, ev_D, ev_bin, ev_un, ev_args0, ev_args, ev_fn, ev_call, ev_callK, ev_if, ev_B1, asB_d, ev_and, ev_or, ev_not, ev_mand, ev_mor, ev_true, ev_chain, ev_tup, ev_lst, ev_old, ev_new, ev_items, ev_lc, ev_seq, seq_nx, seq_rt, seq_bk, seq_ct, ev_next, ev_break, ev_ret, fz_d, ev_retW, ev_drop, ev_sif, ev_set, ev_par, par_2, ev_for, ev_sem, ob_some, ob_none, oif_true, oif_false, mkT2, mkT3, mkL0, mkL1, mkL2, gSub_i, gAdd_i, gLt_i, gLe_i, gGt_i, gGe_i, gEq_i, gNe_i, frIx0, frIx1, List.length_cons, List.length_nil, List.map_cons, List.map_nil, List.cons_append, List.nil_append, List.append_nil, List.replicate, List.getElem?_cons_zero, List.getElem?_cons_succ, List.set_cons_zero, List.set_cons_succ, if_true, if_false, Nat.reduceAdd, Nat.reduceSub, Bool.and_true, Bool.true_and, Bool.not_true, Bool.not_false]
  · simp only [c, decide_false]
    simp only [ev_var, ev_D, ev_bin, ev_un, ev_args0, ev_args, ev_fn, ev_call, ev_callK, ev_if, ev_B1, asB_d, ev_and, ev_or, ev_not, ev_mand, ev_mor, ev_true, ev_chain, ev_tup, ev_lst, ev_old, ev_new, ev_items, ev_lc, ev_seq, seq_nx, seq_rt, seq_bk, seq_ct, ev_next, ev_break, ev_ret, fz_d, ev_retW, ev_drop, ev_sif, ev_set, ev_par, par_2, ev_for, ev_sem, ob_some, ob_none, oif_true, oif_false, mkT2, mkT3, mkL0, mkL1, mkL2, gSub_i, gAdd_i, gLt_i, gLe_i, gGt_i, gGe_i, gEq_i, gNe_i, frIx0, frIx1, List.length_cons, List.length_nil, List.map_cons, List.map_nil, List.cons_append, List.nil_append, List.append_nil, List.replicate, List.getElem?_cons_zero, List.getElem?_cons_succ, List.set_cons_zero, List.set_cons_succ, if_true, if_false, Nat.reduceAdd, Nat.reduceSub, Bool.and_true, Bool.true_and, Bool.not_true, Bool.not_false]
theorem c_weighed {r s : Bool} {p q : Rat} {a b : Nat} (h : Sz a p) (k : Sz b q) (l : a + b ≤ 8000) (M : MS) : f_weighed [.d r (fr p), .d s (fr q)] M = some (.d true (fr (p * q)), M) := by
  unfold f_weighed
  simp only [ev_var, ev_D, ev_bin, ev_un, ev_args0, ev_args, ev_fn, ev_call, ev_callK, ev_if, ev_B1, asB_d, ev_and, ev_or, ev_not, ev_mand, ev_mor, ev_true, ev_chain, ev_tup, ev_lst, ev_old, ev_new, ev_items, ev_lc, ev_seq, seq_nx, seq_rt, seq_bk, seq_ct, ev_next, ev_break, ev_ret, fz_d, ev_retW, ev_drop, ev_sif, ev_set, ev_par, par_2, ev_for, ev_sem, ob_some, ob_none, oif_true, oif_false, mkT2, mkT3, mkL0, mkL1, mkL2, gSub_i, gAdd_i, gLt_i, gLe_i, gGt_i, gGe_i, gEq_i, gNe_i, frIx0, frIx1, List.length_cons, List.length_nil, List.map_cons, List.map_nil, List.cons_append, List.nil_append, List.append_nil, List.replicate, List.getElem?_cons_zero, List.getElem?_cons_succ, List.set_cons_zero, List.set_cons_succ, if_true, if_false, Nat.reduceAdd, Nat.reduceSub, Bool.and_true, Bool.true_and, Bool.not_true, Bool.not_false, c_times h k l]

theorem fr_0 : PyData.tuple [.int 0, .int 1] = fr 0 := rfl
theorem fr_1 : PyData.tuple [.int 1, .int 1] = fr 1 := rfl
theorem c_total {r : Bool} {b n : Nat} {qs : List Rat} (h : ∀ q, q ∈ qs → Sz b q) (hn : qs.length ≤ n) (l : 1 + (n + 1) * (b + 1) ≤ 8000) (M : MS) : f_total [.d r (.list (qs.map fr))] M = some (.d (!qs.isEmpty) (fr qs.sum), M) := by
  have hf := for_inv (t := r) (g := gNm 2) (b := (sSeq (sSet 1 (mCall 2 f_add (mArgs [(mVar 1), (mVar 2)]))) sNext)) (enc := fr)
    (fun done Δ M' => M' = M ∧ ∃ o, Δ = [some (.d r (.list (qs.map fr))), some (.d (!done.isEmpty) (fr done.sum)), o]) qs (by
      intro done a rest e Δ M' hP
      obtain ⟨rfl, o, rfl⟩ := hP
      refine ⟨_, tg_nm, ?_⟩
      have h1 : Sz (1 + done.length * (b + 1)) done.sum := sum_sz fun q hq => h q (by rw [e]; exact List.mem_append_left _ hq)
      have h2 : Sz b a := h a (by rw [e]; simp)
      have h3 : done.length + 1 ≤ n := by rw [e] at hn; simp at hn; omega
      have h4 : done.length * (b + 1) + (b + 1) ≤ (n + 1) * (b + 1) := by
        rw [← Nat.succ_mul]
        exact Nat.mul_le_mul_right _ (by omega)
      simp only [ev_var, ev_D, ev_bin, ev_un, ev_args0, ev_args, ev_fn, ev_call, ev_callK, ev_if, ev_B1, asB_d, ev_and, ev_or, ev_not, ev_mand, ev_mor, ev_true, ev_chain, ev_tup, ev_lst, ev_old, ev_new, ev_items, ev_lc, ev_seq, seq_nx, seq_rt, seq_bk, seq_ct, ev_next, ev_break, ev_ret, fz_d, ev_retW, ev_drop, ev_sif, ev_set, ev_par, par_2, ev_for, ev_sem, ob_some, ob_none, oif_true, oif_false, mkT2, mkT3, mkL0, mkL1, mkL2, gSub_i, gAdd_i, gLt_i, gLe_i, gGt_i, gGe_i, gEq_i, gNe_i, frIx0, frIx1, List.length_cons, List.length_nil, List.map_cons, List.map_nil, List.cons_append, List.nil_append, List.append_nil, List.replicate, List.getElem?_cons_zero, List.getElem?_cons_succ, List.set_cons_zero, List.set_cons_succ, if_true, if_false, Nat.reduceAdd, Nat.reduceSub, Bool.and_true, Bool.true_and, Bool.not_true, Bool.not_false, nf_fr, c_add h1 h2 (by omega)]
      refine ⟨_, _, rfl, rfl, some (.d r (fr a)), ?_⟩
      rw [sum_snoc]
      simp) [some (.d r (.list (qs.map fr))), some (.d false (fr 0)), none] M ⟨rfl, none, by simp⟩
  obtain ⟨Δ', M', h1, rfl, o, rfl⟩ := hf
  unfold f_total
  simp only [ev_var, ev_D, ev_bin, ev_un, ev_args0, ev_args, ev_fn, ev_call, ev_callK, ev_if, ev_B1, asB_d, ev_and, ev_or, ev_not, ev_mand, ev_mor, ev_true, ev_chain, ev_tup, ev_lst, ev_old, ev_new, ev_items, ev_lc, ev_seq, seq_nx, seq_rt, seq_bk, seq_ct, ev_next, ev_break, ev_ret, fz_d, ev_retW, ev_drop, ev_sif, ev_set, ev_par, par_2, ev_for, ev_sem, ob_some, ob_none, oif_true, oif_false, mkT2, mkT3, mkL0, mkL1, mkL2, gSub_i, gAdd_i, gLt_i, gLe_i, gGt_i, gGe_i, gEq_i, gNe_i, frIx0, frIx1, List.length_cons, List.length_nil, List.map_cons, List.map_nil, List.cons_append, List.nil_append, List.append_nil, List.replicate, List.getElem?_cons_zero, List.getElem?_cons_succ, List.set_cons_zero, List.set_cons_succ, if_true, if_false, Nat.reduceAdd, Nat.reduceSub, Bool.and_true, Bool.true_and, Bool.not_true, Bool.not_false, fr_0, fzQ_l, h1]
theorem c_between0 {r s u : Bool} {n : Int} {M : MS} : f_is_between [.d r (.int n), .d s .none, .d u .none] M = some (.d true (.bool true), M) := by
  unfold f_is_between
  simp only [ev_var, ev_D, ev_bin, ev_un, ev_args0, ev_args, ev_fn, ev_call, ev_callK, ev_if, ev_B1, asB_d, ev_and, ev_or, ev_not, ev_mand, ev_mor, ev_true, ev_chain, ev_tup, ev_lst, ev_old, ev_new, ev_items, ev_lc, ev_seq, seq_nx, seq_rt, seq_bk, seq_ct, ev_next, ev_break, ev_ret, fz_d, ev_retW, ev_drop, ev_sif, ev_set, ev_par, par_2, ev_for, ev_sem, ob_some, ob_none, oif_true, oif_false, mkT2, mkT3, mkL0, mkL1, mkL2, gSub_i, gAdd_i, gLt_i, gLe_i, gGt_i, gGe_i, gEq_i, gNe_i, frIx0, frIx1, List.length_cons, List.length_nil, List.map_cons, List.map_nil, List.cons_append, List.nil_append, List.append_nil, List.replicate, List.getElem?_cons_zero, List.getElem?_cons_succ, List.set_cons_zero, List.set_cons_succ, if_true, if_false, Nat.reduceAdd, Nat.reduceSub, Bool.and_true, Bool.true_and, Bool.not_true, Bool.not_false, isi_ii, isi_bi, gIs_n]
theorem c_between1 {r s u : Bool} {n m : Int} {M : MS} : f_is_between [.d r (.int n), .d s (.int m), .d u .none] M = some (.d true (.bool (decide (m ≤ n))), M) := by
  unfold f_is_between
  simp only [ev_var, ev_D, ev_bin, ev_un, ev_args0, ev_args, ev_fn, ev_call, ev_callK, ev_if, ev_B1, asB_d, ev_and, ev_or, ev_not, ev_mand, ev_mor, ev_true, ev_chain, ev_tup, ev_lst, ev_old, ev_new, ev_items, ev_lc, ev_seq, seq_nx, seq_rt, seq_bk, seq_ct, ev_next, ev_break, ev_ret, fz_d, ev_retW, ev_drop, ev_sif, ev_set, ev_par, par_2, ev_for, ev_sem, ob_some, ob_none, oif_true, oif_false, mkT2, mkT3, mkL0, mkL1, mkL2, gSub_i, gAdd_i, gLt_i, gLe_i, gGt_i, gGe_i, gEq_i, gNe_i, frIx0, frIx1, List.length_cons, List.length_nil, List.map_cons, List.map_nil, List.cons_append, List.nil_append, List.append_nil, List.replicate, List.getElem?_cons_zero, List.getElem?_cons_succ, List.set_cons_zero, List.set_cons_succ, if_true, if_false, Nat.reduceAdd, Nat.reduceSub, Bool.and_true, Bool.true_and, Bool.not_true, Bool.not_false, isi_ii, isi_bi, gIs_n, gIs_i]
  by_cases h : m ≤ n
  · simp only [h, decide_true]
    simp only [ev_var, ev_D, ev_bin, ev_un, ev_args0, ev_args, ev_fn, ev_call, ev_callK, ev_if, ev_B1, asB_d, ev_and, ev_or, ev_not, ev_mand, ev_mor, ev_true, ev_chain, ev_tup, ev_lst, ev_old, ev_new, ev_items, ev_lc, ev_seq, seq_nx, seq_rt, seq_bk, seq_ct, ev_next, ev_break, ev_ret, fz_d, ev_retW, ev_drop, ev_sif, ev_set, ev_par, par_2, ev_for, ev_sem, ob_some, ob_none, oif_true, oif_false, mkT2, mkT3, mkL0, mkL1, mkL2, gSub_i, gAdd_i, gLt_i, gLe_i, gGt_i, gGe_i, gEq_i, gNe_i, frIx0, frIx1, List.length_cons, List.length_nil, List.map_cons, List.map_nil, List.cons_append, List.nil_append, List.append_nil, List.replicate, List.getElem?_cons_zero, List.getElem?_cons_succ, List.set_cons_zero, List.set_cons_succ, if_true, if_false, Nat.reduceAdd, Nat.reduceSub, Bool.and_true, Bool.true_and, Bool.not_true, Bool.not_false, gIs_n]
  · simp only [h, decide_false]
    simp only [ev_var, ev_D, ev_bin, ev_un, ev_args0, ev_args, ev_fn, ev_call, ev_callK, ev_if, ev_B1, asB_d, ev_and, ev_or, ev_not, ev_mand, ev_mor, ev_true, ev_chain, ev_tup, ev_lst, ev_old, ev_new, ev_items, ev_lc, ev_seq, seq_nx, seq_rt, seq_bk, seq_ct, ev_next, ev_break, ev_ret, fz_d, ev_retW, ev_drop, ev_sif, ev_set, ev_par, par_2, ev_for, ev_sem, ob_some, ob_none, oif_true, oif_false, mkT2, mkT3, mkL0, mkL1, mkL2, gSub_i, gAdd_i, gLt_i, gLe_i, gGt_i, gGe_i, gEq_i, gNe_i, frIx0, frIx1, List.length_cons, List.length_nil, List.map_cons, List.map_nil, List.cons_append, List.nil_append, List.append_nil, List.replicate, List.getElem?_cons_zero, List.getElem?_cons_succ, List.set_cons_zero, List.set_cons_succ, if_true, if_false, Nat.reduceAdd, Nat.reduceSub, Bool.and_true, Bool.true_and, Bool.not_true, Bool.not_false, gIs_n]
theorem isi_fr {r : Bool} {q : Rat} {M : MS} : gIsi "tuple" (.d r (fr q)) M = some (.d true (.bool true), M) := isi_tt
theorem len_fr {r : Bool} {q : Rat} {M : MS} : bLen [.d r (fr q)] M = some (.d true (.int 2), M) := bLen_t
theorem c_fraction {r : Bool} {q : Rat} {M : MS} : f_is_fraction [.d r (fr q)] M = some (.d true (.bool true), M) := by
  have h : decide ((1 : Int) ≤ (q.den : Int)) = true := by have := q.den_pos; simp; omega
  have h2 : q.num.natAbs.gcd q.den = 1 := q.reduced
  unfold f_is_fraction
  simp only [ev_var, ev_D, ev_bin, ev_un, ev_args0, ev_args, ev_fn, ev_call, ev_callK, ev_if, ev_B1, asB_d, ev_and, ev_or, ev_not, ev_mand, ev_mor, ev_true, ev_chain, ev_tup, ev_lst, ev_old, ev_new, ev_items, ev_lc, ev_seq, seq_nx, seq_rt, seq_bk, seq_ct, ev_next, ev_break, ev_ret, fz_d, ev_retW, ev_drop, ev_sif, ev_set, ev_par, par_2, ev_for, ev_sem, ob_some, ob_none, oif_true, oif_false, mkT2, mkT3, mkL0, mkL1, mkL2, gSub_i, gAdd_i, gLt_i, gLe_i, gGt_i, gGe_i, gEq_i, gNe_i, frIx0, frIx1, List.length_cons, List.length_nil, List.map_cons, List.map_nil, List.cons_append, List.nil_append, List.append_nil, List.replicate, List.getElem?_cons_zero, List.getElem?_cons_succ, List.set_cons_zero, List.set_cons_succ, if_true, if_false, Nat.reduceAdd, Nat.reduceSub, Bool.and_true, Bool.true_and, Bool.not_true, Bool.not_false, isi_fr, len_fr, c_between0, c_between1, h, decide_true, c_common, h2]
  rfl
theorem c_chance {r : Bool} {q : Rat} {M : MS} (h : 0 ≤ q) (h1 : q ≤ 1) : f_is_chance [.d r (fr q)] M = some (.d true (.bool true), M) := by
  have h3 : (0 : Int) ≤ q.num := Rat.num_nonneg.mpr h
  have h4 : q.num ≤ (q.den : Int) := by
    have := (Rat.le_iff _ _).mp h1
    simpa using this
  unfold f_is_chance
  simp only [ev_var, ev_D, ev_bin, ev_un, ev_args0, ev_args, ev_fn, ev_call, ev_callK, ev_if, ev_B1, asB_d, ev_and, ev_or, ev_not, ev_mand, ev_mor, ev_true, ev_chain, ev_tup, ev_lst, ev_old, ev_new, ev_items, ev_lc, ev_seq, seq_nx, seq_rt, seq_bk, seq_ct, ev_next, ev_break, ev_ret, fz_d, ev_retW, ev_drop, ev_sif, ev_set, ev_par, par_2, ev_for, ev_sem, ob_some, ob_none, oif_true, oif_false, mkT2, mkT3, mkL0, mkL1, mkL2, gSub_i, gAdd_i, gLt_i, gLe_i, gGt_i, gGe_i, gEq_i, gNe_i, frIx0, frIx1, List.length_cons, List.length_nil, List.map_cons, List.map_nil, List.cons_append, List.nil_append, List.append_nil, List.replicate, List.getElem?_cons_zero, List.getElem?_cons_succ, List.set_cons_zero, List.set_cons_succ, if_true, if_false, Nat.reduceAdd, Nat.reduceSub, Bool.and_true, Bool.true_and, Bool.not_true, Bool.not_false, c_fraction, h3, h4, decide_true]
/-- a draw as data -/
def pr (z : Rat × Rat) : PD := .tuple [fr z.1, fr z.2]
def dw (d : List (Rat × Rat)) : PD := .tuple (d.map pr)
theorem isi_pr {r : Bool} {z : Rat × Rat} {M : MS} : gIsi "tuple" (.d r (pr z)) M = some (.d true (.bool true), M) := isi_tt
theorem len_pr {r : Bool} {z : Rat × Rat} {M : MS} : bLen [.d r (pr z)] M = some (.d true (.int 2), M) := bLen_t
theorem prIx0 {r s : Bool} {z : Rat × Rat} {M : MS} : gIx (.d r (pr z)) (.d s (.int 0)) M = some (.d r (fr z.1), M) := gIx_0
theorem prIx1 {r s : Bool} {z : Rat × Rat} {M : MS} : gIx (.d r (pr z)) (.d s (.int 1)) M = some (.d r (fr z.2), M) := gIx_1
theorem nf_pr {r : Bool} {z : Rat × Rat} : nf r (pr z) = r := nf_t
theorem c_pair {r : Bool} {z : Rat × Rat} {M : MS} (h : 0 < z.2) (h1 : z.2 ≤ 1) : f_is_pair [.d r (pr z)] M = some (.d true (.bool true), M) := by
  have h0 : (0 : Rat) ≤ z.2 := Rat.le_of_lt h
  have h3 : (0 : Int) < z.2.num := by
    have := (Rat.lt_iff _ _).mp h
    simpa using this
  unfold f_is_pair
  simp only [ev_var, ev_D, ev_bin, ev_un, ev_args0, ev_args, ev_fn, ev_call, ev_callK, ev_if, ev_B1, asB_d, ev_and, ev_or, ev_not, ev_mand, ev_mor, ev_true, ev_chain, ev_tup, ev_lst, ev_old, ev_new, ev_items, ev_lc, ev_seq, seq_nx, seq_rt, seq_bk, seq_ct, ev_next, ev_break, ev_ret, fz_d, ev_retW, ev_drop, ev_sif, ev_set, ev_par, par_2, ev_for, ev_sem, ob_some, ob_none, oif_true, oif_false, mkT2, mkT3, mkL0, mkL1, mkL2, gSub_i, gAdd_i, gLt_i, gLe_i, gGt_i, gGe_i, gEq_i, gNe_i, frIx0, frIx1, List.length_cons, List.length_nil, List.map_cons, List.map_nil, List.cons_append, List.nil_append, List.append_nil, List.replicate, List.getElem?_cons_zero, List.getElem?_cons_succ, List.set_cons_zero, List.set_cons_succ, if_true, if_false, Nat.reduceAdd, Nat.reduceSub, Bool.and_true, Bool.true_and, Bool.not_true, Bool.not_false, isi_pr, len_pr, prIx0, prIx1, c_fraction, c_chance h0 h1, h3, decide_true]

/-- a draw: some pairs, up to n, of fractions of up to b bits -/
structure Dr (b n : Nat) (d : List (Rat × Rat)) : Prop where
  ne : d ≠ []
  len : d.length ≤ n
  sz : ∀ z, z ∈ d → Sz b z.1 ∧ Sz b z.2
  pos : ∀ z, z ∈ d → 0 < z.2
  le1 : ∀ z, z ∈ d → z.2 ≤ 1
  rise : ∀ i (h : i + 1 < d.length), (d[i]).1 < (d[i + 1]).1
  sum : (d.map (·.2)).sum = 1
theorem len1 {α : Type} {l : List α} (h : l ≠ []) : ((l.length : Nat) : Int) - 1 = ((l.length - 1 : Nat) : Int) := by
  have := List.length_pos_iff.mpr h
  omega
theorem c_rising {r : Bool} {b : Nat} {qs : List Rat} (h : ∀ q, q ∈ qs → Sz b q) (h0 : qs ≠ []) (hl : qs.length ≤ 1000) (hb : b ≤ 4000) (hr : ∀ i (h : i + 1 < qs.length), qs[i] < qs[i + 1]) (M : MS) : f_are_rising [.d r (.list (qs.map fr))] M = some (.d true (.bool true), M) := by
  have hx : lcGo true (gNm 1) tTrue (mCall 2 f_is_below (mArgs [(mBin gIx (mVar 0) (mVar 1)), (mBin gIx (mVar 0) (mBin gAdd (mVar 1) (mD true (.int 1))))])) [some (.d r (.list (qs.map fr))), none] ((List.range (qs.length - 1)).map nE) M = _ :=
    lc_map (fun i => .bool true) (fun _ => true) _ fun i hi => by
      refine ⟨_, tg_nm, ?_⟩
      have h1 : i < qs.length - 1 := List.mem_range.mp hi
      have h2 : i < qs.length := by omega
      have h3 : i + 1 < qs.length := by omega
      have h4 : ((i : Int) + 1) = ((i + 1 : Nat) : Int) := by simp
      have h5 := c_below (r := r) (s := r) (h _ (List.getElem_mem h2)) (h _ (List.getElem_mem h3)) (by omega) M
      simp only [ev_var, ev_D, ev_bin, ev_un, ev_args0, ev_args, ev_fn, ev_call, ev_callK, ev_if, ev_B1, asB_d, ev_and, ev_or, ev_not, ev_mand, ev_mor, ev_true, ev_chain, ev_tup, ev_lst, ev_old, ev_new, ev_items, ev_lc, ev_seq, seq_nx, seq_rt, seq_bk, seq_ct, ev_next, ev_break, ev_ret, fz_d, ev_retW, ev_drop, ev_sif, ev_set, ev_par, par_2, ev_for, ev_sem, ob_some, ob_none, oif_true, oif_false, mkT2, mkT3, mkL0, mkL1, mkL2, gSub_i, gAdd_i, gLt_i, gLe_i, gGt_i, gGe_i, gEq_i, gNe_i, frIx0, frIx1, List.length_cons, List.length_nil, List.map_cons, List.map_nil, List.cons_append, List.nil_append, List.append_nil, List.replicate, List.getElem?_cons_zero, List.getElem?_cons_succ, List.set_cons_zero, List.set_cons_succ, if_true, if_false, Nat.reduceAdd, Nat.reduceSub, Bool.and_true, Bool.true_and, Bool.not_true, Bool.not_false, nf_nE, nf_fr, gIx_at (r := r) rfl h2, gIx_at (r := r) h4 h3, nE, h5, hr i h3, decide_true]
  have e1 : (List.map fr qs).length = qs.length := by simp
  have e2 : (List.range (qs.length - 1)).length ≤ 100000 := by simp; omega
  unfold f_are_rising
  simp only [ev_var, ev_D, ev_bin, ev_un, ev_args0, ev_args, ev_fn, ev_call, ev_callK, ev_if, ev_B1, asB_d, ev_and, ev_or, ev_not, ev_mand, ev_mor, ev_true, ev_chain, ev_tup, ev_lst, ev_old, ev_new, ev_items, ev_lc, ev_seq, seq_nx, seq_rt, seq_bk, seq_ct, ev_next, ev_break, ev_ret, fz_d, ev_retW, ev_drop, ev_sif, ev_set, ev_par, par_2, ev_for, ev_sem, ob_some, ob_none, oif_true, oif_false, mkT2, mkT3, mkL0, mkL1, mkL2, gSub_i, gAdd_i, gLt_i, gLe_i, gGt_i, gGe_i, gEq_i, gNe_i, frIx0, frIx1, List.length_cons, List.length_nil, List.map_cons, List.map_nil, List.cons_append, List.nil_append, List.append_nil, List.replicate, List.getElem?_cons_zero, List.getElem?_cons_succ, List.set_cons_zero, List.set_cons_succ, if_true, if_false, Nat.reduceAdd, Nat.reduceSub, Bool.and_true, Bool.true_and, Bool.not_true, Bool.not_false, bLen_l, e1, ev_rg, rgK_o (qs.length - 1) (len1 h0) (by omega), List.length_map, e2, wipeD, hx, bAll_map]
  simp
theorem isi_dw {r : Bool} {d : List (Rat × Rat)} {M : MS} : gIsi "tuple" (.d r (dw d)) M = some (.d true (.bool true), M) := isi_tt
theorem len_dw {r : Bool} {d : List (Rat × Rat)} {M : MS} : bLen [.d r (dw d)] M = some (.d true (.int d.length), M) := by
  unfold dw
  rw [bLen_t, List.length_map]
theorem fzQ_dw {r : Bool} {d : List (Rat × Rat)} {M : MS} : fzQ (.d r (dw d)) M = some ((r, d.map pr), M) := fzQ_t
theorem nf_dw {r : Bool} {d : List (Rat × Rat)} : nf r (dw d) = r := nf_t
theorem tg_pr {i j : Nat} {r : Bool} {z : Rat × Rat} {Δ : Sl} : gTp (gsCons (gNm i) (gsCons (gNm j) gsNil)) r (pr z) Δ = some ((Δ.set i (some (.d r (fr z.1)))).set j (some (.d r (fr z.2)))) := tg_2
theorem all_c {α : Type} {l : List α} (h : l ≠ []) (r : Bool) : (l.all fun _ => r) = r := by
  cases l with
  | nil => exact absurd rfl h
  | cons a l => cases r <;> simp
theorem map_mem_1 {b n : Nat} {d : List (Rat × Rat)} (D : Dr b n d) : ∀ q, q ∈ d.map (fun z : Rat × Rat => z.1) → Sz b q := by
  intro q hq
  obtain ⟨z, hz, rfl⟩ := List.mem_map.mp hq
  exact (D.sz z hz).1
theorem map_mem_2 {b n : Nat} {d : List (Rat × Rat)} (D : Dr b n d) : ∀ q, q ∈ d.map (fun z : Rat × Rat => z.2) → Sz b q := by
  intro q hq
  obtain ⟨z, hz, rfl⟩ := List.mem_map.mp hq
  exact (D.sz z hz).2
theorem c_draw {r : Bool} {b n : Nat} {d : List (Rat × Rat)} (D : Dr b n d) (hn : n ≤ 64) (hb : (n + 1) * (b + 1) ≤ 7900) (M : MS) : f_is_draw [.d r (dw d)] M = some (.d true (.bool true), M) := by
  have g1 := List.length_pos_iff.mpr D.ne
  have g2 := D.len
  have g3 : (1 : Int) ≤ (d.length : Int) := by omega
  have g4 : (d.length : Int) ≤ 64 := by omega
  have g5 : d.length ≤ 100000 := by omega
  have g6 : b ≤ 4000 := by
    have : 2 * (b + 1) ≤ (n + 1) * (b + 1) := Nat.mul_le_mul_right _ (by omega)
    omega
  have x1 : lcGo r (gNm 1) tTrue (mCall 1 f_is_pair (mArgs [(mVar 1)])) [some (.d r (dw d)), none] (d.map pr) M = _ :=
    lc_map (fun i => .bool true) (fun _ => true) _ fun z hz => by
      refine ⟨_, tg_nm, ?_⟩
      simp only [ev_var, ev_D, ev_bin, ev_un, ev_args0, ev_args, ev_fn, ev_call, ev_callK, ev_if, ev_B1, asB_d, ev_and, ev_or, ev_not, ev_mand, ev_mor, ev_true, ev_chain, ev_tup, ev_lst, ev_old, ev_new, ev_items, ev_lc, ev_seq, seq_nx, seq_rt, seq_bk, seq_ct, ev_next, ev_break, ev_ret, fz_d, ev_retW, ev_drop, ev_sif, ev_set, ev_par, par_2, ev_for, ev_sem, ob_some, ob_none, oif_true, oif_false, mkT2, mkT3, mkL0, mkL1, mkL2, gSub_i, gAdd_i, gLt_i, gLe_i, gGt_i, gGe_i, gEq_i, gNe_i, frIx0, frIx1, List.length_cons, List.length_nil, List.map_cons, List.map_nil, List.cons_append, List.nil_append, List.append_nil, List.replicate, List.getElem?_cons_zero, List.getElem?_cons_succ, List.set_cons_zero, List.set_cons_succ, if_true, if_false, Nat.reduceAdd, Nat.reduceSub, Bool.and_true, Bool.true_and, Bool.not_true, Bool.not_false, nf_pr, c_pair (r := r) (M := M) (D.pos z hz) (D.le1 z hz)]
  have x2 : lcGo r (gNm 1) tTrue (mBin gIx (mVar 1) (mD true (.int 0))) [some (.d r (dw d)), none] (d.map pr) M = _ :=
    lc_map (fun z : Rat × Rat => fr z.1) (fun _ => r) _ fun z hz => by
      refine ⟨_, tg_nm, ?_⟩
      simp only [ev_var, ev_D, ev_bin, ev_un, ev_args0, ev_args, ev_fn, ev_call, ev_callK, ev_if, ev_B1, asB_d, ev_and, ev_or, ev_not, ev_mand, ev_mor, ev_true, ev_chain, ev_tup, ev_lst, ev_old, ev_new, ev_items, ev_lc, ev_seq, seq_nx, seq_rt, seq_bk, seq_ct, ev_next, ev_break, ev_ret, fz_d, ev_retW, ev_drop, ev_sif, ev_set, ev_par, par_2, ev_for, ev_sem, ob_some, ob_none, oif_true, oif_false, mkT2, mkT3, mkL0, mkL1, mkL2, gSub_i, gAdd_i, gLt_i, gLe_i, gGt_i, gGe_i, gEq_i, gNe_i, frIx0, frIx1, List.length_cons, List.length_nil, List.map_cons, List.map_nil, List.cons_append, List.nil_append, List.append_nil, List.replicate, List.getElem?_cons_zero, List.getElem?_cons_succ, List.set_cons_zero, List.set_cons_succ, if_true, if_false, Nat.reduceAdd, Nat.reduceSub, Bool.and_true, Bool.true_and, Bool.not_true, Bool.not_false, nf_pr, prIx0]
  have x3 : lcGo r (gNm 1) tTrue (mBin gIx (mVar 1) (mD true (.int 1))) [some (.d r (dw d)), none] (d.map pr) M = _ :=
    lc_map (fun z : Rat × Rat => fr z.2) (fun _ => r) _ fun z hz => by
      refine ⟨_, tg_nm, ?_⟩
      simp only [ev_var, ev_D, ev_bin, ev_un, ev_args0, ev_args, ev_fn, ev_call, ev_callK, ev_if, ev_B1, asB_d, ev_and, ev_or, ev_not, ev_mand, ev_mor, ev_true, ev_chain, ev_tup, ev_lst, ev_old, ev_new, ev_items, ev_lc, ev_seq, seq_nx, seq_rt, seq_bk, seq_ct, ev_next, ev_break, ev_ret, fz_d, ev_retW, ev_drop, ev_sif, ev_set, ev_par, par_2, ev_for, ev_sem, ob_some, ob_none, oif_true, oif_false, mkT2, mkT3, mkL0, mkL1, mkL2, gSub_i, gAdd_i, gLt_i, gLe_i, gGt_i, gGe_i, gEq_i, gNe_i, frIx0, frIx1, List.length_cons, List.length_nil, List.map_cons, List.map_nil, List.cons_append, List.nil_append, List.append_nil, List.replicate, List.getElem?_cons_zero, List.getElem?_cons_succ, List.set_cons_zero, List.set_cons_succ, if_true, if_false, Nat.reduceAdd, Nat.reduceSub, Bool.and_true, Bool.true_and, Bool.not_true, Bool.not_false, nf_pr, prIx1]
  have e1 : (d.map fun z : Rat × Rat => fr z.1) = (d.map (·.1)).map fr := by simp
  have e2 : (d.map fun z : Rat × Rat => fr z.2) = (d.map (·.2)).map fr := by simp
  have y1 := c_rising (r := r) (qs := d.map (·.1)) (map_mem_1 D) (by simpa using D.ne) (by simp; omega) g6 (by
    intro i hi
    simp at hi
    simpa using D.rise i hi) M
  have y2 := c_total (r := r) (n := n) (map_mem_2 D) (by simpa using g2) (by omega) M
  unfold f_is_draw
  simp only [ev_var, ev_D, ev_bin, ev_un, ev_args0, ev_args, ev_fn, ev_call, ev_callK, ev_if, ev_B1, asB_d, ev_and, ev_or, ev_not, ev_mand, ev_mor, ev_true, ev_chain, ev_tup, ev_lst, ev_old, ev_new, ev_items, ev_lc, ev_seq, seq_nx, seq_rt, seq_bk, seq_ct, ev_next, ev_break, ev_ret, fz_d, ev_retW, ev_drop, ev_sif, ev_set, ev_par, par_2, ev_for, ev_sem, ob_some, ob_none, oif_true, oif_false, mkT2, mkT3, mkL0, mkL1, mkL2, gSub_i, gAdd_i, gLt_i, gLe_i, gGt_i, gGe_i, gEq_i, gNe_i, frIx0, frIx1, List.length_cons, List.length_nil, List.map_cons, List.map_nil, List.cons_append, List.nil_append, List.append_nil, List.replicate, List.getElem?_cons_zero, List.getElem?_cons_succ, List.set_cons_zero, List.set_cons_succ, if_true, if_false, Nat.reduceAdd, Nat.reduceSub, Bool.and_true, Bool.true_and, Bool.not_true, Bool.not_false, isi_dw, len_dw, g3, g4, decide_true, fzQ_dw, List.length_map, g5, wipeD, x1, x2, x3, bAll_map, all_c D.ne, e1, e2, y1, y2, fr_1, gEq_fr]
  simp [D.sum]
theorem c_check_draw {r : Bool} {b n : Nat} {d : List (Rat × Rat)} (D : Dr b n d) (hn : n ≤ 64) (hb : (n + 1) * (b + 1) ≤ 7900) (M : MS) : f_check_draw [.d r (dw d)] M = some (.d true .none, M) := by
  unfold f_check_draw
  simp only [ev_var, ev_D, ev_bin, ev_un, ev_args0, ev_args, ev_fn, ev_call, ev_callK, ev_if, ev_B1, asB_d, ev_and, ev_or, ev_not, ev_mand, ev_mor, ev_true, ev_chain, ev_tup, ev_lst, ev_old, ev_new, ev_items, ev_lc, ev_seq, seq_nx, seq_rt, seq_bk, seq_ct, ev_next, ev_break, ev_ret, fz_d, ev_retW, ev_drop, ev_sif, ev_set, ev_par, par_2, ev_for, ev_sem, ob_some, ob_none, oif_true, oif_false, mkT2, mkT3, mkL0, mkL1, mkL2, gSub_i, gAdd_i, gLt_i, gLe_i, gGt_i, gGe_i, gEq_i, gNe_i, frIx0, frIx1, List.length_cons, List.length_nil, List.map_cons, List.map_nil, List.cons_append, List.nil_append, List.append_nil, List.replicate, List.getElem?_cons_zero, List.getElem?_cons_succ, List.set_cons_zero, List.set_cons_succ, if_true, if_false, Nat.reduceAdd, Nat.reduceSub, Bool.and_true, Bool.true_and, Bool.not_true, Bool.not_false, c_draw D hn hb]
theorem c_check_number {r : Bool} {q : Rat} (M : MS) : f_check_number [.d r (fr q)] M = some (.d true .none, M) := by
  unfold f_check_number
  simp only [ev_var, ev_D, ev_bin, ev_un, ev_args0, ev_args, ev_fn, ev_call, ev_callK, ev_if, ev_B1, asB_d, ev_and, ev_or, ev_not, ev_mand, ev_mor, ev_true, ev_chain, ev_tup, ev_lst, ev_old, ev_new, ev_items, ev_lc, ev_seq, seq_nx, seq_rt, seq_bk, seq_ct, ev_next, ev_break, ev_ret, fz_d, ev_retW, ev_drop, ev_sif, ev_set, ev_par, par_2, ev_for, ev_sem, ob_some, ob_none, oif_true, oif_false, mkT2, mkT3, mkL0, mkL1, mkL2, gSub_i, gAdd_i, gLt_i, gLe_i, gGt_i, gGe_i, gEq_i, gNe_i, frIx0, frIx1, List.length_cons, List.length_nil, List.map_cons, List.map_nil, List.cons_append, List.nil_append, List.append_nil, List.replicate, List.getElem?_cons_zero, List.getElem?_cons_succ, List.set_cons_zero, List.set_cons_succ, if_true, if_false, Nat.reduceAdd, Nat.reduceSub, Bool.and_true, Bool.true_and, Bool.not_true, Bool.not_false, c_fraction]
/-- a row of draws -/
def rw' (l : List (List (Rat × Rat))) : PD := .tuple (l.map dw)
structure Rw (b n m : Nat) (l : List (List (Rat × Rat))) : Prop where
  ne : l ≠ []
  len : l.length ≤ m
  dr : ∀ d, d ∈ l → Dr b n d
theorem isi_rw {r : Bool} {l : List (List (Rat × Rat))} {M : MS} : gIsi "tuple" (.d r (rw' l)) M = some (.d true (.bool true), M) := isi_tt
theorem len_rw {r : Bool} {l : List (List (Rat × Rat))} {M : MS} : bLen [.d r (rw' l)] M = some (.d true (.int l.length), M) := by
  unfold rw'
  rw [bLen_t, List.length_map]
theorem fzQ_rw {r : Bool} {l : List (List (Rat × Rat))} {M : MS} : fzQ (.d r (rw' l)) M = some ((r, l.map dw), M) := fzQ_t
theorem c_draws {r : Bool} {b n m : Nat} {l : List (List (Rat × Rat))} (R : Rw b n m l) (hm : m ≤ 6) (hn : n ≤ 64) (hb : (n + 1) * (b + 1) ≤ 7900) (M : MS) : f_are_draws [.d r (rw' l)] M = some (.d true (.bool true), M) := by
  have g1 := List.length_pos_iff.mpr R.ne
  have g2 := R.len
  have g3 : (1 : Int) ≤ (l.length : Int) := by omega
  have g4 : (l.length : Int) ≤ 6 := by omega
  have g5 : l.length ≤ 100000 := by omega
  have x1 : lcGo r (gNm 1) tTrue (mCall 1 f_is_draw (mArgs [(mVar 1)])) [some (.d r (rw' l)), none] (l.map dw) M = _ :=
    lc_map (fun i => .bool true) (fun _ => true) _ fun z hz => by
      refine ⟨_, tg_nm, ?_⟩
      simp only [ev_var, ev_D, ev_bin, ev_un, ev_args0, ev_args, ev_fn, ev_call, ev_callK, ev_if, ev_B1, asB_d, ev_and, ev_or, ev_not, ev_mand, ev_mor, ev_true, ev_chain, ev_tup, ev_lst, ev_old, ev_new, ev_items, ev_lc, ev_seq, seq_nx, seq_rt, seq_bk, seq_ct, ev_next, ev_break, ev_ret, fz_d, ev_retW, ev_drop, ev_sif, ev_set, ev_par, par_2, ev_for, ev_sem, ob_some, ob_none, oif_true, oif_false, mkT2, mkT3, mkL0, mkL1, mkL2, gSub_i, gAdd_i, gLt_i, gLe_i, gGt_i, gGe_i, gEq_i, gNe_i, frIx0, frIx1, List.length_cons, List.length_nil, List.map_cons, List.map_nil, List.cons_append, List.nil_append, List.append_nil, List.replicate, List.getElem?_cons_zero, List.getElem?_cons_succ, List.set_cons_zero, List.set_cons_succ, if_true, if_false, Nat.reduceAdd, Nat.reduceSub, Bool.and_true, Bool.true_and, Bool.not_true, Bool.not_false, nf_dw, c_draw (r := r) (R.dr z hz) hn hb M]
  unfold f_are_draws
  simp only [ev_var, ev_D, ev_bin, ev_un, ev_args0, ev_args, ev_fn, ev_call, ev_callK, ev_if, ev_B1, asB_d, ev_and, ev_or, ev_not, ev_mand, ev_mor, ev_true, ev_chain, ev_tup, ev_lst, ev_old, ev_new, ev_items, ev_lc, ev_seq, seq_nx, seq_rt, seq_bk, seq_ct, ev_next, ev_break, ev_ret, fz_d, ev_retW, ev_drop, ev_sif, ev_set, ev_par, par_2, ev_for, ev_sem, ob_some, ob_none, oif_true, oif_false, mkT2, mkT3, mkL0, mkL1, mkL2, gSub_i, gAdd_i, gLt_i, gLe_i, gGt_i, gGe_i, gEq_i, gNe_i, frIx0, frIx1, List.length_cons, List.length_nil, List.map_cons, List.map_nil, List.cons_append, List.nil_append, List.append_nil, List.replicate, List.getElem?_cons_zero, List.getElem?_cons_succ, List.set_cons_zero, List.set_cons_succ, if_true, if_false, Nat.reduceAdd, Nat.reduceSub, Bool.and_true, Bool.true_and, Bool.not_true, Bool.not_false, isi_rw, len_rw, g3, g4, decide_true, fzQ_rw, List.length_map, g5, wipeD, x1, bAll_map, all_c R.ne]
theorem c_check_row_rest {r s : Bool} {b n m : Nat} {l : List (List (Rat × Rat))} {q : Rat} (R : Rw b n m l) (hm : m ≤ 6) (hn : n ≤ 64) (hb : (n + 1) * (b + 1) ≤ 7900) (M : MS) : f_check_row_rest [.d r (rw' l), .d s (fr q)] M = some (.d true .none, M) := by
  unfold f_check_row_rest f_check_row f_is_row
  simp only [ev_var, ev_D, ev_bin, ev_un, ev_args0, ev_args, ev_fn, ev_call, ev_callK, ev_if, ev_B1, asB_d, ev_and, ev_or, ev_not, ev_mand, ev_mor, ev_true, ev_chain, ev_tup, ev_lst, ev_old, ev_new, ev_items, ev_lc, ev_seq, seq_nx, seq_rt, seq_bk, seq_ct, ev_next, ev_break, ev_ret, fz_d, ev_retW, ev_drop, ev_sif, ev_set, ev_par, par_2, ev_for, ev_sem, ob_some, ob_none, oif_true, oif_false, mkT2, mkT3, mkL0, mkL1, mkL2, gSub_i, gAdd_i, gLt_i, gLe_i, gGt_i, gGe_i, gEq_i, gNe_i, frIx0, frIx1, List.length_cons, List.length_nil, List.map_cons, List.map_nil, List.cons_append, List.nil_append, List.append_nil, List.replicate, List.getElem?_cons_zero, List.getElem?_cons_succ, List.set_cons_zero, List.set_cons_succ, if_true, if_false, Nat.reduceAdd, Nat.reduceSub, Bool.and_true, Bool.true_and, Bool.not_true, Bool.not_false, c_draws R hm hn hb, c_check_number]
/-- the mean -/
def mean' (d : List (Rat × Rat)) : Rat := (d.map fun z => z.1 * z.2).sum
def exc (d : List (Rat × Rat)) (x : Rat) : Rat := (d.map fun z => mx (z.1 - x) 0 * z.2).sum
theorem mx_sz {p q : Rat} {b : Nat} (h : Sz b p) (k : Sz b q) : Sz b (mx p q) := by
  unfold mx
  split
  · exact k
  · exact h
theorem c_mean_of {r : Bool} {b n : Nat} {d : List (Rat × Rat)} (D : Dr b n d) (hn : n ≤ 64) (hb : (n + 1) * (b + b + 1) ≤ 7900) (M : MS) : f_mean_of [.d r (dw d)] M = some (.d true (fr (mean' d)), M) := by
  have g2 := D.len
  have g1 := List.length_pos_iff.mpr D.ne
  have g5 : d.length ≤ 100000 := by omega
  have g6 : b + b ≤ 8000 := by
    have : 2 * (b + b + 1) ≤ (n + 1) * (b + b + 1) := Nat.mul_le_mul_right _ (by omega)
    omega
  have x1 : lcGo r (gTp (gsCons (gNm 1) (gsCons (gNm 2) gsNil))) tTrue (mCall 2 f_times (mArgs [(mVar 1), (mVar 2)])) [some (.d r (dw d)), none, none] (d.map pr) M = _ :=
    lc_map (fun z : Rat × Rat => fr (z.1 * z.2)) (fun _ => true) _ fun z hz => by
      refine ⟨_, tg_pr, ?_⟩
      simp only [ev_var, ev_D, ev_bin, ev_un, ev_args0, ev_args, ev_fn, ev_call, ev_callK, ev_if, ev_B1, asB_d, ev_and, ev_or, ev_not, ev_mand, ev_mor, ev_true, ev_chain, ev_tup, ev_lst, ev_old, ev_new, ev_items, ev_lc, ev_seq, seq_nx, seq_rt, seq_bk, seq_ct, ev_next, ev_break, ev_ret, fz_d, ev_retW, ev_drop, ev_sif, ev_set, ev_par, par_2, ev_for, ev_sem, ob_some, ob_none, oif_true, oif_false, mkT2, mkT3, mkL0, mkL1, mkL2, gSub_i, gAdd_i, gLt_i, gLe_i, gGt_i, gGe_i, gEq_i, gNe_i, frIx0, frIx1, List.length_cons, List.length_nil, List.map_cons, List.map_nil, List.cons_append, List.nil_append, List.append_nil, List.replicate, List.getElem?_cons_zero, List.getElem?_cons_succ, List.set_cons_zero, List.set_cons_succ, if_true, if_false, Nat.reduceAdd, Nat.reduceSub, Bool.and_true, Bool.true_and, Bool.not_true, Bool.not_false, c_times (r := r) (s := r) (D.sz z hz).1 (D.sz z hz).2 g6 M]
  have e1 : (d.map fun z : Rat × Rat => fr (z.1 * z.2)) = (d.map fun z => z.1 * z.2).map fr := by simp
  have y2 := c_total (r := true) (n := n) (b := b + b) (qs := d.map fun z => z.1 * z.2) (by
    intro q hq
    obtain ⟨z, hz, rfl⟩ := List.mem_map.mp hq
    exact mul_sz (D.sz z hz).1 (D.sz z hz).2) (by simpa using g2) (by omega) M
  have e3 : (!(d.map fun z : Rat × Rat => z.1 * z.2).isEmpty) = true := by simpa using D.ne
  unfold f_mean_of mean'
  simp only [ev_var, ev_D, ev_bin, ev_un, ev_args0, ev_args, ev_fn, ev_call, ev_callK, ev_if, ev_B1, asB_d, ev_and, ev_or, ev_not, ev_mand, ev_mor, ev_true, ev_chain, ev_tup, ev_lst, ev_old, ev_new, ev_items, ev_lc, ev_seq, seq_nx, seq_rt, seq_bk, seq_ct, ev_next, ev_break, ev_ret, fz_d, ev_retW, ev_drop, ev_sif, ev_set, ev_par, par_2, ev_for, ev_sem, ob_some, ob_none, oif_true, oif_false, mkT2, mkT3, mkL0, mkL1, mkL2, gSub_i, gAdd_i, gLt_i, gLe_i, gGt_i, gGe_i, gEq_i, gNe_i, frIx0, frIx1, List.length_cons, List.length_nil, List.map_cons, List.map_nil, List.cons_append, List.nil_append, List.append_nil, List.replicate, List.getElem?_cons_zero, List.getElem?_cons_succ, List.set_cons_zero, List.set_cons_succ, if_true, if_false, Nat.reduceAdd, Nat.reduceSub, Bool.and_true, Bool.true_and, Bool.not_true, Bool.not_false, fzQ_dw, List.length_map, g5, wipeD, x1, all_c D.ne, e1, y2, e3]
theorem exc_sz {b c : Nat} {d : List (Rat × Rat)} {x : Rat} {n : Nat} (D : Dr b n d) (X : Sz c x) : Sz (1 + n * (b + c + 2 + b)) (exc d x) := by
  have h : Sz (1 + (d.map fun z => mx (z.1 - x) 0 * z.2).length * (b + c + 1 + b + 1)) (exc d x) := sum_sz (by
    intro q hq
    obtain ⟨z, hz, rfl⟩ := List.mem_map.mp hq
    exact mul_sz (mx_sz (sub_sz (D.sz z hz).1 X) (sz_0.mono (by omega))) (D.sz z hz).2)
  refine h.mono ?_
  rw [List.length_map]
  have : d.length * (b + c + 1 + b + 1) ≤ n * (b + c + 1 + b + 1) := Nat.mul_le_mul_right _ D.len
  have e : b + c + 1 + b + 1 = b + c + 2 + b := by omega
  rw [e] at this ⊢
  omega
theorem c_excess_of {r s : Bool} {b c n : Nat} {d : List (Rat × Rat)} {x : Rat} (D : Dr b n d) (X : Sz c x) (hn : n ≤ 64) (hb : (n + 1) * (b + c + 2 + b) ≤ 7900) (M : MS) : f_excess_of [.d r (dw d), .d s (fr x)] M = some (.d true (fr (exc d x)), M) := by
  have g2 := D.len
  have g1 := List.length_pos_iff.mpr D.ne
  have g5 : d.length ≤ 100000 := by omega
  have g6 : b + c + 2 + b ≤ 4000 := by
    have : 2 * (b + c + 2 + b) ≤ (n + 1) * (b + c + 2 + b) := Nat.mul_le_mul_right _ (by omega)
    omega
  have x1 : lcGo r (gTp (gsCons (gNm 2) (gsCons (gNm 3) gsNil))) tTrue (mCall 2 f_times (mArgs [(mCall 2 f_greater (mArgs [(mCall 2 f_less (mArgs [(mVar 2), (mVar 1)])), (mD false (.tuple [.int 0, .int 1]))])), (mVar 3)])) [some (.d r (dw d)), some (.d s (fr x)), none, none] (d.map pr) M = _ :=
    lc_map (fun z : Rat × Rat => fr (mx (z.1 - x) 0 * z.2)) (fun _ => true) _ fun z hz => by
      have h1 := sub_sz (D.sz z hz).1 X
      have h2 := mul_sz (mx_sz h1 (sz_0.mono (by omega))) (D.sz z hz).2
      refine ⟨_, tg_pr, ?_⟩
      simp only [ev_var, ev_D, ev_bin, ev_un, ev_args0, ev_args, ev_fn, ev_call, ev_callK, ev_if, ev_B1, asB_d, ev_and, ev_or, ev_not, ev_mand, ev_mor, ev_true, ev_chain, ev_tup, ev_lst, ev_old, ev_new, ev_items, ev_lc, ev_seq, seq_nx, seq_rt, seq_bk, seq_ct, ev_next, ev_break, ev_ret, fz_d, ev_retW, ev_drop, ev_sif, ev_set, ev_par, par_2, ev_for, ev_sem, ob_some, ob_none, oif_true, oif_false, mkT2, mkT3, mkL0, mkL1, mkL2, gSub_i, gAdd_i, gLt_i, gLe_i, gGt_i, gGe_i, gEq_i, gNe_i, frIx0, frIx1, List.length_cons, List.length_nil, List.map_cons, List.map_nil, List.cons_append, List.nil_append, List.append_nil, List.replicate, List.getElem?_cons_zero, List.getElem?_cons_succ, List.set_cons_zero, List.set_cons_succ, if_true, if_false, Nat.reduceAdd, Nat.reduceSub, Bool.and_true, Bool.true_and, Bool.not_true, Bool.not_false, c_less (r := r) (s := s) (D.sz z hz).1 X (by omega) M, fr_0, c_greater h1 sz_0 (by omega) M, c_times (s := r) (mx_sz h1 (sz_0.mono (by omega))) (D.sz z hz).2 (by omega) M]
  have e1 : (d.map fun z : Rat × Rat => fr (mx (z.1 - x) 0 * z.2)) = (d.map fun z => mx (z.1 - x) 0 * z.2).map fr := by simp
  have y2 := c_total (r := true) (n := n) (b := b + c + 1 + b) (qs := d.map fun z => mx (z.1 - x) 0 * z.2) (by
    intro q hq
    obtain ⟨z, hz, rfl⟩ := List.mem_map.mp hq
    exact mul_sz (mx_sz (sub_sz (D.sz z hz).1 X) (sz_0.mono (by omega))) (D.sz z hz).2) (by simpa using g2) (by
      have e : b + c + 1 + b + 1 = b + c + 2 + b := by omega
      rw [e]
      omega) M
  have e3 : (!(d.map fun z : Rat × Rat => mx (z.1 - x) 0 * z.2).isEmpty) = true := by simpa using D.ne
  unfold f_excess_of exc
  simp only [ev_var, ev_D, ev_bin, ev_un, ev_args0, ev_args, ev_fn, ev_call, ev_callK, ev_if, ev_B1, asB_d, ev_and, ev_or, ev_not, ev_mand, ev_mor, ev_true, ev_chain, ev_tup, ev_lst, ev_old, ev_new, ev_items, ev_lc, ev_seq, seq_nx, seq_rt, seq_bk, seq_ct, ev_next, ev_break, ev_ret, fz_d, ev_retW, ev_drop, ev_sif, ev_set, ev_par, par_2, ev_for, ev_sem, ob_some, ob_none, oif_true, oif_false, mkT2, mkT3, mkL0, mkL1, mkL2, gSub_i, gAdd_i, gLt_i, gLe_i, gGt_i, gGe_i, gEq_i, gNe_i, frIx0, frIx1, List.length_cons, List.length_nil, List.map_cons, List.map_nil, List.cons_append, List.nil_append, List.append_nil, List.replicate, List.getElem?_cons_zero, List.getElem?_cons_succ, List.set_cons_zero, List.set_cons_succ, if_true, if_false, Nat.reduceAdd, Nat.reduceSub, Bool.and_true, Bool.true_and, Bool.not_true, Bool.not_false, fzQ_dw, List.length_map, g5, wipeD, x1, all_c D.ne, e1, y2, e3]
theorem c_mean {r : Bool} {b n : Nat} {d : List (Rat × Rat)} (D : Dr b n d) (hn : n ≤ 64) (hb : (n + 1) * (b + b + 1) ≤ 7900) (M : MS) : f_mean [.d r (dw d)] M = some (.d true (fr (mean' d)), M) := by
  have h1 : (n + 1) * (b + 1) ≤ 7900 := Nat.le_trans (Nat.mul_le_mul_left _ (by omega)) hb
  unfold f_mean
  simp only [ev_var, ev_D, ev_bin, ev_un, ev_args0, ev_args, ev_fn, ev_call, ev_callK, ev_if, ev_B1, asB_d, ev_and, ev_or, ev_not, ev_mand, ev_mor, ev_true, ev_chain, ev_tup, ev_lst, ev_old, ev_new, ev_items, ev_lc, ev_seq, seq_nx, seq_rt, seq_bk, seq_ct, ev_next, ev_break, ev_ret, fz_d, ev_retW, ev_drop, ev_sif, ev_set, ev_par, par_2, ev_for, ev_sem, ob_some, ob_none, oif_true, oif_false, mkT2, mkT3, mkL0, mkL1, mkL2, gSub_i, gAdd_i, gLt_i, gLe_i, gGt_i, gGe_i, gEq_i, gNe_i, frIx0, frIx1, List.length_cons, List.length_nil, List.map_cons, List.map_nil, List.cons_append, List.nil_append, List.append_nil, List.replicate, List.getElem?_cons_zero, List.getElem?_cons_succ, List.set_cons_zero, List.set_cons_succ, if_true, if_false, Nat.reduceAdd, Nat.reduceSub, Bool.and_true, Bool.true_and, Bool.not_true, Bool.not_false, c_check_draw D hn h1, c_mean_of D hn hb]

/-- worths from behind -/
def wo : List (List (Rat × Rat)) → Rat → Rat
  | [], q => q
  | d :: l, q => wo l q + exc d (wo l q)
def wos : List (List (Rat × Rat)) → Rat → List Rat
  | [], q => [q]
  | d :: l, q => wo (d :: l) q :: wos l q
theorem wos_eq (l : List (List (Rat × Rat))) (q : Rat) : ∃ r, wos l q = wo l q :: r := by
  cases l with
  | nil => exact ⟨[], rfl⟩
  | cons d l => exact ⟨wos l q, rfl⟩
theorem wos_len (q : Rat) : ∀ l : List (List (Rat × Rat)), (wos l q).length = l.length + 1
  | [] => rfl
  | d :: l => by rw [wos, List.length_cons, wos_len q l, List.length_cons]
def wsz (b n c : Nat) : Nat → Nat
  | 0 => c
  | k + 1 => wsz b n c k + (1 + n * (b + wsz b n c k + 2 + b)) + 1
theorem wo_sz {b n c : Nat} {q : Rat} (hq : Sz c q) : ∀ {l : List (List (Rat × Rat))}, (∀ d, d ∈ l → Dr b n d) → Sz (wsz b n c l.length) (wo l q)
  | [], _ => hq
  | d :: l, h => by
    have h1 := wo_sz hq (l := l) fun d hd => h d (List.mem_cons_of_mem _ hd)
    exact add_sz h1 (exc_sz (h d List.mem_cons_self) h1)
theorem wsz_mono {b n c : Nat} : ∀ {k m : Nat}, k ≤ m → wsz b n c k ≤ wsz b n c m
  | k, 0, h => by
    have : k = 0 := by omega
    subst this
    exact Nat.le_refl _
  | k, m + 1, h => by
    by_cases e : k = m + 1
    · subst e
      exact Nat.le_refl _
    · have := wsz_mono (b := b) (n := n) (c := c) (k := k) (m := m) (by omega)
      show _ ≤ wsz b n c m + (1 + n * (b + wsz b n c m + 2 + b)) + 1
      omega
theorem c_worths_of {r s : Bool} {b n m c : Nat} {l : List (List (Rat × Rat))} {q : Rat} (R : ∀ d, d ∈ l → Dr b n d) (hl : l.length ≤ m) (hq : Sz c q) (hn : n ≤ 64) (hm : m ≤ 6) (hz : (n + 1) * (b + wsz b n c (m - 1) + 2 + b) ≤ 7900) (M : MS) :
    ∃ N, f_worths_of [.d r (rw' l), .d s (fr q)] M = some (.d s (.list ((wos l q).map fr)), M ++ N) := by
  have hf := for_inv (t := r) (g := gNm 3) (b := (sSeq (sDrop (mApp (mVar 2) (mCall 2 f_add (mArgs [(mBin gIx (mVar 2) (mUn gNeg (mD true (.int 1)))), (mCall 2 f_excess_of (mArgs [(mVar 3), (mBin gIx (mVar 2) (mUn gNeg (mD true (.int 1))))]))])))) sNext)) (enc := dw)
    (fun done Δ M' => (∃ o, Δ = [some (.d r (rw' l)), some (.d s (fr q)), some (.loc M.length), o]) ∧ M' = M ++ [.lst s ((wos done.reverse q).reverse.map fr)]) l.reverse (by
      intro done a rest e Δ M' hP
      obtain ⟨⟨o, rfl⟩, rfl⟩ := hP
      refine ⟨_, tg_nm, ?_⟩
      obtain ⟨w, hw⟩ := wos_eq done.reverse q
      have e1 : (wos done.reverse q).reverse = w.reverse ++ [wo done.reverse q] := by rw [hw]; simp
      have e2 : l = rest.reverse ++ (a :: done.reverse) := by
        have := congrArg List.reverse e
        simpa using this
      have h0 : ∀ d, d ∈ done.reverse → Dr b n d := fun d hd => R d (by rw [e2]; simp at hd ⊢; exact .inr (.inr hd))
      have h1 := wo_sz hq h0
      have h2 : done.reverse.length < m := by
        have := congrArg List.length e2
        simp at this ⊢
        omega
      have h3 := wsz_mono (b := b) (n := n) (c := c) (Nat.le_sub_one_of_lt h2)
      have ha : Dr b n a := R a (by rw [e2]; simp)
      have h4 : (n + 1) * (b + wsz b n c done.reverse.length + 2 + b) ≤ 7900 := Nat.le_trans (Nat.mul_le_mul_left _ (by omega)) hz
      have h5 := exc_sz ha h1
      have h6 : (n + 1) * (b + wsz b n c done.reverse.length + 2 + b) = n * (b + wsz b n c done.reverse.length + 2 + b) + (b + wsz b n c done.reverse.length + 2 + b) := Nat.succ_mul _ _
      have hlen : (List.map fr (wos done.reverse q).reverse).length ≤ 100000 := by
        rw [List.length_map, List.length_reverse, wos_len]
        omega
      rw [e1]
      have hv : mCall 2 f_add (mArgs [(mBin gIx (mVar 2) (mUn gNeg (mD true (.int 1)))), (mCall 2 f_excess_of (mArgs [(mVar 3), (mBin gIx (mVar 2) (mUn gNeg (mD true (.int 1))))]))]) [some (.d r (rw' l)), some (.d s (fr q)), some (.loc M.length), some (.d r (dw a))] (M ++ [.lst s ((w.reverse ++ [wo done.reverse q]).map fr)]) = some (.d true (fr (wo (a :: done.reverse) q)), M ++ [.lst s ((w.reverse ++ [wo done.reverse q]).map fr)]) := by
        simp only [ev_var, ev_D, ev_bin, ev_un, ev_args0, ev_args, ev_fn, ev_call, ev_callK, ev_if, ev_B1, asB_d, ev_and, ev_or, ev_not, ev_mand, ev_mor, ev_true, ev_chain, ev_tup, ev_lst, ev_old, ev_new, ev_items, ev_lc, ev_seq, seq_nx, seq_rt, seq_bk, seq_ct, ev_next, ev_break, ev_ret, fz_d, ev_retW, ev_drop, ev_sif, ev_set, ev_par, par_2, ev_for, ev_sem, ob_some, ob_none, oif_true, oif_false, mkT2, mkT3, mkL0, mkL1, mkL2, gSub_i, gAdd_i, gLt_i, gLe_i, gGt_i, gGe_i, gEq_i, gNe_i, frIx0, frIx1, List.length_cons, List.length_nil, List.map_cons, List.map_nil, List.cons_append, List.nil_append, List.append_nil, List.replicate, List.getElem?_cons_zero, List.getElem?_cons_succ, List.set_cons_zero, List.set_cons_succ, if_true, if_false, Nat.reduceAdd, Nat.reduceSub, Bool.and_true, Bool.true_and, Bool.not_true, Bool.not_false, gNeg_i, ixM_last, nf_fr, c_excess_of ha h1 hn h4, c_add h1 h5 (by omega)]
        rfl
      have hx := app_last (a := mVar 2) (by simp only [ev_var, ev_D, ev_bin, ev_un, ev_args0, ev_args, ev_fn, ev_call, ev_callK, ev_if, ev_B1, asB_d, ev_and, ev_or, ev_not, ev_mand, ev_mor, ev_true, ev_chain, ev_tup, ev_lst, ev_old, ev_new, ev_items, ev_lc, ev_seq, seq_nx, seq_rt, seq_bk, seq_ct, ev_next, ev_break, ev_ret, fz_d, ev_retW, ev_drop, ev_sif, ev_set, ev_par, par_2, ev_for, ev_sem, ob_some, ob_none, oif_true, oif_false, mkT2, mkT3, mkL0, mkL1, mkL2, gSub_i, gAdd_i, gLt_i, gLe_i, gGt_i, gGe_i, gEq_i, gNe_i, frIx0, frIx1, List.length_cons, List.length_nil, List.map_cons, List.map_nil, List.cons_append, List.nil_append, List.append_nil, List.replicate, List.getElem?_cons_zero, List.getElem?_cons_succ, List.set_cons_zero, List.set_cons_succ, if_true, if_false, Nat.reduceAdd, Nat.reduceSub, Bool.and_true, Bool.true_and, Bool.not_true, Bool.not_false]) hv (by rw [← e1]; exact hlen)
      simp only [ev_var, ev_D, ev_bin, ev_un, ev_args0, ev_args, ev_fn, ev_call, ev_callK, ev_if, ev_B1, asB_d, ev_and, ev_or, ev_not, ev_mand, ev_mor, ev_true, ev_chain, ev_tup, ev_lst, ev_old, ev_new, ev_items, ev_lc, ev_seq, seq_nx, seq_rt, seq_bk, seq_ct, ev_next, ev_break, ev_ret, fz_d, ev_retW, ev_drop, ev_sif, ev_set, ev_par, par_2, ev_for, ev_sem, ob_some, ob_none, oif_true, oif_false, mkT2, mkT3, mkL0, mkL1, mkL2, gSub_i, gAdd_i, gLt_i, gLe_i, gGt_i, gGe_i, gEq_i, gNe_i, frIx0, frIx1, List.length_cons, List.length_nil, List.map_cons, List.map_nil, List.cons_append, List.nil_append, List.append_nil, List.replicate, List.getElem?_cons_zero, List.getElem?_cons_succ, List.set_cons_zero, List.set_cons_succ, if_true, if_false, Nat.reduceAdd, Nat.reduceSub, Bool.and_true, Bool.true_and, Bool.not_true, Bool.not_false, nf_dw, hx]
      refine ⟨_, _, rfl, ⟨_, rfl⟩, ?_⟩
      congr 3
      rw [← e1]
      simp [wos]) [some (.d r (rw' l)), some (.d s (fr q)), some (.loc M.length), none] (M ++ [.lst s ([q].map fr)]) ⟨⟨_, rfl⟩, rfl⟩
  obtain ⟨Δ', M', h1, ⟨o, rfl⟩, rfl⟩ := hf
  unfold f_worths_of
  refine ⟨[.lst s ((wos l q).reverse.map fr)], ?_⟩
  rw [List.reverse_reverse] at h1
  have e3 : rqK (.d r (rw' l), M ++ [.lst s ([q].map fr)]) = some (.d r (.tuple (l.reverse.map dw)), M ++ [.lst s ([q].map fr)]) := by
    unfold rw'
    rw [rq_t, List.map_reverse]
  simp only [List.map_cons, List.map_nil] at h1 e3
  simp only [ev_var, ev_D, ev_bin, ev_un, ev_args0, ev_args, ev_fn, ev_call, ev_callK, ev_if, ev_B1, asB_d, ev_and, ev_or, ev_not, ev_mand, ev_mor, ev_true, ev_chain, ev_tup, ev_lst, ev_old, ev_new, ev_items, ev_lc, ev_seq, seq_nx, seq_rt, seq_bk, seq_ct, ev_next, ev_break, ev_ret, fz_d, ev_retW, ev_drop, ev_sif, ev_set, ev_par, par_2, ev_for, ev_sem, ob_some, ob_none, oif_true, oif_false, mkT2, mkT3, mkL0, mkL1, mkL2, gSub_i, gAdd_i, gLt_i, gLe_i, gGt_i, gGe_i, gEq_i, gNe_i, frIx0, frIx1, List.length_cons, List.length_nil, List.map_cons, List.map_nil, List.cons_append, List.nil_append, List.append_nil, List.replicate, List.getElem?_cons_zero, List.getElem?_cons_succ, List.set_cons_zero, List.set_cons_succ, if_true, if_false, Nat.reduceAdd, Nat.reduceSub, Bool.and_true, Bool.true_and, Bool.not_true, Bool.not_false, ev_revq, e3, fzQ_t, h1, rq_last]
  simp
theorem c_worths_from {r s : Bool} {b n m c : Nat} {l : List (List (Rat × Rat))} {q : Rat} (R : Rw b n m l) (hq : Sz c q) (hn : n ≤ 64) (hm : m ≤ 6) (hz : (n + 1) * (b + wsz b n c (m - 1) + 2 + b) ≤ 7900) (M : MS) :
    ∃ N, f_worths_from [.d r (rw' l), .d s (fr q)] M = some (.d s (.tuple ((wos l q).map fr)), M ++ N) := by
  obtain ⟨N, hN⟩ := c_worths_of (r := r) (s := s) R.dr R.len hq hn hm hz M
  have h1 : (n + 1) * (b + 1) ≤ 7900 := Nat.le_trans (Nat.mul_le_mul_left _ (by omega)) hz
  refine ⟨N, ?_⟩
  unfold f_worths_from f_worths_behind
  simp only [ev_var, ev_D, ev_bin, ev_un, ev_args0, ev_args, ev_fn, ev_call, ev_callK, ev_if, ev_B1, asB_d, ev_and, ev_or, ev_not, ev_mand, ev_mor, ev_true, ev_chain, ev_tup, ev_lst, ev_old, ev_new, ev_items, ev_lc, ev_seq, seq_nx, seq_rt, seq_bk, seq_ct, ev_next, ev_break, ev_ret, fz_d, ev_retW, ev_drop, ev_sif, ev_set, ev_par, par_2, ev_for, ev_sem, ob_some, ob_none, oif_true, oif_false, mkT2, mkT3, mkL0, mkL1, mkL2, gSub_i, gAdd_i, gLt_i, gLe_i, gGt_i, gGe_i, gEq_i, gNe_i, frIx0, frIx1, List.length_cons, List.length_nil, List.map_cons, List.map_nil, List.cons_append, List.nil_append, List.append_nil, List.replicate, List.getElem?_cons_zero, List.getElem?_cons_succ, List.set_cons_zero, List.set_cons_succ, if_true, if_false, Nat.reduceAdd, Nat.reduceSub, Bool.and_true, Bool.true_and, Bool.not_true, Bool.not_false, c_check_row_rest R hm hn h1, hN, bTuple_l]

/-- the numbers that are at least a bar -/
def high (x : Rat) (d : List (Rat × Rat)) : List (Rat × Rat) := d.filter fun z => !decide (z.1 < x)
def barS (x : Rat) (s : Rat × Rat) (d : List (Rat × Rat)) : Rat × Rat := (s.1 + s.2 * mean' (high x d), s.2 * (1 - ((high x d).map (·.2)).sum))
def bw (l : List (List (Rat × Rat))) (q x : Rat) : Rat := (l.foldl (barS x) (0, 1)).1 + (l.foldl (barS x) (0, 1)).2 * q
theorem sz_1 : Sz 1 1 := ⟨by decide, by decide⟩
theorem high_len (x : Rat) (d : List (Rat × Rat)) : (high x d).length ≤ d.length := List.length_filter_le _ _
theorem high_mem {x : Rat} {d : List (Rat × Rat)} {z : Rat × Rat} (h : z ∈ high x d) : z ∈ d := (List.mem_filter.mp h).1
theorem sum_szn {b n : Nat} {l : List Rat} (h : ∀ q, q ∈ l → Sz b q) (hn : l.length ≤ n) : Sz (1 + n * (b + 1)) l.sum :=
  (sum_sz h).mono (Nat.add_le_add_left (Nat.mul_le_mul_right _ hn) _)
theorem c_high_mean {t : Bool} {b n : Nat} {d : List (Rat × Rat)} {x : Rat} (D : Dr b n d) (hn : n ≤ 64) (hb : (n + 1) * (b + b + 1) ≤ 7900) {o0 o1 o2 o3 o4 o5 o6 o7 o8 : Option W} (M : MS) :
    lcGo t (gTp (gsCons (gNm 7) (gsCons (gNm 8) gsNil))) tTrue (mCall 2 f_weighed (mArgs [(mVar 7), (mVar 8)])) [o0, o1, o2, o3, o4, o5, o6, o7, o8] ((high x d).map pr) M = some ((true, (((high x d).map fun z => z.1 * z.2).map fr)), M) := by
  have g6 : b + b ≤ 8000 := by
    have : 1 * (b + b + 1) ≤ (n + 1) * (b + b + 1) := Nat.mul_le_mul_right _ (by omega)
    omega
  rw [lc_map (fun z : Rat × Rat => fr (z.1 * z.2)) (fun _ => true) _ fun z hz => by
      have hz := high_mem hz
      refine ⟨_, tg_pr, ?_⟩
      simp only [ev_var, ev_D, ev_bin, ev_un, ev_args0, ev_args, ev_fn, ev_call, ev_callK, ev_if, ev_B1, asB_d, ev_and, ev_or, ev_not, ev_mand, ev_mor, ev_true, ev_chain, ev_tup, ev_lst, ev_old, ev_new, ev_items, ev_lc, ev_seq, seq_nx, seq_rt, seq_bk, seq_ct, ev_next, ev_break, ev_ret, fz_d, ev_retW, ev_drop, ev_sif, ev_set, ev_par, par_2, ev_for, ev_sem, ob_some, ob_none, oif_true, oif_false, mkT2, mkT3, mkL0, mkL1, mkL2, gSub_i, gAdd_i, gLt_i, gLe_i, gGt_i, gGe_i, gEq_i, gNe_i, frIx0, frIx1, List.length_cons, List.length_nil, List.map_cons, List.map_nil, List.cons_append, List.nil_append, List.append_nil, List.replicate, List.getElem?_cons_zero, List.getElem?_cons_succ, List.set_cons_zero, List.set_cons_succ, if_true, if_false, Nat.reduceAdd, Nat.reduceSub, Bool.and_true, Bool.true_and, Bool.not_true, Bool.not_false, c_weighed (r := t) (s := t) (D.sz z hz).1 (D.sz z hz).2 g6 M]]
  simp
theorem c_high_part {t : Bool} {d : List (Rat × Rat)} {x : Rat} {o0 o1 o2 o3 o4 o5 o6 o7 o8 : Option W} (M : MS) :
    lcGo t (gTp (gsCons (gNm 7) (gsCons (gNm 8) gsNil))) tTrue (mVar 8) [o0, o1, o2, o3, o4, o5, o6, o7, o8] ((high x d).map pr) M = some (((high x d).all fun _ => t, (((high x d).map fun z => z.2).map fr)), M) := by
  rw [lc_map (fun z : Rat × Rat => fr z.2) (fun _ => t) _ fun z hz => by
      refine ⟨_, tg_pr, ?_⟩
      simp only [ev_var, ev_D, ev_bin, ev_un, ev_args0, ev_args, ev_fn, ev_call, ev_callK, ev_if, ev_B1, asB_d, ev_and, ev_or, ev_not, ev_mand, ev_mor, ev_true, ev_chain, ev_tup, ev_lst, ev_old, ev_new, ev_items, ev_lc, ev_seq, seq_nx, seq_rt, seq_bk, seq_ct, ev_next, ev_break, ev_ret, fz_d, ev_retW, ev_drop, ev_sif, ev_set, ev_par, par_2, ev_for, ev_sem, ob_some, ob_none, oif_true, oif_false, mkT2, mkT3, mkL0, mkL1, mkL2, gSub_i, gAdd_i, gLt_i, gLe_i, gGt_i, gGe_i, gEq_i, gNe_i, frIx0, frIx1, List.length_cons, List.length_nil, List.map_cons, List.map_nil, List.cons_append, List.nil_append, List.append_nil, List.replicate, List.getElem?_cons_zero, List.getElem?_cons_succ, List.set_cons_zero, List.set_cons_succ, if_true, if_false, Nat.reduceAdd, Nat.reduceSub, Bool.and_true, Bool.true_and, Bool.not_true, Bool.not_false]]
  simp
theorem c_high {r s : Bool} {b n c : Nat} {d : List (Rat × Rat)} {x : Rat} (D : Dr b n d) (X : Sz c x) (hb : b + c ≤ 8000) {Δ : Sl} (M : MS) (hΔ : Δ.length = 9) (h2 : Δ[2]? = some (some (.d s (fr x)))) :
    ∃ t, lcGo r (gTp (gsCons (gNm 7) (gsCons (gNm 8) gsNil))) (tNot' (tB1 (mCall 2 f_is_below (mArgs [(mVar 7), (mVar 2)])))) (mTup (mArgs [(mVar 7), (mVar 8)])) Δ (d.map pr) M = some ((t, ((high x d).map pr)), M) := by
  refine ⟨_, lc_enc (fun z => !decide (z.1 < x)) pr (fun _ => r && r) _ fun z hz => ?_⟩
  refine ⟨_, tg_pr, ?_⟩
  have e2 : (((Δ.set 7 (some (.d r (fr z.1)))).set 8 (some (.d r (fr z.2)))))[2]? = some (some (.d s (fr x))) := by simp [h2]
  have e7 : (((Δ.set 7 (some (.d r (fr z.1)))).set 8 (some (.d r (fr z.2)))))[7]? = some (some (.d r (fr z.1))) := by simp [hΔ]
  have e8 : (((Δ.set 7 (some (.d r (fr z.1)))).set 8 (some (.d r (fr z.2)))))[8]? = some (some (.d r (fr z.2))) := by simp [hΔ]
  constructor
  · simp only [ev_var, ev_D, ev_bin, ev_un, ev_args0, ev_args, ev_fn, ev_call, ev_callK, ev_if, ev_B1, asB_d, ev_and, ev_or, ev_not, ev_mand, ev_mor, ev_true, ev_chain, ev_tup, ev_lst, ev_old, ev_new, ev_items, ev_lc, ev_seq, seq_nx, seq_rt, seq_bk, seq_ct, ev_next, ev_break, ev_ret, fz_d, ev_retW, ev_drop, ev_sif, ev_set, ev_par, par_2, ev_for, ev_sem, ob_some, ob_none, oif_true, oif_false, mkT2, mkT3, mkL0, mkL1, mkL2, gSub_i, gAdd_i, gLt_i, gLe_i, gGt_i, gGe_i, gEq_i, gNe_i, frIx0, frIx1, List.length_cons, List.length_nil, List.map_cons, List.map_nil, List.cons_append, List.nil_append, List.append_nil, List.replicate, List.getElem?_cons_zero, List.getElem?_cons_succ, List.set_cons_zero, List.set_cons_succ, if_true, if_false, Nat.reduceAdd, Nat.reduceSub, Bool.and_true, Bool.true_and, Bool.not_true, Bool.not_false, e2, e7, e8, c_below (r := r) (s := s) (D.sz z hz).1 X hb M]
  · intro _
    simp only [ev_var, ev_D, ev_bin, ev_un, ev_args0, ev_args, ev_fn, ev_call, ev_callK, ev_if, ev_B1, asB_d, ev_and, ev_or, ev_not, ev_mand, ev_mor, ev_true, ev_chain, ev_tup, ev_lst, ev_old, ev_new, ev_items, ev_lc, ev_seq, seq_nx, seq_rt, seq_bk, seq_ct, ev_next, ev_break, ev_ret, fz_d, ev_retW, ev_drop, ev_sif, ev_set, ev_par, par_2, ev_for, ev_sem, ob_some, ob_none, oif_true, oif_false, mkT2, mkT3, mkL0, mkL1, mkL2, gSub_i, gAdd_i, gLt_i, gLe_i, gGt_i, gGe_i, gEq_i, gNe_i, frIx0, frIx1, List.length_cons, List.length_nil, List.map_cons, List.map_nil, List.cons_append, List.nil_append, List.append_nil, List.replicate, List.getElem?_cons_zero, List.getElem?_cons_succ, List.set_cons_zero, List.set_cons_succ, if_true, if_false, Nat.reduceAdd, Nat.reduceSub, Bool.and_true, Bool.true_and, Bool.not_true, Bool.not_false, e7, e8]
    rfl
theorem c_bar {r s u : Bool} {b n m c e : Nat} {l : List (List (Rat × Rat))} {q x : Rat} (R : Rw b n m l) (hq : Sz c q) (X : Sz e x) (hn : n ≤ 64) (hm : m ≤ 6) (hbe : b + e ≤ 8000)
    (hb : (n + 1) * (b + b + 1) ≤ 3000) (hz : 1 + (m + 1) * (2 + m * (3 + n * (b + 1)) + (1 + n * (b + b + 1))) + c ≤ 7000) (M : MS) :
    f_bar_worth [.d r (rw' l), .d s (fr q), .d u (fr x)] M = some (.d true (fr (bw l q x)), M) := by
  have hf := for_inv (t := r) (g := gNm 5) (b := (sSeq (sSet 6 (mOld (mLc (mItems (mVar 5)) (gTp (gsCons (gNm 7) (gsCons (gNm 8) gsNil))) (tNot' (tB1 (mCall 2 f_is_below (mArgs [(mVar 7), (mVar 2)])))) (mTup (mArgs [(mVar 7), (mVar 8)])) [7, 8]))) (sSeq (sSet 3 (mCall 2 f_add (mArgs [(mVar 3), (mCall 2 f_weighed (mArgs [(mVar 4), (mCall 1 f_total (mArgs [(mOld (mLc (mItems (mVar 6)) (gTp (gsCons (gNm 7) (gsCons (gNm 8) gsNil))) tTrue (mCall 2 f_weighed (mArgs [(mVar 7), (mVar 8)])) [7, 8]))]))]))]))) (sSeq (sSet 4 (mCall 2 f_weighed (mArgs [(mVar 4), (mCall 2 f_less (mArgs [(mD false (.tuple [.int 1, .int 1])), (mCall 1 f_total (mArgs [(mOld (mLc (mItems (mVar 6)) (gTp (gsCons (gNm 7) (gsCons (gNm 8) gsNil))) tTrue (mVar 8) [7, 8]))]))]))]))) sNext)))) (enc := dw)
    (fun done Δ M' => M' = M ∧ Sz (1 + done.length * (2 + m * (3 + n * (b + 1)) + (1 + n * (b + b + 1)))) (done.foldl (barS x) (0, 1)).1 ∧ Sz (1 + done.length * (3 + n * (b + 1))) (done.foldl (barS x) (0, 1)).2 ∧ ∃ f g o5 o6 o7 o8, Δ = [some (.d r (rw' l)), some (.d s (fr q)), some (.d u (fr x)), some (.d f (fr (done.foldl (barS x) (0, 1)).1)), some (.d g (fr (done.foldl (barS x) (0, 1)).2)), o5, o6, o7, o8]) l (by
      intro done a rest el Δ M' hP
      obtain ⟨rfl, hF, hC, f, g, o5, o6, o7, o8, rfl⟩ := hP
      refine ⟨_, tg_nm, ?_⟩
      have D : Dr b n a := R.dr a (by rw [el]; simp)
      have gl : done.length + 1 ≤ m := by
        have := R.len
        rw [el] at this
        simp at this
        omega
      have gd := D.len
      have g5 : a.length ≤ 100000 := by omega
      have g7 := Nat.le_trans (high_len x a) gd
      have g8 : (high x a).length ≤ 100000 := by omega
      obtain ⟨t, ht⟩ := c_high (r := r) (s := u) D X hbe (Δ := [some (.d r (rw' l)), some (.d s (fr q)), some (.d u (fr x)), some (.d f (fr (done.foldl (barS x) (0, 1)).1)), some (.d g (fr (done.foldl (barS x) (0, 1)).2)), some (.d r (dw a)), o6, none, none]) M' rfl rfl
      have s1 : ∀ q, q ∈ (high x a).map (fun z => z.1 * z.2) → Sz (b + b) q := by
        intro q hq
        obtain ⟨z, hz, rfl⟩ := List.mem_map.mp hq
        exact mul_sz (D.sz z (high_mem hz)).1 (D.sz z (high_mem hz)).2
      have s2 : ∀ q, q ∈ (high x a).map (fun z => z.2) → Sz b q := by
        intro q hq
        obtain ⟨z, hz, rfl⟩ := List.mem_map.mp hq
        exact (D.sz z (high_mem hz)).2
      have l1 : ((high x a).map fun z : Rat × Rat => z.1 * z.2).length ≤ n := by rw [List.length_map]; exact g7
      have l2 : ((high x a).map fun z : Rat × Rat => z.2).length ≤ n := by rw [List.length_map]; exact g7
      have z1 := sum_szn s1 l1
      have z2 := sub_sz sz_1 (sum_szn s2 l2)
      have b1 : (n + 1) * (b + 1) ≤ (n + 1) * (b + b + 1) := Nat.mul_le_mul_left _ (by omega)
      have b2 : (n + 1) * (b + b + 1) = n * (b + b + 1) + (b + b + 1) := Nat.succ_mul _ _
      have b3 : (n + 1) * (b + 1) = n * (b + 1) + (b + 1) := Nat.succ_mul _ _
      have b4 : done.length * (3 + n * (b + 1)) + (3 + n * (b + 1)) ≤ m * (3 + n * (b + 1)) := by
        rw [← Nat.succ_mul]
        exact Nat.mul_le_mul_right _ gl
      have b5 : (done.length + 1) * (2 + m * (3 + n * (b + 1)) + (1 + n * (b + b + 1))) ≤ m * (2 + m * (3 + n * (b + 1)) + (1 + n * (b + b + 1))) := Nat.mul_le_mul_right _ gl
      have b6 : (done.length + 1) * (2 + m * (3 + n * (b + 1)) + (1 + n * (b + b + 1))) = done.length * (2 + m * (3 + n * (b + 1)) + (1 + n * (b + b + 1))) + (2 + m * (3 + n * (b + 1)) + (1 + n * (b + b + 1))) := Nat.succ_mul _ _
      have b7 : (m + 1) * (2 + m * (3 + n * (b + 1)) + (1 + n * (b + b + 1))) = m * (2 + m * (3 + n * (b + 1)) + (1 + n * (b + b + 1))) + (2 + m * (3 + n * (b + 1)) + (1 + n * (b + b + 1))) := Nat.succ_mul _ _
      have b8 : (done.length + 1) * (3 + n * (b + 1)) = done.length * (3 + n * (b + 1)) + (3 + n * (b + 1)) := Nat.succ_mul _ _
      have m1 := mul_sz hC z1
      have m2 := mul_sz hC z2
      have t1 := fun t => c_total (r := t) s1 l1 (by omega) M'
      have t2 := fun t => c_total (r := t) s2 l2 (by omega) M'
      have w1 := fun t t' => c_weighed (r := t) (s := t') hC z1 (by omega) M'
      have w2 := fun t t' => c_weighed (r := t) (s := t') hC z2 (by omega) M'
      have w3 := fun t t' => c_less (r := t) (s := t') sz_1 (sum_szn s2 l2) (by omega) M'
      have a1 := fun t t' => c_add (r := t) (s := t') hF m1 (by omega) M'
      simp only [ev_var, ev_D, ev_bin, ev_un, ev_args0, ev_args, ev_fn, ev_call, ev_callK, ev_if, ev_B1, asB_d, ev_and, ev_or, ev_not, ev_mand, ev_mor, ev_true, ev_chain, ev_tup, ev_lst, ev_old, ev_new, ev_items, ev_lc, ev_seq, seq_nx, seq_rt, seq_bk, seq_ct, ev_next, ev_break, ev_ret, fz_d, ev_retW, ev_drop, ev_sif, ev_set, ev_par, par_2, ev_for, ev_sem, ob_some, ob_none, oif_true, oif_false, mkT2, mkT3, mkL0, mkL1, mkL2, gSub_i, gAdd_i, gLt_i, gLe_i, gGt_i, gGe_i, gEq_i, gNe_i, frIx0, frIx1, List.length_cons, List.length_nil, List.map_cons, List.map_nil, List.cons_append, List.nil_append, List.append_nil, List.replicate, List.getElem?_cons_zero, List.getElem?_cons_succ, List.set_cons_zero, List.set_cons_succ, if_true, if_false, Nat.reduceAdd, Nat.reduceSub, Bool.and_true, Bool.true_and, Bool.not_true, Bool.not_false, nf_dw, fzQ_dw, List.length_map, g5, wipeD, ht]
      simp only [ev_var, ev_D, ev_bin, ev_un, ev_args0, ev_args, ev_fn, ev_call, ev_callK, ev_if, ev_B1, asB_d, ev_and, ev_or, ev_not, ev_mand, ev_mor, ev_true, ev_chain, ev_tup, ev_lst, ev_old, ev_new, ev_items, ev_lc, ev_seq, seq_nx, seq_rt, seq_bk, seq_ct, ev_next, ev_break, ev_ret, fz_d, ev_retW, ev_drop, ev_sif, ev_set, ev_par, par_2, ev_for, ev_sem, ob_some, ob_none, oif_true, oif_false, mkT2, mkT3, mkL0, mkL1, mkL2, gSub_i, gAdd_i, gLt_i, gLe_i, gGt_i, gGe_i, gEq_i, gNe_i, frIx0, frIx1, List.length_cons, List.length_nil, List.map_cons, List.map_nil, List.cons_append, List.nil_append, List.append_nil, List.replicate, List.getElem?_cons_zero, List.getElem?_cons_succ, List.set_cons_zero, List.set_cons_succ, if_true, if_false, Nat.reduceAdd, Nat.reduceSub, Bool.and_true, Bool.true_and, Bool.not_true, Bool.not_false, fzQ_l, List.length_map, g8, wipeD, c_high_mean D hn (Nat.le_trans hb (by decide)) M', t1, w1, a1]
      simp only [ev_var, ev_D, ev_bin, ev_un, ev_args0, ev_args, ev_fn, ev_call, ev_callK, ev_if, ev_B1, asB_d, ev_and, ev_or, ev_not, ev_mand, ev_mor, ev_true, ev_chain, ev_tup, ev_lst, ev_old, ev_new, ev_items, ev_lc, ev_seq, seq_nx, seq_rt, seq_bk, seq_ct, ev_next, ev_break, ev_ret, fz_d, ev_retW, ev_drop, ev_sif, ev_set, ev_par, par_2, ev_for, ev_sem, ob_some, ob_none, oif_true, oif_false, mkT2, mkT3, mkL0, mkL1, mkL2, gSub_i, gAdd_i, gLt_i, gLe_i, gGt_i, gGe_i, gEq_i, gNe_i, frIx0, frIx1, List.length_cons, List.length_nil, List.map_cons, List.map_nil, List.cons_append, List.nil_append, List.append_nil, List.replicate, List.getElem?_cons_zero, List.getElem?_cons_succ, List.set_cons_zero, List.set_cons_succ, if_true, if_false, Nat.reduceAdd, Nat.reduceSub, Bool.and_true, Bool.true_and, Bool.not_true, Bool.not_false, fzQ_l, List.length_map, g8, wipeD, c_high_part M', t2, fr_1, w3, w2]
      refine ⟨_, _, rfl, rfl, ?_, ?_, true, true, some (.d r (dw a)), some (.d t (.list ((high x a).map pr))), o7, o8, ?_⟩
      · rw [List.foldl_append]
        exact (add_sz hF m1).mono (by simp; omega)
      · rw [List.foldl_append]
        exact m2.mono (by simp; omega)
      · rw [List.foldl_append]
        rfl) [some (.d r (rw' l)), some (.d s (fr q)), some (.d u (fr x)), some (.d false (fr 0)), some (.d false (fr 1)), none, none, none, none] M ⟨rfl, sz_0.mono (by simp), sz_1.mono (by simp), _, _, _, _, _, _, rfl⟩
  obtain ⟨Δ', M', h1, rfl, hF, hC, f, g, o5, o6, o7, o8, rfl⟩ := hf
  have h9 : (n + 1) * (b + 1) ≤ 7900 := Nat.le_trans (Nat.mul_le_mul_left _ (by omega)) (Nat.le_trans hb (by decide))
  have k1 : l.length * (3 + n * (b + 1)) ≤ m * (3 + n * (b + 1)) := Nat.mul_le_mul_right _ R.len
  have k2 : l.length * (2 + m * (3 + n * (b + 1)) + (1 + n * (b + b + 1))) ≤ m * (2 + m * (3 + n * (b + 1)) + (1 + n * (b + b + 1))) := Nat.mul_le_mul_right _ R.len
  have b7 : (m + 1) * (2 + m * (3 + n * (b + 1)) + (1 + n * (b + b + 1))) = m * (2 + m * (3 + n * (b + 1)) + (1 + n * (b + b + 1))) + (2 + m * (3 + n * (b + 1)) + (1 + n * (b + b + 1))) := Nat.succ_mul _ _
  have m1 := mul_sz hC hq
  have w1 := c_weighed (r := g) (s := s) hC hq (by omega) M'
  have a1 := c_add (r := f) (s := true) hF m1 (by omega) M'
  simp only [fr_1] at h1
  unfold f_bar_worth
  simp only [ev_var, ev_D, ev_bin, ev_un, ev_args0, ev_args, ev_fn, ev_call, ev_callK, ev_if, ev_B1, asB_d, ev_and, ev_or, ev_not, ev_mand, ev_mor, ev_true, ev_chain, ev_tup, ev_lst, ev_old, ev_new, ev_items, ev_lc, ev_seq, seq_nx, seq_rt, seq_bk, seq_ct, ev_next, ev_break, ev_ret, fz_d, ev_retW, ev_drop, ev_sif, ev_set, ev_par, par_2, ev_for, ev_sem, ob_some, ob_none, oif_true, oif_false, mkT2, mkT3, mkL0, mkL1, mkL2, gSub_i, gAdd_i, gLt_i, gLe_i, gGt_i, gGe_i, gEq_i, gNe_i, frIx0, frIx1, List.length_cons, List.length_nil, List.map_cons, List.map_nil, List.cons_append, List.nil_append, List.append_nil, List.replicate, List.getElem?_cons_zero, List.getElem?_cons_succ, List.set_cons_zero, List.set_cons_succ, if_true, if_false, Nat.reduceAdd, Nat.reduceSub, Bool.and_true, Bool.true_and, Bool.not_true, Bool.not_false, c_check_row_rest R hm hn h9, c_check_number, fr_0, fr_1, fzQ_rw, h1, w1, a1]
  rfl

theorem gMul_l {r s : Bool} {x y : Int} {M : MS} (h1 : -18446744073709551616 < x) (h2 : x < 18446744073709551616) : gMul (.d r (.int x)) (.d s (.int y)) M = some (.d true (.int (x * y)), M) := gMul_i (.inl (.inl ⟨h1, h2⟩))
theorem gMul_r {r s : Bool} {x y : Int} {M : MS} (h1 : -18446744073709551616 < y) (h2 : y < 18446744073709551616) : gMul (.d r (.int x)) (.d s (.int y)) M = some (.d true (.int (x * y)), M) := gMul_i (.inl (.inr ⟨h1, h2⟩))
theorem gFdiv_l {r s : Bool} {x y : Int} {M : MS} (h1 : 0 < y) (h2 : y < 18446744073709551616) : gFdiv (.d r (.int x)) (.d s (.int y)) M = some (.d true (.int (x / y)), M) := gFdiv_i (divE (b := 64) h1 (by omega) (by decide))
theorem set_get {M : MS} {j : Nat} {o o' : MO} (h : M[j]? = some o') : (M.set j o)[j]? = some o := by
  have : j < M.length := by
    rcases Nat.lt_or_ge j M.length with h1 | h1
    · exact h1
    · rw [List.getElem?_eq_none h1] at h; cases h
  simp [this]
theorem loc_ix {M : MS} {j : Nat} {t s : Bool} {xs : List PD} {k : Int} {y : PD} (h : M[j]? = some (.lst t xs)) (e : atI xs k = some y) : gIx (.loc j) (.d s (.int k)) M = some (.d (nf t y) y, M) := by
  show (match (match M[j]? with
    | some (.lst t xs) => some (t, xs)
    | some (.fzn t xs) => some (t, xs)
    | _ => none) with
    | some (t, xs) => (match atI xs k with
      | some y => some (W.d (nf t y) y, M)
      | none => none)
    | none => none) = _
  rw [h]
  simp only [e]
theorem sub_at {M M1 : MS} {Δ : Sl} {o i e : Sm W} {s t u : Bool} {x : PD} {n j : Nat} {k : Int} {xs : List PD} (he : e Δ M = some (.d s x, M1)) (ho : o Δ M1 = some (.loc n, M1)) (hi : i Δ M1 = some (.d u (.int k), M1)) (hM : M1[n]? = some (.lst t xs)) (hj : ixN xs.length k = some j) :
    sSub o i e Δ M = some (.nx, Δ, M1.set n (.lst (t && s) (xs.set j x))) := by
  unfold sSub
  rw [he]
  simp only [fz1]
  rw [ho]
  simp only []
  rw [hi]
  simp only [setAt, hM, hj]
theorem subnm_at {M M1 : MS} {Δ : Sl} {o i e : Sm W} {s t u : Bool} {x y : PD} {n j l : Nat} {k : Int} {xs : List PD} (he : e Δ M = some (.d s (.tuple [x, y]), M1)) (ho : o Δ M1 = some (.loc n, M1)) (hi : i Δ M1 = some (.d u (.int k), M1)) (hM : M1[n]? = some (.lst t xs)) (hj : ixN xs.length k = some j) :
    sSubNm o i l e Δ M = some (.nx, Δ.set l (some (.d (nf s y) y)), M1.set n (.lst (t && s) (xs.set j x))) := by
  unfold sSubNm
  rw [he]
  simp only []
  rw [ho]
  simp only []
  rw [hi]
  simp only [setAt, hM, hj]
theorem divm_i {r s : Bool} {x y : Int} {M : MS} (h : 0 < y) (h2 : y < 1073741824) : bDivmod [.d r (.int x), .d s (.int y)] M = some (.d true (.tuple [.int (x / y), .int (x % y)]), M) := if_pos ⟨h, h2⟩
theorem c_pour {r : Bool} {j top : Nat} {M : MS} (F : Fk j M) (h0 : 0 < top) (h1 : top < 1000) : ∃ v : Nat, v < top ∧ ∃ M', f__law_pour [.loc j, .d r (.int top)] M = some (.d true (.int v), M') ∧ Fk j M' := by
  obtain ⟨a, i, c, hM⟩ := F
  have t0 : (0 : Int) < (top : Int) := by omega
  have t1 : (top : Int) < 1073741824 := by omega
  have x1 : sSub (mVar 0) (mD true (.int 1)) (mBin gAdd (mBin gIx (mVar 0) (mD true (.int 1))) (mD true (.int 1))) [some (.loc j), some (.d r (.int top)), none, none, none] M = some (.nx, [some (.loc j), some (.d r (.int top)), none, none, none], M.set j (.lst true [.int a, .int (i + 1), .int c])) :=
    sub_at (t := true) (u := true) (s := true) (x := .int (i + 1)) (n := j) (j := 1) (k := 1) (xs := [.int a, .int i, .int c]) (by simp only [ev_var, ev_D, ev_bin, ev_un, ev_args0, ev_args, ev_fn, ev_call, ev_callK, ev_if, ev_B1, asB_d, ev_and, ev_or, ev_not, ev_mand, ev_mor, ev_true, ev_chain, ev_tup, ev_lst, ev_old, ev_new, ev_items, ev_lc, ev_seq, seq_nx, seq_rt, seq_bk, seq_ct, ev_next, ev_break, ev_ret, fz_d, ev_retW, ev_drop, ev_sif, ev_set, ev_par, par_2, ev_for, ev_sem, ob_some, ob_none, oif_true, oif_false, mkT2, mkT3, mkL0, mkL1, mkL2, gSub_i, gAdd_i, gLt_i, gLe_i, gGt_i, gGe_i, gEq_i, gNe_i, frIx0, frIx1, List.length_cons, List.length_nil, List.map_cons, List.map_nil, List.cons_append, List.nil_append, List.append_nil, List.replicate, List.getElem?_cons_zero, List.getElem?_cons_succ, List.set_cons_zero, List.set_cons_succ, if_true, if_false, Nat.reduceAdd, Nat.reduceSub, Bool.and_true, Bool.true_and, Bool.not_true, Bool.not_false, loc_ix hM (k := 1) (y := .int i) rfl, nf_i]) (by simp only [ev_var, ev_D, ev_bin, ev_un, ev_args0, ev_args, ev_fn, ev_call, ev_callK, ev_if, ev_B1, asB_d, ev_and, ev_or, ev_not, ev_mand, ev_mor, ev_true, ev_chain, ev_tup, ev_lst, ev_old, ev_new, ev_items, ev_lc, ev_seq, seq_nx, seq_rt, seq_bk, seq_ct, ev_next, ev_break, ev_ret, fz_d, ev_retW, ev_drop, ev_sif, ev_set, ev_par, par_2, ev_for, ev_sem, ob_some, ob_none, oif_true, oif_false, mkT2, mkT3, mkL0, mkL1, mkL2, gSub_i, gAdd_i, gLt_i, gLe_i, gGt_i, gGe_i, gEq_i, gNe_i, frIx0, frIx1, List.length_cons, List.length_nil, List.map_cons, List.map_nil, List.cons_append, List.nil_append, List.append_nil, List.replicate, List.getElem?_cons_zero, List.getElem?_cons_succ, List.set_cons_zero, List.set_cons_succ, if_true, if_false, Nat.reduceAdd, Nat.reduceSub, Bool.and_true, Bool.true_and, Bool.not_true, Bool.not_false]) (by simp only [ev_var, ev_D, ev_bin, ev_un, ev_args0, ev_args, ev_fn, ev_call, ev_callK, ev_if, ev_B1, asB_d, ev_and, ev_or, ev_not, ev_mand, ev_mor, ev_true, ev_chain, ev_tup, ev_lst, ev_old, ev_new, ev_items, ev_lc, ev_seq, seq_nx, seq_rt, seq_bk, seq_ct, ev_next, ev_break, ev_ret, fz_d, ev_retW, ev_drop, ev_sif, ev_set, ev_par, par_2, ev_for, ev_sem, ob_some, ob_none, oif_true, oif_false, mkT2, mkT3, mkL0, mkL1, mkL2, gSub_i, gAdd_i, gLt_i, gLe_i, gGt_i, gGe_i, gEq_i, gNe_i, frIx0, frIx1, List.length_cons, List.length_nil, List.map_cons, List.map_nil, List.cons_append, List.nil_append, List.append_nil, List.replicate, List.getElem?_cons_zero, List.getElem?_cons_succ, List.set_cons_zero, List.set_cons_succ, if_true, if_false, Nat.reduceAdd, Nat.reduceSub, Bool.and_true, Bool.true_and, Bool.not_true, Bool.not_false]) hM rfl
  have hM1 := set_get (o := .lst true [.int a, .int (i + 1), .int c]) hM
  generalize hN : M.set j (.lst true [.int a, .int (i + 1), .int c]) = M1 at x1 hM1
  by_cases hc : 0 < c
  · have x2 : sSubNm (mVar 0) (mD true (.int 2)) 2 (mFn bDivmod (mArgs [(mFn bInt (mArgs [(mBin gIx (mVar 0) (mD true (.int 2)))])), (mVar 1)])) [some (.loc j), some (.d r (.int top)), none, none, none] M1 = _ :=
      subnm_at (t := true) (u := true) (s := true) (x := .int (c / top)) (y := .int (c % top)) (n := j) (j := 2) (k := 2) (xs := [.int a, .int (i + 1), .int c]) (by simp only [ev_var, ev_D, ev_bin, ev_un, ev_args0, ev_args, ev_fn, ev_call, ev_callK, ev_if, ev_B1, asB_d, ev_and, ev_or, ev_not, ev_mand, ev_mor, ev_true, ev_chain, ev_tup, ev_lst, ev_old, ev_new, ev_items, ev_lc, ev_seq, seq_nx, seq_rt, seq_bk, seq_ct, ev_next, ev_break, ev_ret, fz_d, ev_retW, ev_drop, ev_sif, ev_set, ev_par, par_2, ev_for, ev_sem, ob_some, ob_none, oif_true, oif_false, mkT2, mkT3, mkL0, mkL1, mkL2, gSub_i, gAdd_i, gLt_i, gLe_i, gGt_i, gGe_i, gEq_i, gNe_i, frIx0, frIx1, List.length_cons, List.length_nil, List.map_cons, List.map_nil, List.cons_append, List.nil_append, List.append_nil, List.replicate, List.getElem?_cons_zero, List.getElem?_cons_succ, List.set_cons_zero, List.set_cons_succ, if_true, if_false, Nat.reduceAdd, Nat.reduceSub, Bool.and_true, Bool.true_and, Bool.not_true, Bool.not_false, loc_ix hM1 (k := 2) (y := .int c) rfl, nf_i, bInt_i, divm_i t0 t1]) (by simp only [ev_var, ev_D, ev_bin, ev_un, ev_args0, ev_args, ev_fn, ev_call, ev_callK, ev_if, ev_B1, asB_d, ev_and, ev_or, ev_not, ev_mand, ev_mor, ev_true, ev_chain, ev_tup, ev_lst, ev_old, ev_new, ev_items, ev_lc, ev_seq, seq_nx, seq_rt, seq_bk, seq_ct, ev_next, ev_break, ev_ret, fz_d, ev_retW, ev_drop, ev_sif, ev_set, ev_par, par_2, ev_for, ev_sem, ob_some, ob_none, oif_true, oif_false, mkT2, mkT3, mkL0, mkL1, mkL2, gSub_i, gAdd_i, gLt_i, gLe_i, gGt_i, gGe_i, gEq_i, gNe_i, frIx0, frIx1, List.length_cons, List.length_nil, List.map_cons, List.map_nil, List.cons_append, List.nil_append, List.append_nil, List.replicate, List.getElem?_cons_zero, List.getElem?_cons_succ, List.set_cons_zero, List.set_cons_succ, if_true, if_false, Nat.reduceAdd, Nat.reduceSub, Bool.and_true, Bool.true_and, Bool.not_true, Bool.not_false]) (by simp only [ev_var, ev_D, ev_bin, ev_un, ev_args0, ev_args, ev_fn, ev_call, ev_callK, ev_if, ev_B1, asB_d, ev_and, ev_or, ev_not, ev_mand, ev_mor, ev_true, ev_chain, ev_tup, ev_lst, ev_old, ev_new, ev_items, ev_lc, ev_seq, seq_nx, seq_rt, seq_bk, seq_ct, ev_next, ev_break, ev_ret, fz_d, ev_retW, ev_drop, ev_sif, ev_set, ev_par, par_2, ev_for, ev_sem, ob_some, ob_none, oif_true, oif_false, mkT2, mkT3, mkL0, mkL1, mkL2, gSub_i, gAdd_i, gLt_i, gLe_i, gGt_i, gGe_i, gEq_i, gNe_i, frIx0, frIx1, List.length_cons, List.length_nil, List.map_cons, List.map_nil, List.cons_append, List.nil_append, List.append_nil, List.replicate, List.getElem?_cons_zero, List.getElem?_cons_succ, List.set_cons_zero, List.set_cons_succ, if_true, if_false, Nat.reduceAdd, Nat.reduceSub, Bool.and_true, Bool.true_and, Bool.not_true, Bool.not_false]) hM1 rfl
    refine ⟨(c % top).toNat, ?_, ?_⟩
    · have := Int.emod_lt_of_pos c t0
      omega
    have hv : (((c % top).toNat : Nat) : Int) = c % top := Int.toNat_of_nonneg (Int.emod_nonneg _ (by omega))
    refine ⟨_, ?_, a, i + 1, c / top, set_get hM1⟩
    unfold f__law_pour
    simp only [ev_var, ev_D, ev_bin, ev_un, ev_args0, ev_args, ev_fn, ev_call, ev_callK, ev_if, ev_B1, asB_d, ev_and, ev_or, ev_not, ev_mand, ev_mor, ev_true, ev_chain, ev_tup, ev_lst, ev_old, ev_new, ev_items, ev_lc, ev_seq, seq_nx, seq_rt, seq_bk, seq_ct, ev_next, ev_break, ev_ret, fz_d, ev_retW, ev_drop, ev_sif, ev_set, ev_par, par_2, ev_for, ev_sem, ob_some, ob_none, oif_true, oif_false, mkT2, mkT3, mkL0, mkL1, mkL2, gSub_i, gAdd_i, gLt_i, gLe_i, gGt_i, gGe_i, gEq_i, gNe_i, frIx0, frIx1, List.length_cons, List.length_nil, List.map_cons, List.map_nil, List.cons_append, List.nil_append, List.append_nil, List.replicate, List.getElem?_cons_zero, List.getElem?_cons_succ, List.set_cons_zero, List.set_cons_succ, if_true, if_false, Nat.reduceAdd, Nat.reduceSub, Bool.and_true, Bool.true_and, Bool.not_true, Bool.not_false, x1, loc_ix hM1 (k := 2) (y := .int c) rfl, nf_i, hc, decide_true, x2, hv]
  · have f0 : (0 : Int) ≤ a % 17011 := Int.emod_nonneg _ (by decide)
    have f1 : a % 17011 < 17011 := Int.emod_lt_of_pos _ (by decide)
    have g1 : -18446744073709551616 < a % 17011 + 61001 := by omega
    have g2 : a % 17011 + 61001 < 18446744073709551616 := by omega
    have x2 : sSub (mVar 0) (mD true (.int 0)) (mBin gMod (mFn bInt (mArgs [(mBin gAdd (mBin gAdd (mBin gMul (mVar 3) (mVar 4)) (mBin gMul (mD true (.int 70001)) (mBin gIx (mVar 0) (mD true (.int 1))))) (mD true (.int 17)))])) (mD true (.int 2147482811))) [some (.loc j), some (.d r (.int top)), none, some (.d true (.int a)), some (.d true (.int (a % 17011 + 61001)))] M1 = _ :=
      sub_at (t := true) (u := true) (s := true) (x := .int ((a * (a % 17011 + 61001) + 70001 * (i + 1) + 17) % 2147482811)) (n := j) (j := 0) (k := 0) (xs := [.int a, .int (i + 1), .int c]) (by simp only [ev_var, ev_D, ev_bin, ev_un, ev_args0, ev_args, ev_fn, ev_call, ev_callK, ev_if, ev_B1, asB_d, ev_and, ev_or, ev_not, ev_mand, ev_mor, ev_true, ev_chain, ev_tup, ev_lst, ev_old, ev_new, ev_items, ev_lc, ev_seq, seq_nx, seq_rt, seq_bk, seq_ct, ev_next, ev_break, ev_ret, fz_d, ev_retW, ev_drop, ev_sif, ev_set, ev_par, par_2, ev_for, ev_sem, ob_some, ob_none, oif_true, oif_false, mkT2, mkT3, mkL0, mkL1, mkL2, gSub_i, gAdd_i, gLt_i, gLe_i, gGt_i, gGe_i, gEq_i, gNe_i, frIx0, frIx1, List.length_cons, List.length_nil, List.map_cons, List.map_nil, List.cons_append, List.nil_append, List.append_nil, List.replicate, List.getElem?_cons_zero, List.getElem?_cons_succ, List.set_cons_zero, List.set_cons_succ, if_true, if_false, Nat.reduceAdd, Nat.reduceSub, Bool.and_true, Bool.true_and, Bool.not_true, Bool.not_false, loc_ix hM1 (k := 1) (y := .int (i + 1)) rfl, nf_i, bInt_i, gMul_r g1 g2, gMul_l (x := 70001) (by decide) (by decide), gMod_i (y := 2147482811) (by decide)]) (by simp only [ev_var, ev_D, ev_bin, ev_un, ev_args0, ev_args, ev_fn, ev_call, ev_callK, ev_if, ev_B1, asB_d, ev_and, ev_or, ev_not, ev_mand, ev_mor, ev_true, ev_chain, ev_tup, ev_lst, ev_old, ev_new, ev_items, ev_lc, ev_seq, seq_nx, seq_rt, seq_bk, seq_ct, ev_next, ev_break, ev_ret, fz_d, ev_retW, ev_drop, ev_sif, ev_set, ev_par, par_2, ev_for, ev_sem, ob_some, ob_none, oif_true, oif_false, mkT2, mkT3, mkL0, mkL1, mkL2, gSub_i, gAdd_i, gLt_i, gLe_i, gGt_i, gGe_i, gEq_i, gNe_i, frIx0, frIx1, List.length_cons, List.length_nil, List.map_cons, List.map_nil, List.cons_append, List.nil_append, List.append_nil, List.replicate, List.getElem?_cons_zero, List.getElem?_cons_succ, List.set_cons_zero, List.set_cons_succ, if_true, if_false, Nat.reduceAdd, Nat.reduceSub, Bool.and_true, Bool.true_and, Bool.not_true, Bool.not_false]) (by simp only [ev_var, ev_D, ev_bin, ev_un, ev_args0, ev_args, ev_fn, ev_call, ev_callK, ev_if, ev_B1, asB_d, ev_and, ev_or, ev_not, ev_mand, ev_mor, ev_true, ev_chain, ev_tup, ev_lst, ev_old, ev_new, ev_items, ev_lc, ev_seq, seq_nx, seq_rt, seq_bk, seq_ct, ev_next, ev_break, ev_ret, fz_d, ev_retW, ev_drop, ev_sif, ev_set, ev_par, par_2, ev_for, ev_sem, ob_some, ob_none, oif_true, oif_false, mkT2, mkT3, mkL0, mkL1, mkL2, gSub_i, gAdd_i, gLt_i, gLe_i, gGt_i, gGe_i, gEq_i, gNe_i, frIx0, frIx1, List.length_cons, List.length_nil, List.map_cons, List.map_nil, List.cons_append, List.nil_append, List.append_nil, List.replicate, List.getElem?_cons_zero, List.getElem?_cons_succ, List.set_cons_zero, List.set_cons_succ, if_true, if_false, Nat.reduceAdd, Nat.reduceSub, Bool.and_true, Bool.true_and, Bool.not_true, Bool.not_false]) hM1 rfl
    have hM2 := set_get (o := .lst true [.int ((a * (a % 17011 + 61001) + 70001 * (i + 1) + 17) % 2147482811), .int (i + 1), .int c]) hM1
    generalize hB : (a * (a % 17011 + 61001) + 70001 * (i + 1) + 17) % 2147482811 = B at x2 hM2
    refine ⟨(B / 4099 % top).toNat, ?_, ?_⟩
    · have := Int.emod_lt_of_pos (B / 4099) t0
      omega
    have hv : (((B / 4099 % top).toNat : Nat) : Int) = B / 4099 % top := Int.toNat_of_nonneg (Int.emod_nonneg _ (by omega))
    refine ⟨M1.set j (.lst true [.int B, .int (i + 1), .int c]), ?_, B, i + 1, c, hM2⟩
    have x3 := loc_ix hM2 (s := true) (k := 0) (y := .int B) rfl
    unfold f__law_pour
    simp only [ev_var, ev_D, ev_bin, ev_un, ev_args0, ev_args, ev_fn, ev_call, ev_callK, ev_if, ev_B1, asB_d, ev_and, ev_or, ev_not, ev_mand, ev_mor, ev_true, ev_chain, ev_tup, ev_lst, ev_old, ev_new, ev_items, ev_lc, ev_seq, seq_nx, seq_rt, seq_bk, seq_ct, ev_next, ev_break, ev_ret, fz_d, ev_retW, ev_drop, ev_sif, ev_set, ev_par, par_2, ev_for, ev_sem, ob_some, ob_none, oif_true, oif_false, mkT2, mkT3, mkL0, mkL1, mkL2, gSub_i, gAdd_i, gLt_i, gLe_i, gGt_i, gGe_i, gEq_i, gNe_i, frIx0, frIx1, List.length_cons, List.length_nil, List.map_cons, List.map_nil, List.cons_append, List.nil_append, List.append_nil, List.replicate, List.getElem?_cons_zero, List.getElem?_cons_succ, List.set_cons_zero, List.set_cons_succ, if_true, if_false, Nat.reduceAdd, Nat.reduceSub, Bool.and_true, Bool.true_and, Bool.not_true, Bool.not_false, x1, loc_ix hM1 (k := 2) (y := .int c) rfl, nf_i, hc, decide_false, loc_ix hM1 (k := 0) (y := .int a) rfl, bInt_i, gMod_i (y := 17011) (by decide), x2]
    simp only [ev_var, ev_D, ev_bin, ev_un, ev_args0, ev_args, ev_fn, ev_call, ev_callK, ev_if, ev_B1, asB_d, ev_and, ev_or, ev_not, ev_mand, ev_mor, ev_true, ev_chain, ev_tup, ev_lst, ev_old, ev_new, ev_items, ev_lc, ev_seq, seq_nx, seq_rt, seq_bk, seq_ct, ev_next, ev_break, ev_ret, fz_d, ev_retW, ev_drop, ev_sif, ev_set, ev_par, par_2, ev_for, ev_sem, ob_some, ob_none, oif_true, oif_false, mkT2, mkT3, mkL0, mkL1, mkL2, gSub_i, gAdd_i, gLt_i, gLe_i, gGt_i, gGe_i, gEq_i, gNe_i, frIx0, frIx1, List.length_cons, List.length_nil, List.map_cons, List.map_nil, List.cons_append, List.nil_append, List.append_nil, List.replicate, List.getElem?_cons_zero, List.getElem?_cons_succ, List.set_cons_zero, List.set_cons_succ, if_true, if_false, Nat.reduceAdd, Nat.reduceSub, Bool.and_true, Bool.true_and, Bool.not_true, Bool.not_false, List.set_cons_zero, x3, nf_i, gFdiv_l (y := 4099) (by decide) (by decide), bInt_i, gMod_i t0, hv]
theorem c_pick {r : Bool} {α : Type} {enc : α → PD} {l : List α} {j : Nat} {M : MS} (F : Fk j M) (h0 : l ≠ []) (h1 : l.length < 1000) : ∃ z, z ∈ l ∧ ∃ M', f__law_pick [.loc j, .d r (.list (l.map enc))] M = some (.d (nf r (enc z)) (enc z), M') ∧ Fk j M' := by
  obtain ⟨v, hv, M', e, F'⟩ := c_pour (r := true) F (List.length_pos_iff.mpr h0) h1
  refine ⟨l[v], List.getElem_mem hv, M', ?_, F'⟩
  unfold f__law_pick
  simp only [ev_var, ev_D, ev_bin, ev_un, ev_args0, ev_args, ev_fn, ev_call, ev_callK, ev_if, ev_B1, asB_d, ev_and, ev_or, ev_not, ev_mand, ev_mor, ev_true, ev_chain, ev_tup, ev_lst, ev_old, ev_new, ev_items, ev_lc, ev_seq, seq_nx, seq_rt, seq_bk, seq_ct, ev_next, ev_break, ev_ret, fz_d, ev_retW, ev_drop, ev_sif, ev_set, ev_par, par_2, ev_for, ev_sem, ob_some, ob_none, oif_true, oif_false, mkT2, mkT3, mkL0, mkL1, mkL2, gSub_i, gAdd_i, gLt_i, gLe_i, gGt_i, gGe_i, gEq_i, gNe_i, frIx0, frIx1, List.length_cons, List.length_nil, List.map_cons, List.map_nil, List.cons_append, List.nil_append, List.append_nil, List.replicate, List.getElem?_cons_zero, List.getElem?_cons_succ, List.set_cons_zero, List.set_cons_succ, if_true, if_false, Nat.reduceAdd, Nat.reduceSub, Bool.and_true, Bool.true_and, Bool.not_true, Bool.not_false, bLen_l, List.length_map, e, gIx_at rfl hv]
theorem c_pickT {r : Bool} {α : Type} {enc : α → PD} {l : List α} {j : Nat} {M : MS} (F : Fk j M) (h0 : l ≠ []) (h1 : l.length < 1000) : ∃ z, z ∈ l ∧ ∃ M', f__law_pick [.loc j, .d r (.tuple (l.map enc))] M = some (.d (nf r (enc z)) (enc z), M') ∧ Fk j M' := by
  obtain ⟨v, hv, M', e, F'⟩ := c_pour (r := true) F (List.length_pos_iff.mpr h0) h1
  refine ⟨l[v], List.getElem_mem hv, M', ?_, F'⟩
  unfold f__law_pick
  simp only [ev_var, ev_D, ev_bin, ev_un, ev_args0, ev_args, ev_fn, ev_call, ev_callK, ev_if, ev_B1, asB_d, ev_and, ev_or, ev_not, ev_mand, ev_mor, ev_true, ev_chain, ev_tup, ev_lst, ev_old, ev_new, ev_items, ev_lc, ev_seq, seq_nx, seq_rt, seq_bk, seq_ct, ev_next, ev_break, ev_ret, fz_d, ev_retW, ev_drop, ev_sif, ev_set, ev_par, par_2, ev_for, ev_sem, ob_some, ob_none, oif_true, oif_false, mkT2, mkT3, mkL0, mkL1, mkL2, gSub_i, gAdd_i, gLt_i, gLe_i, gGt_i, gGe_i, gEq_i, gNe_i, frIx0, frIx1, List.length_cons, List.length_nil, List.map_cons, List.map_nil, List.cons_append, List.nil_append, List.append_nil, List.replicate, List.getElem?_cons_zero, List.getElem?_cons_succ, List.set_cons_zero, List.set_cons_succ, if_true, if_false, Nat.reduceAdd, Nat.reduceSub, Bool.and_true, Bool.true_and, Bool.not_true, Bool.not_false, bLen_t, List.length_map, e, gIxT_at rfl hv]

def lowB : Ss := (sSeq (sIf (tB1 (mBin gEq (mVar 3) (mD true (.int 0)))) (sSeq sBreak sNext) sNext) (sSeq (sPar 2 3 (mArgs [(mVar 3), (mBin gMod (mFn bInt (mArgs [(mVar 2)])) (mVar 3))])) sNext))
theorem lowB_0 {o0 o1 o4 : Option W} {u : W} {y : Bool} {M : MS} : lowB [o0, o1, some u, some (.d y (.int (0 : Nat))), o4] M = some (.bk, [o0, o1, some u, some (.d y (.int (0 : Nat))), o4], M) := by
  unfold lowB
  simp only [ev_var, ev_D, ev_bin, ev_un, ev_args0, ev_args, ev_fn, ev_call, ev_callK, ev_if, ev_B1, asB_d, ev_and, ev_or, ev_not, ev_mand, ev_mor, ev_true, ev_chain, ev_tup, ev_lst, ev_old, ev_new, ev_items, ev_lc, ev_seq, seq_nx, seq_rt, seq_bk, seq_ct, ev_next, ev_break, ev_ret, fz_d, ev_retW, ev_drop, ev_sif, ev_set, ev_par, par_2, ev_for, ev_sem, ob_some, ob_none, oif_true, oif_false, mkT2, mkT3, mkL0, mkL1, mkL2, gSub_i, gAdd_i, gLt_i, gLe_i, gGt_i, gGe_i, gEq_i, gNe_i, frIx0, frIx1, List.length_cons, List.length_nil, List.map_cons, List.map_nil, List.cons_append, List.nil_append, List.append_nil, List.replicate, List.getElem?_cons_zero, List.getElem?_cons_succ, List.set_cons_zero, List.set_cons_succ, if_true, if_false, Nat.reduceAdd, Nat.reduceSub, Bool.and_true, Bool.true_and, Bool.not_true, Bool.not_false, Int.natCast_zero, decide_true]
theorem lowB_1 {o0 o1 o4 : Option W} {a b : Nat} {x y : Bool} {M : MS} (h : b ≠ 0) : lowB [o0, o1, some (.d x (.int a)), some (.d y (.int b)), o4] M = some (.nx, [o0, o1, some (.d y (.int b)), some (.d true (.int (a % b : Nat))), o4], M) := by
  have h1 : ¬((b : Int) = 0) := by omega
  have h2 : (0 : Int) < (b : Int) := by omega
  unfold lowB
  simp only [ev_var, ev_D, ev_bin, ev_un, ev_args0, ev_args, ev_fn, ev_call, ev_callK, ev_if, ev_B1, asB_d, ev_and, ev_or, ev_not, ev_mand, ev_mor, ev_true, ev_chain, ev_tup, ev_lst, ev_old, ev_new, ev_items, ev_lc, ev_seq, seq_nx, seq_rt, seq_bk, seq_ct, ev_next, ev_break, ev_ret, fz_d, ev_retW, ev_drop, ev_sif, ev_set, ev_par, par_2, ev_for, ev_sem, ob_some, ob_none, oif_true, oif_false, mkT2, mkT3, mkL0, mkL1, mkL2, gSub_i, gAdd_i, gLt_i, gLe_i, gGt_i, gGe_i, gEq_i, gNe_i, frIx0, frIx1, List.length_cons, List.length_nil, List.map_cons, List.map_nil, List.cons_append, List.nil_append, List.append_nil, List.replicate, List.getElem?_cons_zero, List.getElem?_cons_succ, List.set_cons_zero, List.set_cons_succ, if_true, if_false, Nat.reduceAdd, Nat.reduceSub, Bool.and_true, Bool.true_and, Bool.not_true, Bool.not_false, h1, decide_false, bInt_i, gMod_i h2]
  simp
theorem low_go {o0 o1 : Option W} {M : MS} : ∀ (k a b : Nat), b < 2 ^ k → ∀ xs : List Nat, 2 * k + 1 ≤ xs.length → ∀ o4 x0 y0, ∃ o x1 y1, forGo true (gNm 4) lowB (xs.map nE) [o0, o1, some (.d x0 (.int a)), some (.d y0 (.int b)), o4] M = some (.nx, [o0, o1, some (.d x1 (.int (a.gcd b : Nat))), some (.d y1 (.int (0 : Nat))), o], M)
  | 0, a, b, hb, xs, hl, o4, x0, y0 => by
    have : b = 0 := by simpa using hb
    subst this
    cases xs with
    | nil => simp at hl
    | cons x xs =>
      refine ⟨some (.d true (nE x)), x0, y0, ?_⟩
      simp only [List.map_cons, forGo, tg_nm, List.set_cons_succ, List.set_cons_zero, nf_nE, lowB_0, Nat.gcd_zero_right]
  | k + 1, a, b, hb, xs, hl, o4, x0, y0 => by
    match xs, hl with
    | x :: y :: xs, hl =>
      by_cases h : b = 0
      · subst h
        refine ⟨some (.d true (nE x)), x0, y0, ?_⟩
        simp only [List.map_cons, forGo, tg_nm, List.set_cons_succ, List.set_cons_zero, nf_nE, lowB_0, Nat.gcd_zero_right]
      · have hb0 : 0 < b := Nat.pos_of_ne_zero h
        have hr : a % b < b := Nat.mod_lt _ hb0
        by_cases h2 : a % b = 0
        · refine ⟨some (.d true (nE y)), y0, true, ?_⟩
          rw [gcd_step hb0, h2]
          simp only [List.map_cons, forGo, tg_nm, List.set_cons_succ, List.set_cons_zero, nf_nE, lowB_1 h, h2, lowB_0, Nat.gcd_zero_right]
        · have h3 : 0 < a % b := Nat.pos_of_ne_zero h2
          have h4 : b % (a % b) < 2 ^ k := by
            have h5 := Nat.mod_lt b h3
            have h6 : a % b + b % (a % b) ≤ b := by
              have := Nat.div_add_mod b (a % b)
              have h7 : 1 ≤ b / (a % b) := (Nat.le_div_iff_mul_le h3).mpr (by omega)
              have h8 : (a % b) * 1 ≤ (a % b) * (b / (a % b)) := Nat.mul_le_mul_left _ h7
              omega
            rw [Nat.pow_succ] at hb
            omega
          obtain ⟨o, x1, y1, ho⟩ := low_go (o0 := o0) (o1 := o1) (M := M) k (a % b) (b % (a % b)) h4 xs (by simp at hl; omega) (some (.d true (nE y))) true true
          refine ⟨o, x1, y1, ?_⟩
          rw [gcd_step hb0, gcd_step h3, ← ho]
          simp only [List.map_cons, forGo, tg_nm, List.set_cons_succ, List.set_cons_zero, nf_nE, lowB_1 h, lowB_1 h2]
theorem c_llow {c : Nat} {r s : Bool} (a : Int) (b : Nat) (h : b ≠ 0) (z : b < 2 ^ c) (l : c ≤ 990) (M : MS) : f__law_low [.d r (.int a), .d s (.int (b : Int))] M = some (.d true (fr (Rat.normalize a b h)), M) := by
  have g0 := gcd_pos (a := a.natAbs) h
  have g1 : a.natAbs.gcd b ≤ b := Nat.gcd_le_right _ (Nat.pos_of_ne_zero h)
  have g2 : ∀ i : Int, CDivW i ((a.natAbs.gcd b : Nat) : Int) := fun i => divE (b := c) (by omega) (by rw [Int.natAbs_natCast]; exact Nat.lt_of_le_of_lt g1 z) (by omega)
  obtain ⟨o, x1, y1, ho⟩ := low_go (o0 := some (.d r (.int a))) (o1 := some (.d s (.int (b : Int)))) (M := M) c a.natAbs b z (List.range 2000) (by simp; omega) none true s
  have hr : rgK ([.d true (.int 2000)], M) = some ((true, (List.range 2000).map nE), M) := rgK_o 2000 rfl (by decide)
  unfold lowB at ho
  unfold f__law_low
  simp only [ev_var, ev_D, ev_bin, ev_un, ev_args0, ev_args, ev_fn, ev_call, ev_callK, ev_if, ev_B1, asB_d, ev_and, ev_or, ev_not, ev_mand, ev_mor, ev_true, ev_chain, ev_tup, ev_lst, ev_old, ev_new, ev_items, ev_lc, ev_seq, seq_nx, seq_rt, seq_bk, seq_ct, ev_next, ev_break, ev_ret, fz_d, ev_retW, ev_drop, ev_sif, ev_set, ev_par, par_2, ev_for, ev_sem, ob_some, ob_none, oif_true, oif_false, mkT2, mkT3, mkL0, mkL1, mkL2, gSub_i, gAdd_i, gLt_i, gLe_i, gGt_i, gGe_i, gEq_i, gNe_i, frIx0, frIx1, List.length_cons, List.length_nil, List.map_cons, List.map_nil, List.cons_append, List.nil_append, List.append_nil, List.replicate, List.getElem?_cons_zero, List.getElem?_cons_succ, List.set_cons_zero, List.set_cons_succ, if_true, if_false, Nat.reduceAdd, Nat.reduceSub, Bool.and_true, Bool.true_and, Bool.not_true, Bool.not_false, bAbs_i, ev_rg, hr, ho, gFdiv_i (g2 _)]
  unfold fr
  rw [norm_num, norm_den]
  simp
theorem c_lplus {r s : Bool} {p q : Rat} {a b : Nat} (h : Sz a p) (k : Sz b q) (l : a + b ≤ 990) (M : MS) : f__law_plus [.d r (fr p), .d s (fr q)] M = some (.d true (fr (p + q)), M) := by
  have h1 : CMulE p.num q.den := mulE h.1 (by exact k.2) (by omega)
  have h2 : CMulE q.num p.den := mulE k.1 (by exact h.2) (by omega)
  have h3 : CMulE (p.den : Int) (q.den : Int) := mulE (by exact h.2) (by exact k.2) (by omega)
  have h4 : ((p.den : Int) * (q.den : Int)) = ((p.den * q.den : Nat) : Int) := by simp
  have h5 : p.den * q.den < 2 ^ (a + b) := lt2_mul h.2 k.2
  unfold f__law_plus
  simp only [ev_var, ev_D, ev_bin, ev_un, ev_args0, ev_args, ev_fn, ev_call, ev_callK, ev_if, ev_B1, asB_d, ev_and, ev_or, ev_not, ev_mand, ev_mor, ev_true, ev_chain, ev_tup, ev_lst, ev_old, ev_new, ev_items, ev_lc, ev_seq, seq_nx, seq_rt, seq_bk, seq_ct, ev_next, ev_break, ev_ret, fz_d, ev_retW, ev_drop, ev_sif, ev_set, ev_par, par_2, ev_for, ev_sem, ob_some, ob_none, oif_true, oif_false, mkT2, mkT3, mkL0, mkL1, mkL2, gSub_i, gAdd_i, gLt_i, gLe_i, gGt_i, gGe_i, gEq_i, gNe_i, frIx0, frIx1, List.length_cons, List.length_nil, List.map_cons, List.map_nil, List.cons_append, List.nil_append, List.append_nil, List.replicate, List.getElem?_cons_zero, List.getElem?_cons_succ, List.set_cons_zero, List.set_cons_succ, if_true, if_false, Nat.reduceAdd, Nat.reduceSub, Bool.and_true, Bool.true_and, Bool.not_true, Bool.not_false, gMul_i h1, gMul_i h2, gMul_i h3, h4, c_llow _ _ (Nat.mul_ne_zero p.den_nz q.den_nz) h5 l]
  rw [Rat.add_def]
theorem c_ltimes {r s : Bool} {p q : Rat} {a b : Nat} (h : Sz a p) (k : Sz b q) (l : a + b ≤ 990) (M : MS) : f__law_times [.d r (fr p), .d s (fr q)] M = some (.d true (fr (p * q)), M) := by
  have h1 : CMulE p.num q.num := mulE h.1 k.1 (by omega)
  have h3 : CMulE (p.den : Int) (q.den : Int) := mulE (by exact h.2) (by exact k.2) (by omega)
  have h4 : ((p.den : Int) * (q.den : Int)) = ((p.den * q.den : Nat) : Int) := by simp
  have h5 : p.den * q.den < 2 ^ (a + b) := lt2_mul h.2 k.2
  unfold f__law_times
  simp only [ev_var, ev_D, ev_bin, ev_un, ev_args0, ev_args, ev_fn, ev_call, ev_callK, ev_if, ev_B1, asB_d, ev_and, ev_or, ev_not, ev_mand, ev_mor, ev_true, ev_chain, ev_tup, ev_lst, ev_old, ev_new, ev_items, ev_lc, ev_seq, seq_nx, seq_rt, seq_bk, seq_ct, ev_next, ev_break, ev_ret, fz_d, ev_retW, ev_drop, ev_sif, ev_set, ev_par, par_2, ev_for, ev_sem, ob_some, ob_none, oif_true, oif_false, mkT2, mkT3, mkL0, mkL1, mkL2, gSub_i, gAdd_i, gLt_i, gLe_i, gGt_i, gGe_i, gEq_i, gNe_i, frIx0, frIx1, List.length_cons, List.length_nil, List.map_cons, List.map_nil, List.cons_append, List.nil_append, List.append_nil, List.replicate, List.getElem?_cons_zero, List.getElem?_cons_succ, List.set_cons_zero, List.set_cons_succ, if_true, if_false, Nat.reduceAdd, Nat.reduceSub, Bool.and_true, Bool.true_and, Bool.not_true, Bool.not_false, gMul_i h1, gMul_i h3, h4, c_llow _ _ (Nat.mul_ne_zero p.den_nz q.den_nz) h5 l]
  rw [Rat.mul_def]
theorem c_lbelow {r s : Bool} {p q : Rat} {a b : Nat} (h : Sz a p) (k : Sz b q) (l : a + b ≤ 990) (M : MS) : f__law_below [.d r (fr p), .d s (fr q)] M = some (.d true (.bool (decide (p < q))), M) := by
  have h1 : CMulE p.num q.den := mulE h.1 (by exact k.2) (by omega)
  have h2 : CMulE q.num p.den := mulE k.1 (by exact h.2) (by omega)
  unfold f__law_below
  simp only [ev_var, ev_D, ev_bin, ev_un, ev_args0, ev_args, ev_fn, ev_call, ev_callK, ev_if, ev_B1, asB_d, ev_and, ev_or, ev_not, ev_mand, ev_mor, ev_true, ev_chain, ev_tup, ev_lst, ev_old, ev_new, ev_items, ev_lc, ev_seq, seq_nx, seq_rt, seq_bk, seq_ct, ev_next, ev_break, ev_ret, fz_d, ev_retW, ev_drop, ev_sif, ev_set, ev_par, par_2, ev_for, ev_sem, ob_some, ob_none, oif_true, oif_false, mkT2, mkT3, mkL0, mkL1, mkL2, gSub_i, gAdd_i, gLt_i, gLe_i, gGt_i, gGe_i, gEq_i, gNe_i, frIx0, frIx1, List.length_cons, List.length_nil, List.map_cons, List.map_nil, List.cons_append, List.nil_append, List.append_nil, List.replicate, List.getElem?_cons_zero, List.getElem?_cons_succ, List.set_cons_zero, List.set_cons_succ, if_true, if_false, Nat.reduceAdd, Nat.reduceSub, Bool.and_true, Bool.true_and, Bool.not_true, Bool.not_false, gMul_i h1, gMul_i h2]
  simp only [Rat.lt_iff]

theorem bLen_s {xs : List PD} {M : MS} : bLen [.s xs] M = some (.d true (.int xs.length), M) := eq_of_heq HEq.rfl
theorem ix_s {ns : List Int} {s : Bool} {n : Nat} {M : MS} (h : n < ns.length) : gIx (.s (ns.map PyData.int)) (.d s (.int n)) M = some (.d true (.int ns[n]), M) := by
  show (match atI (ns.map PyData.int) (n : Int) with | some y => some (W.d (nf true y) y, M) | none => none) = _
  rw [atI_nat (j := n) (v := PyData.int ns[n]) (by simp [h])]
  rfl
theorem sl_s {ns : List Int} {Δ : Sl} {M : MS} (h : Δ[0]? = some (some (.s (ns.map PyData.int)))) : ∃ l : List Int, mSl (mVar 0) (mPart none) (mPart (some (mD true (.int 6)))) Δ M = some (.d true (.list (l.map PyData.int)), M) := by
  refine ⟨(ns.drop (HT.sIx (ns.map PyData.int).length 0 none)).take (HT.sIx (ns.map PyData.int).length (ns.map PyData.int).length (some 6) - HT.sIx (ns.map PyData.int).length 0 none), ?_⟩
  rw [List.map_take, List.map_drop]
  unfold mSl mVar
  rw [h]
  rfl
theorem c_flask {ns : List Int} {k : Nat} (hk : k < 1000) (M : MS) : ∃ a c : Int, f__law_flask [.s (ns.map PyData.int), .d true (.int k)] M = some (.loc M.length, M ++ [.lst true [.int a, .int 0, .int c]]) := by
  obtain ⟨own, ho⟩ : ∃ own : Int, mIf (tB1 (mBin gLt (mVar 1) (mFn bLen (mArgs [(mVar 0)])))) (mFn bInt (mArgs [(mBin gIx (mVar 0) (mVar 1))])) (mBin gAdd (mBin gMul (mD true (.int 71)) (mVar 1)) (mD true (.int 29))) [some (.s (ns.map PyData.int)), some (.d true (.int k)), none, none, none] M = some (.d true (.int own), M) := by
    by_cases h : k < ns.length
    · refine ⟨ns[k], ?_⟩
      have h1 : (k : Int) < (ns.length : Int) := by omega
      simp only [ev_var, ev_D, ev_bin, ev_un, ev_args0, ev_args, ev_fn, ev_call, ev_callK, ev_if, ev_B1, asB_d, ev_and, ev_or, ev_not, ev_mand, ev_mor, ev_true, ev_chain, ev_tup, ev_lst, ev_old, ev_new, ev_items, ev_lc, ev_seq, seq_nx, seq_rt, seq_bk, seq_ct, ev_next, ev_break, ev_ret, fz_d, ev_retW, ev_drop, ev_sif, ev_set, ev_par, par_2, ev_for, ev_sem, ob_some, ob_none, oif_true, oif_false, mkT2, mkT3, mkL0, mkL1, mkL2, gSub_i, gAdd_i, gLt_i, gLe_i, gGt_i, gGe_i, gEq_i, gNe_i, frIx0, frIx1, List.length_cons, List.length_nil, List.map_cons, List.map_nil, List.cons_append, List.nil_append, List.append_nil, List.replicate, List.getElem?_cons_zero, List.getElem?_cons_succ, List.set_cons_zero, List.set_cons_succ, if_true, if_false, Nat.reduceAdd, Nat.reduceSub, Bool.and_true, Bool.true_and, Bool.not_true, Bool.not_false, bLen_s, List.length_map, h1, decide_true, ix_s h, bInt_i]
    · refine ⟨71 * k + 29, ?_⟩
      have h1 : ¬((k : Int) < (ns.length : Int)) := by omega
      simp only [ev_var, ev_D, ev_bin, ev_un, ev_args0, ev_args, ev_fn, ev_call, ev_callK, ev_if, ev_B1, asB_d, ev_and, ev_or, ev_not, ev_mand, ev_mor, ev_true, ev_chain, ev_tup, ev_lst, ev_old, ev_new, ev_items, ev_lc, ev_seq, seq_nx, seq_rt, seq_bk, seq_ct, ev_next, ev_break, ev_ret, fz_d, ev_retW, ev_drop, ev_sif, ev_set, ev_par, par_2, ev_for, ev_sem, ob_some, ob_none, oif_true, oif_false, mkT2, mkT3, mkL0, mkL1, mkL2, gSub_i, gAdd_i, gLt_i, gLe_i, gGt_i, gGe_i, gEq_i, gNe_i, frIx0, frIx1, List.length_cons, List.length_nil, List.map_cons, List.map_nil, List.cons_append, List.nil_append, List.append_nil, List.replicate, List.getElem?_cons_zero, List.getElem?_cons_succ, List.set_cons_zero, List.set_cons_succ, if_true, if_false, Nat.reduceAdd, Nat.reduceSub, Bool.and_true, Bool.true_and, Bool.not_true, Bool.not_false, bLen_s, List.length_map, h1, decide_false, gMul_l (x := 71) (by decide) (by decide)]
  obtain ⟨l, hl⟩ := sl_s (ns := ns) (Δ := [some (.s (ns.map PyData.int)), some (.d true (.int k)), some (.d true (.int own)), some (.d true (.int (80021 + 5009 * k))), none]) (M := M) rfl
  have hf := for_inv (t := true) (g := gNm 4) (b := (sSeq (sSet 3 (mBin gMod (mFn bInt (mArgs [(mBin gAdd (mBin gMul (mVar 3) (mD true (.int 32009))) (mFn bInt (mArgs [(mVar 4)])))])) (mD true (.int 2147482811)))) sNext)) (enc := PyData.int)
    (fun done Δ M' => M' = M ∧ ∃ (m : Int) (o : Option W), Δ = [some (.s (ns.map PyData.int)), some (.d true (.int k)), some (.d true (.int own)), some (.d true (.int m)), o]) l (by
      intro done a rest e Δ M' hP
      obtain ⟨rfl, m, o, rfl⟩ := hP
      refine ⟨_, tg_nm, ?_⟩
      simp only [ev_var, ev_D, ev_bin, ev_un, ev_args0, ev_args, ev_fn, ev_call, ev_callK, ev_if, ev_B1, asB_d, ev_and, ev_or, ev_not, ev_mand, ev_mor, ev_true, ev_chain, ev_tup, ev_lst, ev_old, ev_new, ev_items, ev_lc, ev_seq, seq_nx, seq_rt, seq_bk, seq_ct, ev_next, ev_break, ev_ret, fz_d, ev_retW, ev_drop, ev_sif, ev_set, ev_par, par_2, ev_for, ev_sem, ob_some, ob_none, oif_true, oif_false, mkT2, mkT3, mkL0, mkL1, mkL2, gSub_i, gAdd_i, gLt_i, gLe_i, gGt_i, gGe_i, gEq_i, gNe_i, frIx0, frIx1, List.length_cons, List.length_nil, List.map_cons, List.map_nil, List.cons_append, List.nil_append, List.append_nil, List.replicate, List.getElem?_cons_zero, List.getElem?_cons_succ, List.set_cons_zero, List.set_cons_succ, if_true, if_false, Nat.reduceAdd, Nat.reduceSub, Bool.and_true, Bool.true_and, Bool.not_true, Bool.not_false, nf_i, gMul_r (y := 32009) (by decide) (by decide), bInt_i, gMod_i (y := 2147482811) (by decide)]
      exact ⟨_, _, rfl, rfl, _, _, rfl⟩) [some (.s (ns.map PyData.int)), some (.d true (.int k)), some (.d true (.int own)), some (.d true (.int (80021 + 5009 * k))), none] M ⟨rfl, _, _, rfl⟩
  obtain ⟨Δ', M', h1, rfl, m, o, rfl⟩ := hf
  obtain ⟨c, hc⟩ : ∃ c : Int, mIf (tOr' (tB1 (mBin gLt (mVar 2) (mD true (.int 0)))) (tB1 (mBin gGe (mVar 2) (mBin gPow (mD true (.int 10)) (mD true (.int 18)))))) (mFn bAbs (mArgs [(mVar 2)])) (mD true (.int 0)) [some (.s (ns.map PyData.int)), some (.d true (.int k)), some (.d true (.int own)), some (.d true (.int m)), o] M' = some (.d true (.int c), M') := by
    have hp : ∀ M : MS, gPow (.d true (.int 10)) (.d true (.int 18)) M = some (.d true (.int (10 ^ 18)), M) := fun M => by
      have h : CPow 10 18 := ⟨by decide, by decide, by decide⟩
      show (if CPow 10 18 then some (W.d true (PyData.int ((10 : Int) ^ (18 : Int).toNat)), M) else none) = _
      rw [if_pos h]
      rfl
    by_cases h : own < 0
    · refine ⟨(own.natAbs : Nat), ?_⟩
      simp only [ev_var, ev_D, ev_bin, ev_un, ev_args0, ev_args, ev_fn, ev_call, ev_callK, ev_if, ev_B1, asB_d, ev_and, ev_or, ev_not, ev_mand, ev_mor, ev_true, ev_chain, ev_tup, ev_lst, ev_old, ev_new, ev_items, ev_lc, ev_seq, seq_nx, seq_rt, seq_bk, seq_ct, ev_next, ev_break, ev_ret, fz_d, ev_retW, ev_drop, ev_sif, ev_set, ev_par, par_2, ev_for, ev_sem, ob_some, ob_none, oif_true, oif_false, mkT2, mkT3, mkL0, mkL1, mkL2, gSub_i, gAdd_i, gLt_i, gLe_i, gGt_i, gGe_i, gEq_i, gNe_i, frIx0, frIx1, List.length_cons, List.length_nil, List.map_cons, List.map_nil, List.cons_append, List.nil_append, List.append_nil, List.replicate, List.getElem?_cons_zero, List.getElem?_cons_succ, List.set_cons_zero, List.set_cons_succ, if_true, if_false, Nat.reduceAdd, Nat.reduceSub, Bool.and_true, Bool.true_and, Bool.not_true, Bool.not_false, h, decide_true, bAbs_i]
    · by_cases h2 : (10 : Int) ^ 18 ≤ own
      · refine ⟨(own.natAbs : Nat), ?_⟩
        simp only [ev_var, ev_D, ev_bin, ev_un, ev_args0, ev_args, ev_fn, ev_call, ev_callK, ev_if, ev_B1, asB_d, ev_and, ev_or, ev_not, ev_mand, ev_mor, ev_true, ev_chain, ev_tup, ev_lst, ev_old, ev_new, ev_items, ev_lc, ev_seq, seq_nx, seq_rt, seq_bk, seq_ct, ev_next, ev_break, ev_ret, fz_d, ev_retW, ev_drop, ev_sif, ev_set, ev_par, par_2, ev_for, ev_sem, ob_some, ob_none, oif_true, oif_false, mkT2, mkT3, mkL0, mkL1, mkL2, gSub_i, gAdd_i, gLt_i, gLe_i, gGt_i, gGe_i, gEq_i, gNe_i, frIx0, frIx1, List.length_cons, List.length_nil, List.map_cons, List.map_nil, List.cons_append, List.nil_append, List.append_nil, List.replicate, List.getElem?_cons_zero, List.getElem?_cons_succ, List.set_cons_zero, List.set_cons_succ, if_true, if_false, Nat.reduceAdd, Nat.reduceSub, Bool.and_true, Bool.true_and, Bool.not_true, Bool.not_false, h, h2, hp, decide_true, decide_false, bAbs_i]
      · refine ⟨0, ?_⟩
        simp only [ev_var, ev_D, ev_bin, ev_un, ev_args0, ev_args, ev_fn, ev_call, ev_callK, ev_if, ev_B1, asB_d, ev_and, ev_or, ev_not, ev_mand, ev_mor, ev_true, ev_chain, ev_tup, ev_lst, ev_old, ev_new, ev_items, ev_lc, ev_seq, seq_nx, seq_rt, seq_bk, seq_ct, ev_next, ev_break, ev_ret, fz_d, ev_retW, ev_drop, ev_sif, ev_set, ev_par, par_2, ev_for, ev_sem, ob_some, ob_none, oif_true, oif_false, mkT2, mkT3, mkL0, mkL1, mkL2, gSub_i, gAdd_i, gLt_i, gLe_i, gGt_i, gGe_i, gEq_i, gNe_i, frIx0, frIx1, List.length_cons, List.length_nil, List.map_cons, List.map_nil, List.cons_append, List.nil_append, List.append_nil, List.replicate, List.getElem?_cons_zero, List.getElem?_cons_succ, List.set_cons_zero, List.set_cons_succ, if_true, if_false, Nat.reduceAdd, Nat.reduceSub, Bool.and_true, Bool.true_and, Bool.not_true, Bool.not_false, h, h2, hp, decide_true, decide_false, bAbs_i]
  refine ⟨(m + own * 7013) % 2147482811, c, ?_⟩
  have mk3 : ∀ (x y z : PD) (M : MS), mkL [.d true x, .d true y, .d true z] M = some ((true, [x, y, z]), M) := fun x y z M => by simp [mkL, fzAll, fz1, ob]
  unfold f__law_flask
  simp only [ev_var, ev_D, ev_bin, ev_un, ev_args0, ev_args, ev_fn, ev_call, ev_callK, ev_if, ev_B1, asB_d, ev_and, ev_or, ev_not, ev_mand, ev_mor, ev_true, ev_chain, ev_tup, ev_lst, ev_old, ev_new, ev_items, ev_lc, ev_seq, seq_nx, seq_rt, seq_bk, seq_ct, ev_next, ev_break, ev_ret, fz_d, ev_retW, ev_drop, ev_sif, ev_set, ev_par, par_2, ev_for, ev_sem, ob_some, ob_none, oif_true, oif_false, mkT2, mkT3, mkL0, mkL1, mkL2, gSub_i, gAdd_i, gLt_i, gLe_i, gGt_i, gGe_i, gEq_i, gNe_i, frIx0, frIx1, List.length_cons, List.length_nil, List.map_cons, List.map_nil, List.cons_append, List.nil_append, List.append_nil, List.replicate, List.getElem?_cons_zero, List.getElem?_cons_succ, List.set_cons_zero, List.set_cons_succ, if_true, if_false, Nat.reduceAdd, Nat.reduceSub, Bool.and_true, Bool.true_and, Bool.not_true, Bool.not_false, ↓ho, gMul_l (x := 5009) (by decide) (by decide), hl, fzQ_l, h1, ↓hc, gMul_r (y := 7013) (by decide) (by decide), bInt_i, gMod_i (y := 2147482811) (by decide), mk3]

theorem k_add (p q : Rat) (h : Sm2 p q) : FnC f_add [.d (fr p), .d (fr q)] (fr (p + q)) := fnc2 fun r s M => ex0 (c_add h.1 h.2 (by decide) M)
theorem k_less (p q : Rat) (h : Sm2 p q) : FnC f_less [.d (fr p), .d (fr q)] (fr (p - q)) := fnc2 fun r s M => ex0 (c_less h.1 h.2 (by decide) M)
theorem k_times (p q : Rat) (h : Sm2 p q) : FnC f_times [.d (fr p), .d (fr q)] (fr (p * q)) := fnc2 fun r s M => ex0 (c_times h.1 h.2 (by decide) M)
theorem k_below (p q : Rat) (h : Sm2 p q) : FnC f_is_below [.d (fr p), .d (fr q)] (eB (decide (p < q))) := fnc2 fun r s M => ex0 (c_below h.1 h.2 (by decide) M)
theorem k_greater (p q : Rat) (h : Sm2 p q) : FnC f_greater [.d (fr p), .d (fr q)] (fr (mx p q)) := fnc2 fun r s M => ex0 (c_greater h.1 h.2 (by decide) M)
theorem k_lplus (p q : Rat) (h : Sm2 p q) : FnC f__law_plus [.d (fr p), .d (fr q)] (fr (p + q)) := fnc2 fun r s M => ex0 (c_lplus h.1 h.2 (by decide) M)
theorem k_ltimes (p q : Rat) (h : Sm2 p q) : FnC f__law_times [.d (fr p), .d (fr q)] (fr (p * q)) := fnc2 fun r s M => ex0 (c_ltimes h.1 h.2 (by decide) M)
theorem k_lbelow (p q : Rat) (h : Sm2 p q) : FnC f__law_below [.d (fr p), .d (fr q)] (eB (decide (p < q))) := fnc2 fun r s M => ex0 (c_lbelow h.1 h.2 (by decide) M)
def LowOk (b : Int) : Prop := 0 < b ∧ b.natAbs < 2 ^ 900
def lowQ (a b : Int) : Rat := mkRat a b.toNat
theorem k_llow (a b : Int) (h : LowOk b) : FnC f__law_low [.d (eI a), .d (eI b)] (fr (lowQ a b)) := fnc2 fun r s M => by
  obtain ⟨h1, h2⟩ := h
  have e : b = ((b.toNat : Nat) : Int) := by omega
  have h3 : b.toNat ≠ 0 := by omega
  have h4 := c_llow (r := r) (s := s) (c := 900) a b.toNat h3 (by omega) (by decide) M
  rw [← e] at h4
  unfold lowQ
  rw [← Rat.normalize_eq_mkRat h3]
  exact ex0 h4
theorem k_check_number (q : Rat) : FnC f_check_number [.d (fr q)] .none := fnc1 fun r M => ex0 (c_check_number M)
theorem k_pour (j : Nat) (n : Int) (h : 0 < n ∧ n < 1000) : FnW j f__law_pour [.loc j, .d (eI n)] fun x => ∃ v : Int, (0 ≤ v ∧ v < n) ∧ x = eI v := fun ws M hd F => by
  cases hd with
  | cons h1 h2 =>
    cases h2 with
    | cons h2 h3 =>
      cases h3
      have e1 := isV_loc h1
      subst e1
      obtain ⟨r, rfl⟩ := isV_d h2
      obtain ⟨v, hv, M', e, F'⟩ := c_pour (r := r) (top := n.toNat) F (by omega) (by omega)
      refine ⟨true, eI v, M', ?_, ⟨v, ⟨by omega, by omega⟩, rfl⟩, F'⟩
      have en : ((n.toNat : Nat) : Int) = n := by omega
      rw [en] at e
      exact e
theorem k_pickL {j : Nat} {α : Type} (enc : α → PD) (l : List α) (h : l ≠ [] ∧ l.length < 1000) : FnW j f__law_pick [.loc j, .d (eL enc l)] fun x => ∃ v, v ∈ l ∧ x = enc v := fun ws M hd F => by
  cases hd with
  | cons h1 h2 =>
    cases h2 with
    | cons h2 h3 =>
      cases h3
      have e1 := isV_loc h1
      subst e1
      obtain ⟨r, rfl⟩ := isV_d h2
      obtain ⟨z, hz, M', e, F'⟩ := c_pick (r := r) (enc := enc) F h.1 h.2
      exact ⟨_, _, M', e, ⟨z, hz, rfl⟩, F'⟩
theorem k_pickT {j : Nat} {α : Type} (enc : α → PD) (l : List α) (h : l ≠ [] ∧ l.length < 1000) : FnW j f__law_pick [.loc j, .d (eT enc l)] fun x => ∃ v, v ∈ l ∧ x = enc v := fun ws M hd F => by
  cases hd with
  | cons h1 h2 =>
    cases h2 with
    | cons h2 h3 =>
      cases h3
      have e1 := isV_loc h1
      subst e1
      obtain ⟨r, rfl⟩ := isV_d h2
      obtain ⟨z, hz, M', e, F'⟩ := c_pickT (r := r) (enc := enc) F h.1 h.2
      exact ⟨_, _, M', e, ⟨z, hz, rfl⟩, F'⟩
theorem dw_e (d : List (Rat × Rat)) : eT (eP fr fr) d = dw d := rfl
theorem rw_e (l : List (List (Rat × Rat))) : eT (eT (eP fr fr)) l = rw' l := rfl
def OkWF (l : List (List (Rat × Rat))) (q : Rat) : Prop := Rw 4 3 4 l ∧ Sz 4 q
def OkBW (l : List (List (Rat × Rat))) (q x : Rat) : Prop := Rw 4 3 4 l ∧ Sz 4 q ∧ Sz 7 x
def OkMean (d : List (Rat × Rat)) : Prop := Dr 4 3 d
theorem k_worths_from (l : List (List (Rat × Rat))) (q : Rat) (h : OkWF l q) : FnC f_worths_from [.d (eT (eT (eP fr fr)) l), .d (fr q)] (eT fr (wos l q)) := fnc2 fun r s M => by
  obtain ⟨N, hN⟩ := c_worths_from (r := r) (s := s) h.1 h.2 (by decide) (by decide) (by decide) M
  exact ⟨_, N, hN⟩
theorem k_bar_worth (l : List (List (Rat × Rat))) (q x : Rat) (h : OkBW l q x) : FnC f_bar_worth [.d (eT (eT (eP fr fr)) l), .d (fr q), .d (fr x)] (fr (bw l q x)) := fnc3 fun r s u M => ex0 (c_bar h.1 h.2.1 h.2.2 (by decide) (by decide) (by decide) (by decide) (by decide) M)
theorem k_mean (d : List (Rat × Rat)) (h : OkMean d) : FnC f_mean [.d (eT (eP fr fr) d)] (fr (mean' d)) := fnc1 fun r M => ex0 (c_mean h (by decide) (by decide) M)

def outS (F : List (List Rat × Rat)) (d : (List (Rat × Rat))) : List (List Rat × Rat) := F.flatMap fun o => d.map fun z => (o.1 ++ [z.1], o.2 * z.2)
def hits (x : Rat) (l : List Rat) : List Rat := l.filter fun z => !decide (z < x)
def first (x q : Rat) (l : List Rat) : Rat := (hits x l).headD q
def due (F : List (List Rat × Rat)) (q x : Rat) : Rat := (F.map fun o => o.2 * first x q o.1).sum

theorem sum_app (l m : List Rat) : (l ++ m).sum = l.sum + m.sum := by
  induction l with
  | nil => simp [Rat.zero_add]
  | cons a l ih => simp [ih, Rat.add_assoc]
theorem sum_flat {α β : Type} (l : List α) (f : α → List β) (g : β → Rat) : ((l.flatMap f).map g).sum = (l.map fun a => ((f a).map g).sum).sum := by
  induction l with
  | nil => rfl
  | cons a l ih => simp [List.flatMap_cons, sum_app, ih]
theorem sum_mul {α : Type} (l : List α) (c : Rat) (g : α → Rat) : (l.map fun a => c * g a).sum = c * (l.map g).sum := by
  induction l with
  | nil => simp
  | cons a l ih => simp [ih, Rat.mul_add]
theorem sum_add {α : Type} (l : List α) (f g : α → Rat) : (l.map fun a => f a + g a).sum = (l.map f).sum + (l.map g).sum := by
  induction l with
  | nil => simp [Rat.add_zero]
  | cons a l ih => simp only [List.map_cons, List.sum_cons, ih]; grind
theorem sum_le {α : Type} {l : List α} {f g : α → Rat} (h : ∀ a, a ∈ l → f a ≤ g a) : (l.map f).sum ≤ (l.map g).sum := by
  induction l with
  | nil => simp
  | cons a l ih =>
    have h1 := h a List.mem_cons_self
    have h2 := ih fun a ha => h a (List.mem_cons_of_mem _ ha)
    simp only [List.map_cons, List.sum_cons]
    grind
theorem sum_filter {α : Type} (l : List α) (c : α → Bool) (f : α → Rat) : ((l.filter c).map f).sum = (l.map fun a => if c a = true then f a else 0).sum := by
  induction l with
  | nil => rfl
  | cons a l ih =>
    by_cases h : c a = true
    · simp [h, ih]
    · simp [h, ih, Rat.zero_add]
theorem bar_step (x q : Rat) (d : (List (Rat × Rat))) (hd : (d.map (·.2)).sum = 1) (F : List (List Rat × Rat)) (s : Rat × Rat) 
   (h : ∀ q, due F q x = s.1 + s.2 * q) : ∀ q, due (outS F d) q x = (barS x s d).1 + (barS x s d).2 * q := by
  intro q
  have key : ∀ o : List Rat × Rat, ((d.map fun z => (o.1 ++ [z.1], o.2 * z.2)).map fun o => o.2 * first x q o.1).sum = o.2 * first x (mean' (high x d) + (1 - ((high x d).map (·.2)).sum) * q) o.1 := by
    intro o
    rw [List.map_map]
    cases hh : hits x o.1 with
    | cons a t =>
      have e : (d.map ((fun o : List Rat × Rat => o.2 * first x q o.1) ∘ fun z => (o.1 ++ [z.1], o.2 * z.2))) = d.map fun z => (o.2 * a) * z.2 := by
        apply List.map_congr_left
        intro z _
        have : hits x (o.1 ++ [z.1]) = a :: (t ++ hits x [z.1]) := by
          unfold hits at hh ⊢
          rw [List.filter_append, hh]; rfl
        simp only [Function.comp, first, this, List.headD_cons]
        grind
      rw [e, sum_mul, hd]
      simp [first, hh]
    | nil =>
      have e : (d.map ((fun o : List Rat × Rat => o.2 * first x q o.1) ∘ fun z => (o.1 ++ [z.1], o.2 * z.2))) = d.map fun z => o.2 * ((if (!decide (z.1 < x)) = true then z.1 * z.2 else 0) + (z.2 * q - (if (!decide (z.1 < x)) = true then z.2 * q else 0))) := by
        apply List.map_congr_left
        intro z _
        have : hits x (o.1 ++ [z.1]) = hits x [z.1] := by
          unfold hits at hh ⊢
          rw [List.filter_append, hh]; rfl
        simp only [Function.comp, first, this]
        by_cases c : z.1 < x
        · simp [hits, c]; grind
        · simp [hits, c]; grind
      rw [e, sum_mul]
      have e2 : (d.map fun z => ((if (!decide (z.1 < x)) = true then z.1 * z.2 else 0) + (z.2 * q - (if (!decide (z.1 < x)) = true then z.2 * q else 0)))).sum = mean' (high x d) + (1 - ((high x d).map (·.2)).sum) * q := by
        unfold mean' high
        rw [sum_filter, sum_filter, ← hd]
        clear hd e
        induction d with
        | nil => simp; grind
        | cons z d ih =>
          simp only [List.map_cons, List.sum_cons]
          rw [ih]
          by_cases c : z.1 < x
          · simp [c]; grind
          · simp [c]; grind
      rw [e2]
      simp [first, hh]
  unfold due outS
  rw [sum_flat]
  have e := h (mean' (high x d) + (1 - ((high x d).map (·.2)).sum) * q)
  unfold due at e
  rw [← List.map_congr_left (fun o _ => key o)] at e
  rw [e]
  simp only [barS]
  grind
theorem due_bw (x : Rat) (l : List (List (Rat × Rat))) (hl : ∀ d, d ∈ l → (d.map (·.2)).sum = 1) (q : Rat) : due (l.foldl outS [([], 1)]) q x = bw l q x := by
  suffices h : ∀ (l : List (List (Rat × Rat))), (∀ d, d ∈ l → (d.map (·.2)).sum = 1) → ∀ (F : List (List Rat × Rat)) (s : Rat × Rat), (∀ q, due F q x = s.1 + s.2 * q) → ∀ q, due (l.foldl outS F) q x = (l.foldl (barS x) s).1 + (l.foldl (barS x) s).2 * q by
    refine h l hl _ _ (fun q => ?_) q
    simp [due, first, hits]; grind
  intro l
  induction l with
  | nil => exact fun _ F s h q => h q
  | cons d l ih =>
    intro hl F s h q
    exact ih (fun d hd => hl d (List.mem_cons_of_mem _ hd)) _ _ (bar_step x q d (hl d List.mem_cons_self) F s h) q
theorem bw_cons (d : (List (Rat × Rat))) (l : List (List (Rat × Rat))) (q x : Rat) : bw (d :: l) q x = mean' (high x d) + (1 - ((high x d).map (·.2)).sum) * bw l q x := by
  suffices h : ∀ (l : List (List (Rat × Rat))) (s : Rat × Rat), (l.foldl (barS x) s).1 + (l.foldl (barS x) s).2 * q = s.1 + s.2 * bw l q x by
    unfold bw
    rw [List.foldl_cons, h]
    simp only [barS]
    unfold bw
    grind
  intro l
  induction l with
  | nil => intro s; simp [bw]; grind
  | cons d l ih =>
    intro s
    unfold bw
    rw [List.foldl_cons, List.foldl_cons, ih, ih]
    simp only [barS]
    grind
theorem le_mx (p q : Rat) : p ≤ mx p q ∧ q ≤ mx p q := by
  unfold mx
  split <;> grind
/-- with a bar -/
theorem bar_le (d : (List (Rat × Rat))) (hd : (d.map (·.2)).sum = 1) (hp : ∀ z, z ∈ d → 0 < z.2) (x w b : Rat) (h : b ≤ w) : mean' (high x d) + (1 - ((high x d).map (·.2)).sum) * b ≤ w + exc d w := by
  have h1 : mean' (high x d) + (1 - ((high x d).map (·.2)).sum) * w = w + (d.map fun z => if (!decide (z.1 < x)) = true then (z.1 - w) * z.2 else 0).sum := by
    unfold mean' high
    rw [sum_filter, sum_filter]
    clear hd hp
    induction d with
    | nil => simp; grind
    | cons z d ih =>
      simp only [List.map_cons, List.sum_cons]
      by_cases c : z.1 < x
      · simp [c] at ih ⊢; grind
      · simp [c] at ih ⊢; grind
  have h2 : (d.map fun z => if (!decide (z.1 < x)) = true then (z.1 - w) * z.2 else 0).sum ≤ exc d w := by
    apply sum_le
    intro z hz
    have h3 := hp z hz
    have h4 := le_mx (z.1 - w) 0
    split
    · exact Rat.mul_le_mul_of_nonneg_right h4.1 (Rat.le_of_lt h3)
    · exact Rat.mul_nonneg h4.2 (Rat.le_of_lt h3)
  have h5 : ((high x d).map (·.2)).sum ≤ 1 := by
    rw [← hd]
    unfold high
    rw [sum_filter]
    apply sum_le
    intro z hz
    have := hp z hz
    split <;> grind
  have h6 : (1 - ((high x d).map (·.2)).sum) * b ≤ (1 - ((high x d).map (·.2)).sum) * w := Rat.mul_le_mul_of_nonneg_left h (by grind)
  grind
theorem bw_le (l : List (List (Rat × Rat))) (hl : ∀ d, d ∈ l → (d.map (·.2)).sum = 1) (hp : ∀ d, d ∈ l → ∀ z, z ∈ d → 0 < z.2) (q x : Rat) : bw l q x ≤ wo l q := by
  induction l with
  | nil => simp [bw, wo]; grind
  | cons d l ih =>
    rw [bw_cons]
    exact bar_le d (hl d List.mem_cons_self) (hp d List.mem_cons_self) x _ _ (ih (fun d hd => hl d (List.mem_cons_of_mem _ hd)) (fun d hd => hp d (List.mem_cons_of_mem _ hd)))
theorem high_all {x : Rat} {d : (List (Rat × Rat))} (h : ∀ z, z ∈ d → x ≤ z.1) : high x d = d := by
  unfold high
  rw [List.filter_eq_self]
  intro z hz
  have := h z hz
  simp; grind
theorem high_none {x : Rat} {d : (List (Rat × Rat))} (h : ∀ z, z ∈ d → z.1 < x) : high x d = [] := by
  unfold high
  rw [List.filter_eq_nil_iff]
  intro z hz
  simp [h z hz]
theorem bw_low (d : (List (Rat × Rat))) (l : List (List (Rat × Rat))) (q x : Rat) (hd : (d.map (·.2)).sum = 1) (h : ∀ z, z ∈ d → x ≤ z.1) : bw (d :: l) q x = mean' d := by
  rw [bw_cons, high_all h, hd]
  grind
theorem bw_high (l : List (List (Rat × Rat))) (q x : Rat) (h : ∀ d, d ∈ l → ∀ z, z ∈ d → z.1 < x) : bw l q x = q := by
  induction l with
  | nil => simp [bw]; grind
  | cons d l ih =>
    rw [bw_cons, high_none (h d List.mem_cons_self), ih fun d hd => h d (List.mem_cons_of_mem _ hd)]
    simp [mean']; grind
/-- the greatest one -/
theorem fold_mx (l : List Rat) : ∀ a w : Rat, a ≤ w → (∀ b, b ∈ l → b ≤ w) → (a = w ∨ w ∈ l) → l.foldl mx a = w := by
  induction l with
  | nil =>
    intro a w _ _ h
    rcases h with h | h
    · exact h
    · cases h
  | cons b l ih =>
    intro a w h1 h2 h3
    have hb := h2 b List.mem_cons_self
    rw [List.foldl_cons]
    refine ih _ w ?_ (fun b hb => h2 b (List.mem_cons_of_mem _ hb)) ?_
    · unfold mx; split <;> assumption
    · rcases h3 with rfl | h3
      · refine .inl ?_
        unfold mx; split <;> grind
      · cases h3 with
        | head => refine .inl ?_; unfold mx; split <;> grind
        | tail _ h => exact .inr h
theorem bw_one (d : (List (Rat × Rat))) (q x : Rat) : bw [d] q x = q + (d.map fun z => if (!decide (z.1 < x)) = true then (z.1 - q) * z.2 else 0).sum := by
  rw [bw_cons]
  unfold mean' high bw
  rw [sum_filter, sum_filter]
  simp only [List.foldl_nil]
  induction d with
  | nil => simp; grind
  | cons z d ih =>
    simp only [List.map_cons, List.sum_cons]
    by_cases c : z.1 < x
    · simp [c] at ih ⊢; grind
    · simp [c] at ih ⊢; grind
theorem exc_if (d : (List (Rat × Rat))) (q : Rat) : exc d q = (d.map fun z => if (!decide (z.1 < q)) = true then (z.1 - q) * z.2 else 0).sum := by
  unfold exc
  congr 1
  apply List.map_congr_left
  intro z _
  unfold mx
  by_cases c : z.1 < q
  · simp [c]; grind
  · simp [c]; grind
theorem best_one (d : (List (Rat × Rat))) (q t : Rat) (hd : (d.map (·.2)).sum = 1) (hp : ∀ z, z ∈ d → 0 < z.2) (hr : d.Pairwise fun a b => a.1 < b.1) (ht : ∀ z, z ∈ d → z.1 < t) :
    ∀ a, a = bw [d] q t ∨ a ∈ d.map (fun z => bw [d] q z.1) → (d.map (fun z => bw [d] q z.1) ++ [bw [d] q t]).foldl mx a = wo [d] q := by
  have hle : ∀ x, bw [d] q x ≤ wo [d] q := bw_le [d] (by simpa using hd) (by simpa using hp) q
  intro a ha
  have ha' : a ≤ wo [d] q := by
    rcases ha with rfl | ha
    · exact hle t
    · obtain ⟨z, _, rfl⟩ := List.mem_map.mp ha
      exact hle _
  refine fold_mx _ a _ ha' ?_ (.inr ?_)
  · intro b hb
    rcases List.mem_append.mp hb with hb | hb
    · obtain ⟨z, _, rfl⟩ := List.mem_map.mp hb
      exact hle _
    · cases hb with
      | head => exact hle t
      | tail _ h => cases h
  · have hw : wo [d] q = q + (d.map fun z => if (!decide (z.1 < q)) = true then (z.1 - q) * z.2 else 0).sum := by
      simp only [wo, exc_if]
    cases hf : d.find? (fun z => !decide (z.1 < q)) with
    | none =>
      rw [List.find?_eq_none] at hf
      refine List.mem_append_right _ (List.mem_singleton.mpr ?_)
      rw [hw, bw_one]
      congr 2
      apply List.map_congr_left
      intro z hz
      have h1 := hf z hz
      have h2 := ht z hz
      simp at h1
      have h3 : z.1 < q := by grind
      simp [h2, h3]
    | some y =>
      obtain ⟨h1, as, bs, h2, h3⟩ := List.find?_eq_some_iff_append.mp hf
      refine List.mem_append_left _ (List.mem_map.mpr ⟨y, by rw [h2]; simp, ?_⟩)
      rw [hw, bw_one]
      congr 2
      apply List.map_congr_left
      intro z hz
      have hyq : ¬ y.1 < q := by simpa using h1
      rw [h2] at hz hr
      rw [List.pairwise_append] at hr
      rcases List.mem_append.mp hz with hz | hz
      · have h4 := h3 z hz
        have h5 := hr.2.2 z hz y List.mem_cons_self
        have h6 : z.1 < q := by simpa using h4
        simp [h5, h6]
      · cases hz with
        | head => 
          have : ¬ y.1 < y.1 := by grind
          simp [this, hyq]
        | tail _ hz =>
          have h5 := (List.pairwise_cons.mp hr.2.1).1 z hz
          have h6 : ¬ z.1 < q := by grind
          have h7 : ¬ z.1 < y.1 := by grind
          simp [h6, h7]

def p_total (a0 : (List Rat)) : Rat := (List.foldl (fun (s2 : Rat) (z1 : Rat) => (s2 + z1)) (0 : Rat) a0)
def ok_total (a0 : (List Rat)) : Prop := (∀ (dn3 : List Rat) (z1 : Rat) (rs4 : List Rat), a0 = dn3 ++ z1 :: rs4 → ∀ (s2 : Rat), s2 = List.foldl (fun (s2 : Rat) (z1 : Rat) => (s2 + z1)) (0 : Rat) dn3 → ((Sm2 s2 z1)))
theorem k_total (a0 : (List Rat)) (h : ok_total a0) : FnC f_total [.d ((eL fr) a0)] (fr (p_total a0)) := by
  unfold ok_total at h
  unfold f_total p_total
  exact fn_c (s_set (q_cst (q := (0 : Rat)) (by decide +kernel)) (s_for fr a0 (fun (s2 : Rat) => ([some (.d ((eL fr) a0)), some (.d (fr s2)), none] : AE)) (fun (s2 : Rat) (z1 : Rat) => (s2 + z1)) (0 : Rat) (itL (ea := fr) (e_var rfl)) (.k (.k (.n .nil))) (fun dn3 z1 rs4 hdn3 s2 hs2 => ⟨_, g_nm, (s_set (e_call (k_add s2 z1 ((h) dn3 z1 rs4 hdn3 s2 hs2)) (a_cons (e_var rfl) (a_cons (e_var rfl) a_nil)) rfl) (s_next (.k (.k (.n .nil)))))⟩) (s_ret (e_var rfl))))

def p_weighed (a0 : Rat) (a1 : Rat) : Rat := (a0 * a1)
def ok_weighed (a0 : Rat) (a1 : Rat) : Prop := (Sm2 a0 a1)
theorem k_weighed (a0 : Rat) (a1 : Rat) (h : ok_weighed a0 a1) : FnC f_weighed [.d (fr a0), .d (fr a1)] (fr (p_weighed a0 a1)) := by
  unfold ok_weighed at h
  unfold f_weighed p_weighed
  exact fn_c (s_ret (e_call (k_times a0 a1 (h)) (a_cons (e_var rfl) (a_cons (e_var rfl) a_nil)) rfl))

def p_mean_of (a0 : (List (Rat × Rat))) : Rat := (p_total (List.map (fun (z8 : (Rat × Rat)) => (z8.1 * z8.2)) a0))
def ok_mean_of (a0 : (List (Rat × Rat))) : Prop := (List.length a0 ≤ 100000) ∧ (∀ (z8 : (Rat × Rat)), z8 ∈ a0 → ((Sm2 z8.1 z8.2))) ∧ (ok_total (List.map (fun (z8 : (Rat × Rat)) => (z8.1 * z8.2)) a0))
theorem k_mean_of (a0 : (List (Rat × Rat))) (h : ok_mean_of a0) : FnC f_mean_of [.d ((eT (eP fr fr)) a0)] (fr (p_mean_of a0)) := by
  unfold ok_mean_of at h
  unfold f_mean_of p_mean_of
  exact fn_c (s_ret (e_call (k_total (List.map (fun (z8 : (Rat × Rat)) => (z8.1 * z8.2)) a0) (h).2.2) (a_cons (oldL (l_lcm (eP fr fr) fr (fun (z8 : (Rat × Rat)) => (z8.1 * z8.2)) (itT (ea := (eP fr fr)) (e_var rfl)) (h).1 (fun z8 hz8 => ⟨_, (g_pp g_nm g_nm), (e_call (k_times z8.1 z8.2 ((h).2.1 z8 hz8)) (a_cons (e_var rfl) (a_cons (e_var rfl) a_nil)) rfl)⟩))) a_nil) rfl))

def p_excess_of (a0 : (List (Rat × Rat))) (a1 : Rat) : Rat := (p_total (List.map (fun (z13 : (Rat × Rat)) => ((mx (z13.1 - a1) (0 : Rat)) * z13.2)) a0))
def ok_excess_of (a0 : (List (Rat × Rat))) (a1 : Rat) : Prop := (List.length a0 ≤ 100000) ∧ (∀ (z13 : (Rat × Rat)), z13 ∈ a0 → ((Sm2 z13.1 a1) ∧ (Sm2 (z13.1 - a1) (0 : Rat)) ∧ (Sm2 (mx (z13.1 - a1) (0 : Rat)) z13.2))) ∧ (ok_total (List.map (fun (z13 : (Rat × Rat)) => ((mx (z13.1 - a1) (0 : Rat)) * z13.2)) a0))
theorem k_excess_of (a0 : (List (Rat × Rat))) (a1 : Rat) (h : ok_excess_of a0 a1) : FnC f_excess_of [.d ((eT (eP fr fr)) a0), .d (fr a1)] (fr (p_excess_of a0 a1)) := by
  unfold ok_excess_of at h
  unfold f_excess_of p_excess_of
  exact fn_c (s_ret (e_call (k_total (List.map (fun (z13 : (Rat × Rat)) => ((mx (z13.1 - a1) (0 : Rat)) * z13.2)) a0) (h).2.2) (a_cons (oldL (l_lcm (eP fr fr) fr (fun (z13 : (Rat × Rat)) => ((mx (z13.1 - a1) (0 : Rat)) * z13.2)) (itT (ea := (eP fr fr)) (e_var rfl)) (h).1 (fun z13 hz13 => ⟨_, (g_pp g_nm g_nm), (e_call (k_times (mx (z13.1 - a1) (0 : Rat)) z13.2 ((h).2.1 z13 hz13).2.2) (a_cons (e_call (k_greater (z13.1 - a1) (0 : Rat) ((h).2.1 z13 hz13).2.1) (a_cons (e_call (k_less z13.1 a1 ((h).2.1 z13 hz13).1) (a_cons (e_var rfl) (a_cons (e_var rfl) a_nil)) rfl) (a_cons (q_cst (q := (0 : Rat)) (by decide +kernel)) a_nil)) rfl) (a_cons (e_var rfl) a_nil)) rfl)⟩))) a_nil) rfl))

def p_law_sum (a0 : (List Rat)) : Rat := (List.foldl (fun (s21 : Rat) (z20 : Rat) => (s21 + z20)) (0 : Rat) a0)
def ok_law_sum (a0 : (List Rat)) : Prop := (∀ (dn22 : List Rat) (z20 : Rat) (rs23 : List Rat), a0 = dn22 ++ z20 :: rs23 → ∀ (s21 : Rat), s21 = List.foldl (fun (s21 : Rat) (z20 : Rat) => (s21 + z20)) (0 : Rat) dn22 → ((Sm2 s21 z20)))
theorem k_law_sum (a0 : (List Rat)) (h : ok_law_sum a0) : FnC f__law_sum [.d ((eL fr) a0)] (fr (p_law_sum a0)) := by
  unfold ok_law_sum at h
  unfold f__law_sum p_law_sum
  exact fn_c (s_set (q_lit (q := (0 : Rat)) i_lit i_lit (by decide +kernel)) (s_for fr a0 (fun (s21 : Rat) => ([some (.d ((eL fr) a0)), some (.d (fr s21)), none] : AE)) (fun (s21 : Rat) (z20 : Rat) => (s21 + z20)) (0 : Rat) (itL (ea := fr) (e_var rfl)) (.k (.k (.n .nil))) (fun dn22 z20 rs23 hdn22 s21 hs21 => ⟨_, g_nm, (s_set (e_call (k_lplus s21 z20 ((h) dn22 z20 rs23 hdn22 s21 hs21)) (a_cons (e_var rfl) (a_cons (e_var rfl) a_nil)) rfl) (s_next (.k (.k (.n .nil)))))⟩) (s_ret (e_var rfl))))

def p_law_outcomes (a0 : (List (List (Rat × Rat)))) : (List ((List Rat) × Rat)) := (List.foldl (fun (s27 : (List ((List Rat) × Rat))) (z26 : (List (Rat × Rat))) => (List.foldl (fun (s31 : (List ((List Rat) × Rat))) (z30 : ((List Rat) × Rat)) => (s31 ++ (List.map (fun (z34 : (Rat × Rat)) => ((z30.1 ++ ([z34.1] : List Rat)), (z30.2 * z34.2))) z26))) ([] : List ((List Rat) × Rat)) s27)) ([(([] : List Rat), (1 : Rat))] : List ((List Rat) × Rat)) a0)
def ok_law_outcomes (a0 : (List (List (Rat × Rat)))) : Prop := (∀ (dn28 : List (List (Rat × Rat))) (z26 : (List (Rat × Rat))) (rs29 : List (List (Rat × Rat))), a0 = dn28 ++ z26 :: rs29 → ∀ (s27 : (List ((List Rat) × Rat))), s27 = List.foldl (fun (s27 : (List ((List Rat) × Rat))) (z26 : (List (Rat × Rat))) => (List.foldl (fun (s31 : (List ((List Rat) × Rat))) (z30 : ((List Rat) × Rat)) => (s31 ++ (List.map (fun (z34 : (Rat × Rat)) => ((z30.1 ++ ([z34.1] : List Rat)), (z30.2 * z34.2))) z26))) ([] : List ((List Rat) × Rat)) s27)) ([(([] : List Rat), (1 : Rat))] : List ((List Rat) × Rat)) dn28 → ((∀ (dn32 : List ((List Rat) × Rat)) (z30 : ((List Rat) × Rat)) (rs33 : List ((List Rat) × Rat)), s27 = dn32 ++ z30 :: rs33 → ∀ (s31 : (List ((List Rat) × Rat))), s31 = List.foldl (fun (s31 : (List ((List Rat) × Rat))) (z30 : ((List Rat) × Rat)) => (s31 ++ (List.map (fun (z34 : (Rat × Rat)) => ((z30.1 ++ ([z34.1] : List Rat)), (z30.2 * z34.2))) z26))) ([] : List ((List Rat) × Rat)) dn32 → ((List.length z26 ≤ 100000) ∧ (∀ (z34 : (Rat × Rat)), z34 ∈ z26 → ((List.length z30.1 + List.length ([z34.1] : List Rat) ≤ 10000) ∧ (Sm2 z30.2 z34.2))) ∧ (List.length s31 + List.length (List.map (fun (z34 : (Rat × Rat)) => ((z30.1 ++ ([z34.1] : List Rat)), (z30.2 * z34.2))) z26) ≤ 10000)))))
theorem k_law_outcomes (a0 : (List (List (Rat × Rat)))) (h : ok_law_outcomes a0) : FnC f__law_outcomes [.d ((eT (eT (eP fr fr))) a0)] ((eL (eP (eL fr) fr)) (p_law_outcomes a0)) := by
  unfold ok_law_outcomes at h
  unfold f__law_outcomes p_law_outcomes
  exact fn_c (s_set (oldL (lstN (ea := (eP (eL fr) fr)) (l := [(([] : List Rat), (1 : Rat))]) (a_cons (p_mk (oldL (lst0 (ea := fr))) (q_lit (q := (1 : Rat)) i_lit i_lit (by decide +kernel))) a_nil) rfl (by simp))) (s_for (eT (eP fr fr)) a0 (fun (s27 : (List ((List Rat) × Rat))) => ([some (.d ((eT (eT (eP fr fr))) a0)), some (.d ((eL (eP (eL fr) fr)) s27)), none, none, none, none, none, none] : AE)) (fun (s27 : (List ((List Rat) × Rat))) (z26 : (List (Rat × Rat))) => (List.foldl (fun (s31 : (List ((List Rat) × Rat))) (z30 : ((List Rat) × Rat)) => (s31 ++ (List.map (fun (z34 : (Rat × Rat)) => ((z30.1 ++ ([z34.1] : List Rat)), (z30.2 * z34.2))) z26))) ([] : List ((List Rat) × Rat)) s27)) ([(([] : List Rat), (1 : Rat))] : List ((List Rat) × Rat)) (itT (ea := (eT (eP fr fr))) (e_var rfl)) (.k (.k (.n (.n (.n (.n (.n (.n .nil)))))))) (fun dn28 z26 rs29 hdn28 s27 hs27 => ⟨_, g_nm, (s_set (oldL (lst0 (ea := (eP (eL fr) fr)))) (s_for (eP (eL fr) fr) s27 (fun (s31 : (List ((List Rat) × Rat))) => ([some (.d ((eT (eT (eP fr fr))) a0)), some (.d ((eL (eP (eL fr) fr)) s27)), some (.d ((eT (eP fr fr)) z26)), some (.d ((eL (eP (eL fr) fr)) s31)), none, none, none, none] : AE)) (fun (s31 : (List ((List Rat) × Rat))) (z30 : ((List Rat) × Rat)) => (s31 ++ (List.map (fun (z34 : (Rat × Rat)) => ((z30.1 ++ ([z34.1] : List Rat)), (z30.2 * z34.2))) z26))) ([] : List ((List Rat) × Rat)) (itL (ea := (eP (eL fr) fr)) (e_var rfl)) (.k (.k (.k (.k (.n (.n (.n (.n .nil)))))))) (fun dn32 z30 rs33 hdn32 s31 hs31 => ⟨_, (g_pp g_nm g_nm), (s_set (catL (ea := (eP (eL fr) fr)) (e_var rfl) (oldL (l_lcm (eP fr fr) (eP (eL fr) fr) (fun (z34 : (Rat × Rat)) => ((z30.1 ++ ([z34.1] : List Rat)), (z30.2 * z34.2))) (itT (ea := (eP fr fr)) (e_var rfl)) (((h) dn28 z26 rs29 hdn28 s27 hs27) dn32 z30 rs33 hdn32 s31 hs31).1 (fun z34 hz34 => ⟨_, (g_pp g_nm g_nm), (p_mk (catL (ea := fr) (e_var rfl) (oldL (lstN (ea := fr) (l := [z34.1]) (a_cons (e_var rfl) a_nil) rfl (by simp))) ((((h) dn28 z26 rs29 hdn28 s27 hs27) dn32 z30 rs33 hdn32 s31 hs31).2.1 z34 hz34).1) (e_call (k_ltimes z30.2 z34.2 ((((h) dn28 z26 rs29 hdn28 s27 hs27) dn32 z30 rs33 hdn32 s31 hs31).2.1 z34 hz34).2) (a_cons (e_var rfl) (a_cons (e_var rfl) a_nil)) rfl))⟩))) (((h) dn28 z26 rs29 hdn28 s27 hs27) dn32 z30 rs33 hdn32 s31 hs31).2.2) (s_next (.k (.k (.k (.k (.n (.n (.n (.n .nil))))))))))⟩) (s_set (e_var rfl) (s_next (.k (.k (.n (.n (.n (.n (.n (.n .nil))))))))))))⟩) (s_ret (e_var rfl))))

def law_first_q46_some (a0 : (List Rat)) (a1 : Rat) (a2 : Rat) : (List Rat) := (List.map (fun (z42 : Rat) => z42) (List.filter (fun (z42 : Rat) => (!decide (z42 < a1))) a0))
def p_law_first (a0 : (List Rat)) (a1 : Rat) (a2 : Rat) : Rat := (if (!decide ((law_first_q46_some a0 a1 a2) = ([] : List Rat))) = true then (ix (law_first_q46_some a0 a1 a2) (0 : Int)) else a2)
def ok_law_first (a0 : (List Rat)) (a1 : Rat) (a2 : Rat) : Prop := (List.length a0 ≤ 100000) ∧ (∀ (z42 : Rat), z42 ∈ a0 → ((Sm2 z42 a1))) ∧ ((!decide ((law_first_q46_some a0 a1 a2) = ([] : List Rat))) = true → ((IxOk (List.length (law_first_q46_some a0 a1 a2)) (0 : Int))))
theorem k_law_first (a0 : (List Rat)) (a1 : Rat) (a2 : Rat) (h : ok_law_first a0 a1 a2) : FnC f__law_first [.d ((eL fr) a0), .d (fr a1), .d (fr a2)] (fr (p_law_first a0 a1 a2)) := by
  unfold ok_law_first at h
  unfold f__law_first p_law_first
  exact fn_c (s_set (show Ev _ _ ((eL fr) (law_first_q46_some a0 a1 a2)) from (oldL (l_lcf fr fr (fun (z42 : Rat) => (!decide (z42 < a1))) (fun (z42 : Rat) => z42) (itL (ea := fr) (e_var rfl)) (h).1 (fun z42 hz42 => ⟨_, g_nm, (t_not (t_b (e_call (k_lbelow z42 a1 ((h).2.1 z42 hz42)) (a_cons (e_var rfl) (a_cons (e_var rfl) a_nil)) rfl))), fun hk45 => (e_var rfl)⟩)))) (s_ret (e_if fr (t_b (y_ne (eq_L eq_fr) (e_var rfl) (oldL (lst0 (ea := fr))))) (fun hk49 => (x_L (ea := fr) (e_var rfl) i_lit ((h).2.2 hk49))) (fun hk49 => (e_var rfl)))))

def S_law_draw (a1 : Int) (a2 : Int) (r : (List (Rat × Rat))) : Prop := (∃ v55 : Int, (0 ≤ v55 ∧ v55 < a1) ∧ (∃ v63 : (List Int), Rel2 (fun (z57 : Int) (b59 : Int) => (∃ v61 : Int, v61 ∈ (List.map (fun (z51 : Int) => z51) (List.filter (fun (z51 : Int) => decide (a2 ≤ z51)) ([(-(15 : Int)), (-(6 : Int)), (0 : Int), (0 : Int), (3 : Int), (6 : Int), (8 : Int), (12 : Int), (18 : Int), (21 : Int), (30 : Int), (54 : Int)] : List Int))) ∧ b59 = v61)) (rng 0 ((1 : Int) + v55)) v63 ∧ (∃ v67 : (List Int), v67 ∈ (ix ([([([(12 : Int)] : List Int)] : List (List Int)), ([([(6 : Int), (6 : Int)] : List Int), ([(4 : Int), (8 : Int)] : List Int), ([(9 : Int), (3 : Int)] : List Int)] : List (List Int)), ([([(4 : Int), (4 : Int), (4 : Int)] : List Int), ([(6 : Int), (3 : Int), (3 : Int)] : List Int), ([(2 : Int), (4 : Int), (6 : Int)] : List Int)] : List (List Int))] : List (List (List Int))) ((List.length (upI v63) : Int) - (1 : Int))) ∧ r = (List.map (fun (z69 : Int) => ((lowQ (ix (upI v63) z69) (6 : Int)), (lowQ (ix v67 z69) (12 : Int)))) (rng 0 (List.length (upI v63) : Int))))))
def ok_law_draw (a1 : Int) (a2 : Int) : Prop := (List.length ([(-(15 : Int)), (-(6 : Int)), (0 : Int), (0 : Int), (3 : Int), (6 : Int), (8 : Int), (12 : Int), (18 : Int), (21 : Int), (30 : Int), (54 : Int)] : List Int) ≤ 100000) ∧ (0 < a1 ∧ a1 < 1000) ∧ (∀ (v55 : Int), (0 ≤ v55 ∧ v55 < a1) → ((-(2 ^ 62) ≤ ((1 : Int) + v55) ∧ ((1 : Int) + v55) < 2 ^ 62) ∧ (List.length (rng 0 ((1 : Int) + v55)) ≤ 100000) ∧ (∀ (z57 : Int), z57 ∈ (rng 0 ((1 : Int) + v55)) → (((List.map (fun (z51 : Int) => z51) (List.filter (fun (z51 : Int) => decide (a2 ≤ z51)) ([(-(15 : Int)), (-(6 : Int)), (0 : Int), (0 : Int), (3 : Int), (6 : Int), (8 : Int), (12 : Int), (18 : Int), (21 : Int), (30 : Int), (54 : Int)] : List Int))) ≠ [] ∧ List.length (List.map (fun (z51 : Int) => z51) (List.filter (fun (z51 : Int) => decide (a2 ≤ z51)) ([(-(15 : Int)), (-(6 : Int)), (0 : Int), (0 : Int), (3 : Int), (6 : Int), (8 : Int), (12 : Int), (18 : Int), (21 : Int), (30 : Int), (54 : Int)] : List Int))) < 1000))) ∧ (∀ (v63 : (List Int)), Rel2 (fun (z57 : Int) (b59 : Int) => (∃ v61 : Int, v61 ∈ (List.map (fun (z51 : Int) => z51) (List.filter (fun (z51 : Int) => decide (a2 ≤ z51)) ([(-(15 : Int)), (-(6 : Int)), (0 : Int), (0 : Int), (3 : Int), (6 : Int), (8 : Int), (12 : Int), (18 : Int), (21 : Int), (30 : Int), (54 : Int)] : List Int))) ∧ b59 = v61)) (rng 0 ((1 : Int) + v55)) v63 → ((List.length v63 < 64) ∧ (IxOk (List.length ([([([(12 : Int)] : List Int)] : List (List Int)), ([([(6 : Int), (6 : Int)] : List Int), ([(4 : Int), (8 : Int)] : List Int), ([(9 : Int), (3 : Int)] : List Int)] : List (List Int)), ([([(4 : Int), (4 : Int), (4 : Int)] : List Int), ([(6 : Int), (3 : Int), (3 : Int)] : List Int), ([(2 : Int), (4 : Int), (6 : Int)] : List Int)] : List (List Int))] : List (List (List Int)))) ((List.length (upI v63) : Int) - (1 : Int))) ∧ ((ix ([([([(12 : Int)] : List Int)] : List (List Int)), ([([(6 : Int), (6 : Int)] : List Int), ([(4 : Int), (8 : Int)] : List Int), ([(9 : Int), (3 : Int)] : List Int)] : List (List Int)), ([([(4 : Int), (4 : Int), (4 : Int)] : List Int), ([(6 : Int), (3 : Int), (3 : Int)] : List Int), ([(2 : Int), (4 : Int), (6 : Int)] : List Int)] : List (List Int))] : List (List (List Int))) ((List.length (upI v63) : Int) - (1 : Int))) ≠ [] ∧ List.length (ix ([([([(12 : Int)] : List Int)] : List (List Int)), ([([(6 : Int), (6 : Int)] : List Int), ([(4 : Int), (8 : Int)] : List Int), ([(9 : Int), (3 : Int)] : List Int)] : List (List Int)), ([([(4 : Int), (4 : Int), (4 : Int)] : List Int), ([(6 : Int), (3 : Int), (3 : Int)] : List Int), ([(2 : Int), (4 : Int), (6 : Int)] : List Int)] : List (List Int))] : List (List (List Int))) ((List.length (upI v63) : Int) - (1 : Int))) < 1000) ∧ (∀ (v67 : (List Int)), v67 ∈ (ix ([([([(12 : Int)] : List Int)] : List (List Int)), ([([(6 : Int), (6 : Int)] : List Int), ([(4 : Int), (8 : Int)] : List Int), ([(9 : Int), (3 : Int)] : List Int)] : List (List Int)), ([([(4 : Int), (4 : Int), (4 : Int)] : List Int), ([(6 : Int), (3 : Int), (3 : Int)] : List Int), ([(2 : Int), (4 : Int), (6 : Int)] : List Int)] : List (List Int))] : List (List (List Int))) ((List.length (upI v63) : Int) - (1 : Int))) → ((-(2 ^ 62) ≤ (List.length (upI v63) : Int) ∧ (List.length (upI v63) : Int) < 2 ^ 62) ∧ (List.length (rng 0 (List.length (upI v63) : Int)) ≤ 100000) ∧ (∀ (z69 : Int), z69 ∈ (rng 0 (List.length (upI v63) : Int)) → ((IxOk (List.length (upI v63)) z69) ∧ (LowOk (6 : Int)) ∧ (IxOk (List.length v67) z69) ∧ (LowOk (12 : Int))))))))))
theorem k_law_draw (j : Nat) (a1 : Int) (a2 : Int) (h : ok_law_draw a1 a2) : FnW j f__law_draw [.loc j, .d (eI a1), .d (eI a2)] (fun x => ∃ r, S_law_draw a1 a2 r ∧ x = (eT (eP fr fr)) r) := by
  unfold ok_law_draw at h
  unfold f__law_draw S_law_draw
  exact fn_w (ws_set (wc_pure (oldL (l_lcf eI eI (fun (z51 : Int) => decide (a2 ≤ z51)) (fun (z51 : Int) => z51) (itL (ea := eI) (oldL (lstN (ea := eI) (l := [(-(15 : Int)), (-(6 : Int)), (0 : Int), (0 : Int), (3 : Int), (6 : Int), (8 : Int), (12 : Int), (18 : Int), (21 : Int), (30 : Int), (54 : Int)]) (a_cons (i_neg i_lit) (a_cons (i_neg i_lit) (a_cons i_lit (a_cons i_lit (a_cons i_lit (a_cons i_lit (a_cons i_lit (a_cons i_lit (a_cons i_lit (a_cons i_lit (a_cons i_lit (a_cons i_lit a_nil)))))))))))) rfl (by simp)))) (h).1 (fun z51 hz51 => ⟨_, g_nm, (t_b (i_ge (e_var rfl) (e_var rfl))), fun hk53 => (e_var rfl)⟩))) (ws_set (wc_sortset (l0 := ()) (wc_old (wcL_lc eI eI (fun (z57 : Int) (b59 : Int) => (∃ v61 : Int, v61 ∈ (List.map (fun (z51 : Int) => z51) (List.filter (fun (z51 : Int) => decide (a2 ≤ z51)) ([(-(15 : Int)), (-(6 : Int)), (0 : Int), (0 : Int), (3 : Int), (6 : Int), (8 : Int), (12 : Int), (18 : Int), (21 : Int), (30 : Int), (54 : Int)] : List Int))) ∧ b59 = v61)) (wcL_range1 (wc_bin (wc_pure i_lit (wc_call (wcA_var rfl (wcA_cons (wc_pure (e_var rfl) (wcA_nil ⟨rfl, (k_pour j a1 (h).2.1).mono (fun x hx => by obtain ⟨v55, hv55, rfl⟩ := hx; exact ⟨_, o_add, ⟨_, rfl, ((h).2.2 v55 hv55).1, ⟨_, rfl, ((h).2.2 v55 hv55).2.1, (fun z57 hz57 => ⟨_, g_nm, (wc_call (wcA_var rfl (wcA_cons (wc_pure (e_var rfl) (wcA_nil ⟨rfl, (k_pickL eI (List.map (fun (z51 : Int) => z51) (List.filter (fun (z51 : Int) => decide (a2 ≤ z51)) ([(-(15 : Int)), (-(6 : Int)), (0 : Int), (0 : Int), (3 : Int), (6 : Int), (8 : Int), (12 : Int), (18 : Int), (21 : Int), (30 : Int), (54 : Int)] : List Int))) (((h).2.2 v55 hv55).2.2.1 z57 hz57)).mono (fun x hx => by obtain ⟨v61, hv61, rfl⟩ := hx; exact ⟨_, ⟨v61, hv61, rfl⟩, rfl⟩)⟩)))))⟩), (fun v63 hv63 => ⟨_, rfl, (((h).2.2 v55 hv55).2.2.2 v63 hv63).1, (ws_set (wc_pure (oldL (lstN (ea := (eL (eL eI))) (l := [([([(12 : Int)] : List Int)] : List (List Int)), ([([(6 : Int), (6 : Int)] : List Int), ([(4 : Int), (8 : Int)] : List Int), ([(9 : Int), (3 : Int)] : List Int)] : List (List Int)), ([([(4 : Int), (4 : Int), (4 : Int)] : List Int), ([(6 : Int), (3 : Int), (3 : Int)] : List Int), ([(2 : Int), (4 : Int), (6 : Int)] : List Int)] : List (List Int))]) (a_cons (oldL (lstN (ea := (eL eI)) (l := [([(12 : Int)] : List Int)]) (a_cons (oldL (lstN (ea := eI) (l := [(12 : Int)]) (a_cons i_lit a_nil) rfl (by simp))) a_nil) rfl (by simp))) (a_cons (oldL (lstN (ea := (eL eI)) (l := [([(6 : Int), (6 : Int)] : List Int), ([(4 : Int), (8 : Int)] : List Int), ([(9 : Int), (3 : Int)] : List Int)]) (a_cons (oldL (lstN (ea := eI) (l := [(6 : Int), (6 : Int)]) (a_cons i_lit (a_cons i_lit a_nil)) rfl (by simp))) (a_cons (oldL (lstN (ea := eI) (l := [(4 : Int), (8 : Int)]) (a_cons i_lit (a_cons i_lit a_nil)) rfl (by simp))) (a_cons (oldL (lstN (ea := eI) (l := [(9 : Int), (3 : Int)]) (a_cons i_lit (a_cons i_lit a_nil)) rfl (by simp))) a_nil))) rfl (by simp))) (a_cons (oldL (lstN (ea := (eL eI)) (l := [([(4 : Int), (4 : Int), (4 : Int)] : List Int), ([(6 : Int), (3 : Int), (3 : Int)] : List Int), ([(2 : Int), (4 : Int), (6 : Int)] : List Int)]) (a_cons (oldL (lstN (ea := eI) (l := [(4 : Int), (4 : Int), (4 : Int)]) (a_cons i_lit (a_cons i_lit (a_cons i_lit a_nil))) rfl (by simp))) (a_cons (oldL (lstN (ea := eI) (l := [(6 : Int), (3 : Int), (3 : Int)]) (a_cons i_lit (a_cons i_lit (a_cons i_lit a_nil))) rfl (by simp))) (a_cons (oldL (lstN (ea := eI) (l := [(2 : Int), (4 : Int), (6 : Int)]) (a_cons i_lit (a_cons i_lit (a_cons i_lit a_nil))) rfl (by simp))) a_nil))) rfl (by simp))) a_nil))) rfl (by simp))) (ws_set (wc_call (wcA_var rfl (wcA_cons (wc_pure (x_L (ea := (eL (eL eI))) (e_var rfl) (i_sub (lenL (ea := eI) (e_var rfl)) i_lit) (((h).2.2 v55 hv55).2.2.2 v63 hv63).2.1) (wcA_nil ⟨rfl, (k_pickL (eL eI) (ix ([([([(12 : Int)] : List Int)] : List (List Int)), ([([(6 : Int), (6 : Int)] : List Int), ([(4 : Int), (8 : Int)] : List Int), ([(9 : Int), (3 : Int)] : List Int)] : List (List Int)), ([([(4 : Int), (4 : Int), (4 : Int)] : List Int), ([(6 : Int), (3 : Int), (3 : Int)] : List Int), ([(2 : Int), (4 : Int), (6 : Int)] : List Int)] : List (List Int))] : List (List (List Int))) ((List.length (upI v63) : Int) - (1 : Int))) (((h).2.2 v55 hv55).2.2.2 v63 hv63).2.2.1).mono (fun x hx => by obtain ⟨v67, hv67, rfl⟩ := hx; exact (ws_ret (wc_pure (tupL (ea := (eP fr fr)) (oldL (l_lcm eI (eP fr fr) (fun (z69 : Int) => ((lowQ (ix (upI v63) z69) (6 : Int)), (lowQ (ix v67 z69) (12 : Int)))) (rg1 (lenL (ea := eI) (e_var rfl)) ((((h).2.2 v55 hv55).2.2.2 v63 hv63).2.2.2 v67 hv67).1) ((((h).2.2 v55 hv55).2.2.2 v63 hv63).2.2.2 v67 hv67).2.1 (fun z69 hz69 => ⟨_, g_nm, (p_mk (e_call (k_llow (ix (upI v63) z69) (6 : Int) (((((h).2.2 v55 hv55).2.2.2 v63 hv63).2.2.2 v67 hv67).2.2 z69 hz69).2.1) (a_cons (x_L (ea := eI) (e_var rfl) (e_var rfl) (((((h).2.2 v55 hv55).2.2.2 v63 hv63).2.2.2 v67 hv67).2.2 z69 hz69).1) (a_cons i_lit a_nil)) rfl) (e_call (k_llow (ix v67 z69) (12 : Int) (((((h).2.2 v55 hv55).2.2.2 v63 hv63).2.2.2 v67 hv67).2.2 z69 hz69).2.2.2) (a_cons (x_L (ea := eI) (e_var rfl) (e_var rfl) (((((h).2.2 v55 hv55).2.2.2 v63 hv63).2.2.2 v67 hv67).2.2 z69 hz69).2.2.1) (a_cons i_lit a_nil)) rfl))⟩)))) ⟨_, ⟨v55, hv55, ⟨v63, hv63, ⟨v67, hv67, rfl⟩⟩⟩, rfl⟩)))⟩))))))))⟩)⟩⟩⟩)⟩))))))))))))))

def S_law_row (a1 : Int) (a2 : Int) (r : (List (List (Rat × Rat)))) : Prop := (∃ v80 : Int, (0 ≤ v80 ∧ v80 < a1) ∧ (∃ v88 : (List (List (Rat × Rat))), Rel2 (fun (z82 : Int) (b84 : (List (Rat × Rat))) => (∃ v86 : (List (Rat × Rat)), S_law_draw (3 : Int) a2 v86 ∧ b84 = v86)) (rng 0 ((1 : Int) + v80)) v88 ∧ r = v88))
def ok_law_row (a1 : Int) (a2 : Int) : Prop := (0 < a1 ∧ a1 < 1000) ∧ (∀ (v80 : Int), (0 ≤ v80 ∧ v80 < a1) → ((-(2 ^ 62) ≤ ((1 : Int) + v80) ∧ ((1 : Int) + v80) < 2 ^ 62) ∧ (List.length (rng 0 ((1 : Int) + v80)) ≤ 100000) ∧ (∀ (z82 : Int), z82 ∈ (rng 0 ((1 : Int) + v80)) → ((ok_law_draw (3 : Int) a2)))))
theorem k_law_row (j : Nat) (a1 : Int) (a2 : Int) (h : ok_law_row a1 a2) : FnW j f__law_row [.loc j, .d (eI a1), .d (eI a2)] (fun x => ∃ r, S_law_row a1 a2 r ∧ x = (eT (eT (eP fr fr))) r) := by
  unfold ok_law_row at h
  unfold f__law_row S_law_row
  exact fn_w (ws_ret (wc_fn1 (wc_old (wcL_lc eI (eT (eP fr fr)) (fun (z82 : Int) (b84 : (List (Rat × Rat))) => (∃ v86 : (List (Rat × Rat)), S_law_draw (3 : Int) a2 v86 ∧ b84 = v86)) (wcL_range1 (wc_bin (wc_pure i_lit (wc_call (wcA_var rfl (wcA_cons (wc_pure (e_var rfl) (wcA_nil ⟨rfl, (k_pour j a1 (h).1).mono (fun x hx => by obtain ⟨v80, hv80, rfl⟩ := hx; exact ⟨_, o_add, ⟨_, rfl, ((h).2 v80 hv80).1, ⟨_, rfl, ((h).2 v80 hv80).2.1, (fun z82 hz82 => ⟨_, g_nm, (wc_call (wcA_var rfl (wcA_cons (wc_pure i_lit (wcA_cons (wc_pure (e_var rfl) (wcA_nil ⟨rfl, (k_law_draw j (3 : Int) a2 (((h).2 v80 hv80).2.2 z82 hz82)).mono (fun x hx => by obtain ⟨v86, hv86, rfl⟩ := hx; exact ⟨_, ⟨v86, hv86, rfl⟩, rfl⟩)⟩)))))))⟩), (fun v88 hv88 => ⟨_, o_tupL (ea := (eT (eP fr fr))), ⟨_, ⟨v80, hv80, ⟨v88, hv88, rfl⟩⟩, rfl⟩⟩)⟩⟩⟩)⟩))))))))))))

def S_law_rest  (r : Rat) : Prop := (∃ v91 : Rat, v91 ∈ ([(0 : Rat), (0 : Rat), (1 : Rat), ((5 : Rat) / 2), (-1 : Rat), ((7 : Rat) / 3), (12 : Rat)] : List Rat) ∧ r = v91)
def ok_law_rest  : Prop := (([(0 : Rat), (0 : Rat), (1 : Rat), ((5 : Rat) / 2), (-1 : Rat), ((7 : Rat) / 3), (12 : Rat)] : List Rat) ≠ [] ∧ List.length ([(0 : Rat), (0 : Rat), (1 : Rat), ((5 : Rat) / 2), (-1 : Rat), ((7 : Rat) / 3), (12 : Rat)] : List Rat) < 1000)
theorem k_law_rest (j : Nat)  (h : ok_law_rest ) : FnW j f__law_rest [.loc j] (fun x => ∃ r, S_law_rest  r ∧ x = fr r) := by
  unfold ok_law_rest at h
  unfold f__law_rest S_law_rest
  exact fn_w (ws_ret (wc_call (wcA_var rfl (wcA_cons (wc_pure (oldL (lstN (ea := fr) (l := [(0 : Rat), (0 : Rat), (1 : Rat), ((5 : Rat) / 2), (-1 : Rat), ((7 : Rat) / 3), (12 : Rat)]) (a_cons (q_lit (q := (0 : Rat)) i_lit i_lit (by decide +kernel)) (a_cons (q_lit (q := (0 : Rat)) i_lit i_lit (by decide +kernel)) (a_cons (q_lit (q := (1 : Rat)) i_lit i_lit (by decide +kernel)) (a_cons (q_lit (q := ((5 : Rat) / 2)) i_lit i_lit (by decide +kernel)) (a_cons (q_lit (q := (-1 : Rat)) (i_neg i_lit) i_lit (by decide +kernel)) (a_cons (q_lit (q := ((7 : Rat) / 3)) i_lit i_lit (by decide +kernel)) (a_cons (q_lit (q := (12 : Rat)) i_lit i_lit (by decide +kernel)) a_nil))))))) rfl (by simp))) (wcA_nil ⟨rfl, (k_pickL fr ([(0 : Rat), (0 : Rat), (1 : Rat), ((5 : Rat) / 2), (-1 : Rat), ((7 : Rat) / 3), (12 : Rat)] : List Rat) (h)).mono (fun x hx => by obtain ⟨v91, hv91, rfl⟩ := hx; exact ⟨_, ⟨v91, hv91, rfl⟩, rfl⟩)⟩))))))

def p_law_right_end (x0 : (List (List (Rat × Rat)))) (x1 : Rat) (x2 : (List ((List Rat) × Rat))) (x3 : Rat) (x4 : (List Rat)) : Bool := (endR (fun (s122 : Unit) => (if ((!decide ((ix (List.map (fun (z116 : Rat) => (bw x0 x1 z116)) x4) (2 : Int)) = (mean' (ix x0 (0 : Int))))) || (!decide ((ix (List.map (fun (z116 : Rat) => (bw x0 x1 z116)) x4) (3 : Int)) = x1))) = true then false else decide ((List.foldl (fun (s157 : Rat) (z156 : Rat) => (if decide (s157 < z156) = true then z156 else s157)) (ix ((List.map (fun (z149 : (Rat × Rat)) => (bw (cut x0 none (some (1 : Int))) x1 z149.1)) (ix (cut x0 none (some (1 : Int))) (0 : Int))) ++ ([(bw (cut x0 none (some (1 : Int))) x1 (100 : Rat))] : List Rat)) (0 : Int)) ((List.map (fun (z149 : (Rat × Rat)) => (bw (cut x0 none (some (1 : Int))) x1 z149.1)) (ix (cut x0 none (some (1 : Int))) (0 : Int))) ++ ([(bw (cut x0 none (some (1 : Int))) x1 (100 : Rat))] : List Rat))) = (ix (wos (cut x0 none (some (1 : Int))) x1) (0 : Int))))) (foldR (fun (s122 : Unit) (z121 : Int) => ((if ((!decide ((ix (List.map (fun (z116 : Rat) => (bw x0 x1 z116)) x4) z121) = (p_law_sum (List.map (fun (z125 : ((List Rat) × Rat)) => (z125.2 * (p_law_first z125.1 (ix x4 z121) x1))) x2)))) || ((!decide ((bw x0 x1 (ix x4 z121)) = (p_law_sum (List.map (fun (z125 : ((List Rat) × Rat)) => (z125.2 * (p_law_first z125.1 (ix x4 z121) x1))) x2)))) || decide (x3 < (p_law_sum (List.map (fun (z125 : ((List Rat) × Rat)) => (z125.2 * (p_law_first z125.1 (ix x4 z121) x1))) x2))))) = true then (Sum.inr false) else (Sum.inl ())) : Unit ⊕ Bool)) (rng 0 (List.length x4 : Int)) ()))
def ok_law_right_end (x0 : (List (List (Rat × Rat)))) (x1 : Rat) (x2 : (List ((List Rat) × Rat))) (x3 : Rat) (x4 : (List Rat)) : Prop := (List.length x4 ≤ 100000) ∧ (∀ (z116 : Rat), z116 ∈ x4 → ((OkBW x0 x1 z116))) ∧ (-(2 ^ 62) ≤ (List.length x4 : Int) ∧ (List.length x4 : Int) < 2 ^ 62) ∧ (∀ (dn123 : List Int) (z121 : Int) (rs124 : List Int), (rng 0 (List.length x4 : Int)) = dn123 ++ z121 :: rs124 → ∀ (s122 : Unit), foldR (fun (s122 : Unit) (z121 : Int) => ((if ((!decide ((ix (List.map (fun (z116 : Rat) => (bw x0 x1 z116)) x4) z121) = (p_law_sum (List.map (fun (z125 : ((List Rat) × Rat)) => (z125.2 * (p_law_first z125.1 (ix x4 z121) x1))) x2)))) || ((!decide ((bw x0 x1 (ix x4 z121)) = (p_law_sum (List.map (fun (z125 : ((List Rat) × Rat)) => (z125.2 * (p_law_first z125.1 (ix x4 z121) x1))) x2)))) || decide (x3 < (p_law_sum (List.map (fun (z125 : ((List Rat) × Rat)) => (z125.2 * (p_law_first z125.1 (ix x4 z121) x1))) x2))))) = true then (Sum.inr false) else (Sum.inl ())) : Unit ⊕ Bool)) dn123 () = .inl s122 → ((List.length x2 ≤ 100000) ∧ (∀ (z125 : ((List Rat) × Rat)), z125 ∈ x2 → ((IxOk (List.length x4) z121) ∧ (ok_law_first z125.1 (ix x4 z121) x1) ∧ (Sm2 z125.2 (p_law_first z125.1 (ix x4 z121) x1)))) ∧ (ok_law_sum (List.map (fun (z125 : ((List Rat) × Rat)) => (z125.2 * (p_law_first z125.1 (ix x4 z121) x1))) x2)) ∧ (IxOk (List.length (List.map (fun (z116 : Rat) => (bw x0 x1 z116)) x4)) z121) ∧ ((!decide ((ix (List.map (fun (z116 : Rat) => (bw x0 x1 z116)) x4) z121) = (p_law_sum (List.map (fun (z125 : ((List Rat) × Rat)) => (z125.2 * (p_law_first z125.1 (ix x4 z121) x1))) x2)))) = false → ((IxOk (List.length x4) z121) ∧ (OkBW x0 x1 (ix x4 z121)) ∧ ((!decide ((bw x0 x1 (ix x4 z121)) = (p_law_sum (List.map (fun (z125 : ((List Rat) × Rat)) => (z125.2 * (p_law_first z125.1 (ix x4 z121) x1))) x2)))) = false → ((Sm2 x3 (p_law_sum (List.map (fun (z125 : ((List Rat) × Rat)) => (z125.2 * (p_law_first z125.1 (ix x4 z121) x1))) x2))))))))) ∧ (∀ (s122 : Unit), foldR (fun (s122 : Unit) (z121 : Int) => ((if ((!decide ((ix (List.map (fun (z116 : Rat) => (bw x0 x1 z116)) x4) z121) = (p_law_sum (List.map (fun (z125 : ((List Rat) × Rat)) => (z125.2 * (p_law_first z125.1 (ix x4 z121) x1))) x2)))) || ((!decide ((bw x0 x1 (ix x4 z121)) = (p_law_sum (List.map (fun (z125 : ((List Rat) × Rat)) => (z125.2 * (p_law_first z125.1 (ix x4 z121) x1))) x2)))) || decide (x3 < (p_law_sum (List.map (fun (z125 : ((List Rat) × Rat)) => (z125.2 * (p_law_first z125.1 (ix x4 z121) x1))) x2))))) = true then (Sum.inr false) else (Sum.inl ())) : Unit ⊕ Bool)) (rng 0 (List.length x4 : Int)) () = .inl s122 → ((IxOk (List.length (List.map (fun (z116 : Rat) => (bw x0 x1 z116)) x4)) (2 : Int)) ∧ (IxOk (List.length x0) (0 : Int)) ∧ (OkMean (ix x0 (0 : Int))) ∧ ((!decide ((ix (List.map (fun (z116 : Rat) => (bw x0 x1 z116)) x4) (2 : Int)) = (mean' (ix x0 (0 : Int))))) = false → ((IxOk (List.length (List.map (fun (z116 : Rat) => (bw x0 x1 z116)) x4)) (3 : Int)))) ∧ (((!decide ((ix (List.map (fun (z116 : Rat) => (bw x0 x1 z116)) x4) (2 : Int)) = (mean' (ix x0 (0 : Int))))) || (!decide ((ix (List.map (fun (z116 : Rat) => (bw x0 x1 z116)) x4) (3 : Int)) = x1))) = false → ((IxOk (List.length (cut x0 none (some (1 : Int)))) (0 : Int)) ∧ (List.length (ix (cut x0 none (some (1 : Int))) (0 : Int)) ≤ 100000) ∧ (∀ (z149 : (Rat × Rat)), z149 ∈ (ix (cut x0 none (some (1 : Int))) (0 : Int)) → ((OkBW (cut x0 none (some (1 : Int))) x1 z149.1))) ∧ (OkBW (cut x0 none (some (1 : Int))) x1 (100 : Rat)) ∧ (List.length (List.map (fun (z149 : (Rat × Rat)) => (bw (cut x0 none (some (1 : Int))) x1 z149.1)) (ix (cut x0 none (some (1 : Int))) (0 : Int))) + List.length ([(bw (cut x0 none (some (1 : Int))) x1 (100 : Rat))] : List Rat) ≤ 10000) ∧ (IxOk (List.length ((List.map (fun (z149 : (Rat × Rat)) => (bw (cut x0 none (some (1 : Int))) x1 z149.1)) (ix (cut x0 none (some (1 : Int))) (0 : Int))) ++ ([(bw (cut x0 none (some (1 : Int))) x1 (100 : Rat))] : List Rat))) (0 : Int)) ∧ (∀ (dn158 : List Rat) (z156 : Rat) (rs159 : List Rat), ((List.map (fun (z149 : (Rat × Rat)) => (bw (cut x0 none (some (1 : Int))) x1 z149.1)) (ix (cut x0 none (some (1 : Int))) (0 : Int))) ++ ([(bw (cut x0 none (some (1 : Int))) x1 (100 : Rat))] : List Rat)) = dn158 ++ z156 :: rs159 → ∀ (s157 : Rat), s157 = List.foldl (fun (s157 : Rat) (z156 : Rat) => (if decide (s157 < z156) = true then z156 else s157)) (ix ((List.map (fun (z149 : (Rat × Rat)) => (bw (cut x0 none (some (1 : Int))) x1 z149.1)) (ix (cut x0 none (some (1 : Int))) (0 : Int))) ++ ([(bw (cut x0 none (some (1 : Int))) x1 (100 : Rat))] : List Rat)) (0 : Int)) dn158 → ((Sm2 s157 z156))) ∧ (OkWF (cut x0 none (some (1 : Int))) x1) ∧ (IxOk (List.length (wos (cut x0 none (some (1 : Int))) x1)) (0 : Int))))))
theorem k_law_right_end (j : Nat) (x0 : (List (List (Rat × Rat)))) (x1 : Rat) (x2 : (List ((List Rat) × Rat))) (x3 : Rat) (x4 : (List Rat)) (h : ok_law_right_end x0 x1 x2 x3 x4) : EvS (sSeq (sSet 6 (mOld (mLc (mItems (mVar 5)) (gNm 14) tTrue (mCall 3 f_bar_worth (mArgs [(mVar 1), (mVar 2), (mVar 14)])) [14]))) (sSeq (sFor (mRange1 (mArgs [(mFn bLen (mArgs [(mVar 5)]))])) (gNm 7) (sSeq (sSet 8 (mCall 1 f__law_sum (mArgs [(mOld (mLc (mItems (mVar 3)) (gTp (gsCons (gNm 15) (gsCons (gNm 16) gsNil))) tTrue (mCall 2 f__law_times (mArgs [(mVar 16), (mCall 3 f__law_first (mArgs [(mVar 15), (mBin gIx (mVar 5) (mVar 7)), (mVar 2)]))])) [15, 16]))]))) (sSeq (sIf (tOr' (tB1 (mBin gNe (mBin gIx (mVar 6) (mVar 7)) (mVar 8))) (tOr' (tB1 (mBin gNe (mCallK 3 0 3 [2, 1, 0] f_bar_worth (mArgs []) (mArgs [(mBin gIx (mVar 5) (mVar 7)), (mVar 2), (mVar 1)])) (mVar 8))) (tB1 (mCall 2 f__law_below (mArgs [(mVar 4), (mVar 8)]))))) (sSeq (sRet (mD true (.bool false))) sNext) sNext) sNext))) (sSeq (sIf (tOr' (tB1 (mBin gNe (mBin gIx (mVar 6) (mD true (.int 2))) (mCall 1 f_mean (mArgs [(mBin gIx (mVar 1) (mD true (.int 0)))])))) (tB1 (mBin gNe (mBin gIx (mVar 6) (mD true (.int 3))) (mVar 2)))) (sSeq (sRet (mD true (.bool false))) sNext) sNext) (sSeq (sSet 9 (mSl (mVar 1) (mPart none) (mPart (some (mD true (.int 1)))))) (sSeq (sSet 10 (mBin gAdd (mOld (mLc (mItems (mBin gIx (mVar 9) (mD true (.int 0)))) (gTp (gsCons (gNm 17) (gsCons (gNm 18) gsNil))) tTrue (mCall 3 f_bar_worth (mArgs [(mVar 9), (mVar 2), (mVar 17)])) [17, 18])) (mOld (mLst (mArgs [(mCall 3 f_bar_worth (mArgs [(mVar 9), (mVar 2), (mTup (mArgs [(mD true (.int 100)), (mD true (.int 1))]))]))]))))) (sSeq (sSet 11 (mBin gIx (mVar 10) (mD true (.int 0)))) (sSeq (sFor (mItems (mVar 10)) (gNm 12) (sSeq (sSet 11 (mIf (tB1 (mCall 2 f__law_below (mArgs [(mVar 11), (mVar 12)]))) (mVar 12) (mVar 11))) sNext)) (sSeq (sRet (mBin gEq (mVar 11) (mBin gIx (mCall 2 f_worths_from (mArgs [(mVar 9), (mVar 2)])) (mD true (.int 0))))) sNext)))))))) ([some (.loc j), some (.d ((eT (eT (eP fr fr))) x0)), some (.d (fr x1)), some (.d ((eL (eP (eL fr) fr)) x2)), some (.d (fr x3)), some (.d ((eL fr) x4)), none, none, none, none, none, none, none, none, none, none, none, none, none] : AE) (.rt (eB (p_law_right_end x0 x1 x2 x3 x4))) := by
  unfold ok_law_right_end at h
  unfold p_law_right_end
  exact (s_set (oldL (l_lcm fr fr (fun (z116 : Rat) => (bw x0 x1 z116)) (itL (ea := fr) (e_var rfl)) (h).1 (fun z116 hz116 => ⟨_, g_nm, (e_call (k_bar_worth x0 x1 z116 ((h).2.1 z116 hz116)) (a_cons (e_var rfl) (a_cons (e_var rfl) (a_cons (e_var rfl) a_nil))) rfl)⟩))) (s_forR eI eB (rng 0 (List.length x4 : Int)) (fun (s122 : Unit) => ([none, some (.d ((eT (eT (eP fr fr))) x0)), some (.d (fr x1)), some (.d ((eL (eP (eL fr) fr)) x2)), some (.d (fr x3)), some (.d ((eL fr) x4)), some (.d ((eL fr) (List.map (fun (z116 : Rat) => (bw x0 x1 z116)) x4))), none, none, none, none, none, none, none, none, none, none, none, none] : AE)) (fun (s122 : Unit) (z121 : Int) => ((if ((!decide ((ix (List.map (fun (z116 : Rat) => (bw x0 x1 z116)) x4) z121) = (p_law_sum (List.map (fun (z125 : ((List Rat) × Rat)) => (z125.2 * (p_law_first z125.1 (ix x4 z121) x1))) x2)))) || ((!decide ((bw x0 x1 (ix x4 z121)) = (p_law_sum (List.map (fun (z125 : ((List Rat) × Rat)) => (z125.2 * (p_law_first z125.1 (ix x4 z121) x1))) x2)))) || decide (x3 < (p_law_sum (List.map (fun (z125 : ((List Rat) × Rat)) => (z125.2 * (p_law_first z125.1 (ix x4 z121) x1))) x2))))) = true then (Sum.inr false) else (Sum.inl ())) : Unit ⊕ Bool)) () (fun (s122 : Unit) => (if ((!decide ((ix (List.map (fun (z116 : Rat) => (bw x0 x1 z116)) x4) (2 : Int)) = (mean' (ix x0 (0 : Int))))) || (!decide ((ix (List.map (fun (z116 : Rat) => (bw x0 x1 z116)) x4) (3 : Int)) = x1))) = true then false else decide ((List.foldl (fun (s157 : Rat) (z156 : Rat) => (if decide (s157 < z156) = true then z156 else s157)) (ix ((List.map (fun (z149 : (Rat × Rat)) => (bw (cut x0 none (some (1 : Int))) x1 z149.1)) (ix (cut x0 none (some (1 : Int))) (0 : Int))) ++ ([(bw (cut x0 none (some (1 : Int))) x1 (100 : Rat))] : List Rat)) (0 : Int)) ((List.map (fun (z149 : (Rat × Rat)) => (bw (cut x0 none (some (1 : Int))) x1 z149.1)) (ix (cut x0 none (some (1 : Int))) (0 : Int))) ++ ([(bw (cut x0 none (some (1 : Int))) x1 (100 : Rat))] : List Rat))) = (ix (wos (cut x0 none (some (1 : Int))) x1) (0 : Int))))) (rg1 (lenL (ea := fr) (e_var rfl)) (h).2.2.1) (.n (.k (.k (.k (.k (.k (.k (.n (.n (.n (.n (.n (.n (.n (.n (.n (.n (.n (.n .nil))))))))))))))))))) (fun dn123 z121 rs124 hdn123 s122 hs122 => ⟨_, g_nm, (s_set (e_call (k_law_sum (List.map (fun (z125 : ((List Rat) × Rat)) => (z125.2 * (p_law_first z125.1 (ix x4 z121) x1))) x2) ((h).2.2.2.1 dn123 z121 rs124 hdn123 s122 hs122).2.2.1) (a_cons (oldL (l_lcm (eP (eL fr) fr) fr (fun (z125 : ((List Rat) × Rat)) => (z125.2 * (p_law_first z125.1 (ix x4 z121) x1))) (itL (ea := (eP (eL fr) fr)) (e_var rfl)) ((h).2.2.2.1 dn123 z121 rs124 hdn123 s122 hs122).1 (fun z125 hz125 => ⟨_, (g_pp g_nm g_nm), (e_call (k_ltimes z125.2 (p_law_first z125.1 (ix x4 z121) x1) (((h).2.2.2.1 dn123 z121 rs124 hdn123 s122 hs122).2.1 z125 hz125).2.2) (a_cons (e_var rfl) (a_cons (e_call (k_law_first z125.1 (ix x4 z121) x1 (((h).2.2.2.1 dn123 z121 rs124 hdn123 s122 hs122).2.1 z125 hz125).2.1) (a_cons (e_var rfl) (a_cons (x_L (ea := fr) (e_var rfl) (e_var rfl) (((h).2.2.2.1 dn123 z121 rs124 hdn123 s122 hs122).2.1 z125 hz125).1) (a_cons (e_var rfl) a_nil))) rfl) a_nil)) rfl)⟩))) a_nil) rfl) (s_if (ocR (fun (s122 : Unit) => ([none, some (.d ((eT (eT (eP fr fr))) x0)), some (.d (fr x1)), some (.d ((eL (eP (eL fr) fr)) x2)), some (.d (fr x3)), some (.d ((eL fr) x4)), some (.d ((eL fr) (List.map (fun (z116 : Rat) => (bw x0 x1 z116)) x4))), none, none, none, none, none, none, none, none, none, none, none, none] : AE)) eB) (t_or (t_b (y_ne eq_fr (x_L (ea := fr) (e_var rfl) (e_var rfl) ((h).2.2.2.1 dn123 z121 rs124 hdn123 s122 hs122).2.2.2.1) (e_var rfl))) (fun hk138 => (t_or (t_b (y_ne eq_fr (e_callK (k_bar_worth x0 x1 (ix x4 z121) (((h).2.2.2.1 dn123 z121 rs124 hdn123 s122 hs122).2.2.2.2 hk138).2.1) a_nil (a_cons (x_L (ea := fr) (e_var rfl) (e_var rfl) (((h).2.2.2.1 dn123 z121 rs124 hdn123 s122 hs122).2.2.2.2 hk138).1) (a_cons (e_var rfl) (a_cons (e_var rfl) a_nil))) rfl rfl rfl rfl) (e_var rfl))) (fun hk136 => (t_b (e_call (k_lbelow x3 (p_law_sum (List.map (fun (z125 : ((List Rat) × Rat)) => (z125.2 * (p_law_first z125.1 (ix x4 z121) x1))) x2)) ((((h).2.2.2.1 dn123 z121 rs124 hdn123 s122 hs122).2.2.2.2 hk138).2.2 hk136)) (a_cons (e_var rfl) (a_cons (e_var rfl) a_nil)) rfl)))))) (fun hk140 => (s_assoc (s_ret b_lit))) (fun hk140 => (s_skip (s_next (.n (.k (.k (.k (.k (.k (.k (.n (.n (.n (.n (.n (.n (.n (.n (.n (.n (.n (.n .nil))))))))))))))))))))))))⟩) (fun s122 hs122 => (s_if (fun v => Oc.rt (eB v)) (t_or (t_b (y_ne eq_fr (x_L (ea := fr) (e_var rfl) i_lit ((h).2.2.2.2 s122 hs122).1) (e_call (k_mean (ix x0 (0 : Int)) ((h).2.2.2.2 s122 hs122).2.2.1) (a_cons (x_T (ea := (eT (eP fr fr))) (e_var rfl) i_lit ((h).2.2.2.2 s122 hs122).2.1) a_nil) rfl))) (fun hk146 => (t_b (y_ne eq_fr (x_L (ea := fr) (e_var rfl) i_lit (((h).2.2.2.2 s122 hs122).2.2.2.1 hk146)) (e_var rfl))))) (fun hk165 => (s_assoc (s_ret b_lit))) (fun hk165 => (s_skip (s_set (slT (ea := (eT (eP fr fr))) (e_var rfl) prt0 (prt1 i_lit)) (s_set (catL (ea := fr) (oldL (l_lcm (eP fr fr) fr (fun (z149 : (Rat × Rat)) => (bw (cut x0 none (some (1 : Int))) x1 z149.1)) (itT (ea := (eP fr fr)) (x_T (ea := (eT (eP fr fr))) (e_var rfl) i_lit (((h).2.2.2.2 s122 hs122).2.2.2.2 hk165).1)) (((h).2.2.2.2 s122 hs122).2.2.2.2 hk165).2.1 (fun z149 hz149 => ⟨_, (g_pp g_nm g_nm), (e_call (k_bar_worth (cut x0 none (some (1 : Int))) x1 z149.1 ((((h).2.2.2.2 s122 hs122).2.2.2.2 hk165).2.2.1 z149 hz149)) (a_cons (e_var rfl) (a_cons (e_var rfl) (a_cons (e_var rfl) a_nil))) rfl)⟩))) (oldL (lstN (ea := fr) (l := [(bw (cut x0 none (some (1 : Int))) x1 (100 : Rat))]) (a_cons (e_call (k_bar_worth (cut x0 none (some (1 : Int))) x1 (100 : Rat) (((h).2.2.2.2 s122 hs122).2.2.2.2 hk165).2.2.2.1) (a_cons (e_var rfl) (a_cons (e_var rfl) (a_cons (q_lit (q := (100 : Rat)) i_lit i_lit (by decide +kernel)) a_nil))) rfl) a_nil) rfl (by simp))) (((h).2.2.2.2 s122 hs122).2.2.2.2 hk165).2.2.2.2.1) (s_set (x_L (ea := fr) (e_var rfl) i_lit (((h).2.2.2.2 s122 hs122).2.2.2.2 hk165).2.2.2.2.2.1) (s_for fr ((List.map (fun (z149 : (Rat × Rat)) => (bw (cut x0 none (some (1 : Int))) x1 z149.1)) (ix (cut x0 none (some (1 : Int))) (0 : Int))) ++ ([(bw (cut x0 none (some (1 : Int))) x1 (100 : Rat))] : List Rat)) (fun (s157 : Rat) => ([none, some (.d ((eT (eT (eP fr fr))) x0)), some (.d (fr x1)), some (.d ((eL (eP (eL fr) fr)) x2)), some (.d (fr x3)), some (.d ((eL fr) x4)), some (.d ((eL fr) (List.map (fun (z116 : Rat) => (bw x0 x1 z116)) x4))), none, none, some (.d ((eT (eT (eP fr fr))) (cut x0 none (some (1 : Int))))), some (.d ((eL fr) ((List.map (fun (z149 : (Rat × Rat)) => (bw (cut x0 none (some (1 : Int))) x1 z149.1)) (ix (cut x0 none (some (1 : Int))) (0 : Int))) ++ ([(bw (cut x0 none (some (1 : Int))) x1 (100 : Rat))] : List Rat)))), some (.d (fr s157)), none, none, none, none, none, none, none] : AE)) (fun (s157 : Rat) (z156 : Rat) => (if decide (s157 < z156) = true then z156 else s157)) (ix ((List.map (fun (z149 : (Rat × Rat)) => (bw (cut x0 none (some (1 : Int))) x1 z149.1)) (ix (cut x0 none (some (1 : Int))) (0 : Int))) ++ ([(bw (cut x0 none (some (1 : Int))) x1 (100 : Rat))] : List Rat)) (0 : Int)) (itL (ea := fr) (e_var rfl)) (.n (.k (.k (.k (.k (.k (.k (.n (.n (.k (.k (.k (.n (.n (.n (.n (.n (.n (.n .nil))))))))))))))))))) (fun dn158 z156 rs159 hdn158 s157 hs157 => ⟨_, g_nm, (s_set (e_if fr (t_b (e_call (k_lbelow s157 z156 ((((h).2.2.2.2 s122 hs122).2.2.2.2 hk165).2.2.2.2.2.2.1 dn158 z156 rs159 hdn158 s157 hs157)) (a_cons (e_var rfl) (a_cons (e_var rfl) a_nil)) rfl)) (fun hk161 => (e_var rfl)) (fun hk161 => (e_var rfl))) (s_next (.n (.k (.k (.k (.k (.k (.k (.n (.n (.k (.k (.k (.n (.n (.n (.n (.n (.n (.n .nil)))))))))))))))))))))⟩) (s_ret (y_eq eq_fr (e_var rfl) (x_T (ea := fr) (e_call (k_worths_from (cut x0 none (some (1 : Int))) x1 (((h).2.2.2.2 s122 hs122).2.2.2.2 hk165).2.2.2.2.2.2.2.1) (a_cons (e_var rfl) (a_cons (e_var rfl) a_nil)) rfl) i_lit (((h).2.2.2.2 s122 hs122).2.2.2.2 hk165).2.2.2.2.2.2.2.2)))))))))))))

def S_law_right  (r : Bool) : Prop := (∃ v93 : (List (List (Rat × Rat))), S_law_row (4 : Int) (-(99 : Int)) v93 ∧ (∃ v95 : Rat, S_law_rest  v95 ∧ (∃ v109 : (List Rat), Rel2 (fun (z100 : Int) (b102 : Rat) => (∃ v104 : (List (Rat × Rat)), v104 ∈ v93 ∧ (∃ v106 : (Rat × Rat), v106 ∈ v104 ∧ b102 = v106.1))) (rng 0 (2 : Int)) v109 ∧ (∃ v111 : Rat, S_law_rest  v111 ∧ (∃ v113 : Int, (0 ≤ v113 ∧ v113 < (50 : Int)) ∧ r = (p_law_right_end v93 v95 (p_law_outcomes v93) (ix (wos v93 v95) (0 : Int)) (v109 ++ [(-100 : Rat), (100 : Rat), v111, (lowQ v113 (7 : Int))])))))))
def ok_law_right  : Prop := (ok_law_row (4 : Int) (-(99 : Int))) ∧ (∀ (v93 : (List (List (Rat × Rat)))), S_law_row (4 : Int) (-(99 : Int)) v93 → ((ok_law_rest ) ∧ (∀ (v95 : Rat), S_law_rest  v95 → ((ok_law_outcomes v93) ∧ (OkWF v93 v95) ∧ (IxOk (List.length (wos v93 v95)) (0 : Int)) ∧ (-(2 ^ 62) ≤ (2 : Int) ∧ (2 : Int) < 2 ^ 62) ∧ (List.length (rng 0 (2 : Int)) ≤ 100000) ∧ (∀ (z100 : Int), z100 ∈ (rng 0 (2 : Int)) → ((v93 ≠ [] ∧ List.length v93 < 1000) ∧ (∀ (v104 : (List (Rat × Rat))), v104 ∈ v93 → ((v104 ≠ [] ∧ List.length v104 < 1000))))) ∧ (∀ (v109 : (List Rat)), Rel2 (fun (z100 : Int) (b102 : Rat) => (∃ v104 : (List (Rat × Rat)), v104 ∈ v93 ∧ (∃ v106 : (Rat × Rat), v106 ∈ v104 ∧ b102 = v106.1))) (rng 0 (2 : Int)) v109 → ((ok_law_rest ) ∧ (∀ (v111 : Rat), S_law_rest  v111 → ((0 < (50 : Int) ∧ (50 : Int) < 1000) ∧ (∀ (v113 : Int), (0 ≤ v113 ∧ v113 < (50 : Int)) → ((LowOk (7 : Int)) ∧ (List.length v109 + List.length [(-100 : Rat), (100 : Rat), v111, (lowQ v113 (7 : Int))] ≤ 10000) ∧ (ok_law_right_end v93 v95 (p_law_outcomes v93) (ix (wos v93 v95) (0 : Int)) (v109 ++ [(-100 : Rat), (100 : Rat), v111, (lowQ v113 (7 : Int))]))))))))))))
theorem k_law_right (j : Nat)  (h : ok_law_right ) : FnW j f__law_right [.loc j] (fun x => ∃ r, S_law_right  r ∧ x = eB r) := by
  unfold ok_law_right at h
  unfold f__law_right S_law_right
  exact fn_w (ws_par (wc_call (wcA_var rfl (wcA_cons (wc_pure i_lit (wcA_cons (wc_pure (i_neg i_lit) (wcA_nil ⟨rfl, (k_law_row j (4 : Int) (-(99 : Int)) (h).1).mono (fun x hx => by obtain ⟨v93, hv93, rfl⟩ := hx; exact (wc_call (wcA_var rfl (wcA_nil ⟨rfl, (k_law_rest j  ((h).2 v93 hv93).1).mono (fun x hx => by obtain ⟨v95, hv95, rfl⟩ := hx; exact (ws_par (wc_pure (e_call (k_law_outcomes v93 (((h).2 v93 hv93).2 v95 hv95).1) (a_cons (e_var rfl) a_nil) rfl) (wc_pure (x_T (ea := fr) (e_call (k_worths_from v93 v95 (((h).2 v93 hv93).2 v95 hv95).2.1) (a_cons (e_var rfl) (a_cons (e_var rfl) a_nil)) rfl) i_lit (((h).2 v93 hv93).2 v95 hv95).2.2.1) (ws_set (wc_old (wcL_lc eI fr (fun (z100 : Int) (b102 : Rat) => (∃ v104 : (List (Rat × Rat)), v104 ∈ v93 ∧ (∃ v106 : (Rat × Rat), v106 ∈ v104 ∧ b102 = v106.1))) (wcL_range1 (wc_pure i_lit ⟨_, rfl, (((h).2 v93 hv93).2 v95 hv95).2.2.2.1, ⟨_, rfl, (((h).2 v93 hv93).2 v95 hv95).2.2.2.2.1, (fun z100 hz100 => ⟨_, g_nm, (wc_bin (wc_call (wcA_var rfl (wcA_cons (wc_call (wcA_var rfl (wcA_cons (wc_pure (e_var rfl) (wcA_nil ⟨rfl, (k_pickT (eT (eP fr fr)) v93 ((((h).2 v93 hv93).2 v95 hv95).2.2.2.2.2.1 z100 hz100).1).mono (fun x hx => by obtain ⟨v104, hv104, rfl⟩ := hx; exact (wcA_nil ⟨rfl, (k_pickT (eP fr fr) v104 (((((h).2 v93 hv93).2 v95 hv95).2.2.2.2.2.1 z100 hz100).2 v104 hv104)).mono (fun x hx => by obtain ⟨v106, hv106, rfl⟩ := hx; exact (wc_pure e_D ⟨_, o_p0, ⟨_, ⟨v104, hv104, ⟨v106, hv106, rfl⟩⟩, rfl⟩⟩))⟩))⟩)))))))))⟩), (fun v109 hv109 => (ws_set (wc_bin (wc_pure (e_var rfl) (wc_old (wcL_lst (wcA_cons (wc_pure (q_lit (q := (-100 : Rat)) (i_neg i_lit) i_lit (by decide +kernel)) (wcA_cons (wc_pure (q_lit (q := (100 : Rat)) i_lit i_lit (by decide +kernel)) (wcA_cons (wc_call (wcA_var rfl (wcA_nil ⟨rfl, (k_law_rest j  ((((h).2 v93 hv93).2 v95 hv95).2.2.2.2.2.2 v109 hv109).1).mono (fun x hx => by obtain ⟨v111, hv111, rfl⟩ := hx; exact (wcA_cons (wc_call (wcA_cons (wc_call (wcA_var rfl (wcA_cons (wc_pure i_lit (wcA_nil ⟨rfl, (k_pour j (50 : Int) (((((h).2 v93 hv93).2 v95 hv95).2.2.2.2.2.2 v109 hv109).2 v111 hv111).1).mono (fun x hx => by obtain ⟨v113, hv113, rfl⟩ := hx; exact (wcA_cons (wc_pure i_lit (wcA_nil ⟨rfl, fnw_pure (k_llow v113 (7 : Int) ((((((h).2 v93 hv93).2 v95 hv95).2.2.2.2.2.2 v109 hv109).2 v111 hv111).2 v113 hv113).1) (wcA_nil ⟨[fr (-100 : Rat), fr (100 : Rat), fr v111, fr (lowQ v113 (7 : Int))], rfl, (by simp), ⟨_, o_catL (ea := fr) ((((((h).2 v93 hv93).2 v95 hv95).2.2.2.2.2.2 v109 hv109).2 v111 hv111).2 v113 hv113).2.1, (ws_pure (k_law_right_end j v93 v95 (p_law_outcomes v93) (ix (wos v93 v95) (0 : Int)) (v109 ++ [(-100 : Rat), (100 : Rat), v111, (lowQ v113 (7 : Int))]) ((((((h).2 v93 hv93).2 v95 hv95).2.2.2.2.2.2 v109 hv109).2 v111 hv111).2 v113 hv113).2.2) ⟨_, ⟨v93, hv93, ⟨v95, hv95, ⟨v109, hv109, ⟨v111, hv111, ⟨v113, hv113, rfl⟩⟩⟩⟩⟩, rfl⟩)⟩⟩)⟩))))⟩)))))))))⟩))))))))))))))⟩⟩)))))))))⟩))))⟩))))))))

theorem flask_fk {ns : List Int} {k : Nat} (hk : k < 1000) (M : MS) : ∃ M', f__law_flask [.s (ns.map PyData.int), .d true (.int k)] M = some (.loc M.length, M') ∧ Fk M.length M' := by
  obtain ⟨a, c, h⟩ := c_flask (ns := ns) hk M
  exact ⟨_, h, a, 0, c, by simp⟩
theorem asB_true : ∀ l : List PD, (∀ y, y ∈ l → y = PyData.bool true) → ∃ bs, asBools l = some bs ∧ bs.all id = true
  | [], _ => ⟨[], rfl, rfl⟩
  | y :: l, h => by
    obtain ⟨bs, h1, h2⟩ := asB_true l fun y hy => h y (List.mem_cons_of_mem _ hy)
    have := h y List.mem_cons_self
    subst this
    exact ⟨true :: bs, by simp [asBools, h1], by simpa using h2⟩
theorem law_true (hr : ∀ j M, Fk j M → ∃ t M', f__law_right [.loc j] M = some (.d t (.bool true), M')) : ∀ ns : List Int, ns.length ≤ 63 → ∃ t M', f_law [.s (ns.map PyData.int)] [] = some (.d t (.bool true), M') := by
  intro ns hns
  obtain ⟨m, hm, hm2⟩ : ∃ m : Nat, m ≤ 63 ∧ max (2 : Int) (min ((ns.length : Nat) : Int) 3) = (m : Int) := ⟨(max (2 : Int) (min ((ns.length : Nat) : Int) 3)).toNat, by omega, by omega⟩
  have e1 : bMin [.d true (.int ((ns.length : Nat) : Int)), .d true (.int 3)] ([] : MS) = some (.d true (.int (min ((ns.length : Nat) : Int) 3)), []) := by
    show some (W.d true (PyData.int (if (3 : Int) < ((ns.length : Nat) : Int) then 3 else ((ns.length : Nat) : Int))), ([] : MS)) = _
    have : (if (3 : Int) < ((ns.length : Nat) : Int) then 3 else ((ns.length : Nat) : Int)) = min ((ns.length : Nat) : Int) 3 := by split <;> omega
    rw [this]
  have e2 : bMax [.d true (.int 2), .d true (.int (min ((ns.length : Nat) : Int) 3))] ([] : MS) = some (.d true (.int (m : Int)), []) := by
    show some (W.d true (PyData.int (if (min ((ns.length : Nat) : Int) 3) > (2 : Int) then (min ((ns.length : Nat) : Int) 3) else 2)), ([] : MS)) = _
    have : (if (min ((ns.length : Nat) : Int) 3) > (2 : Int) then (min ((ns.length : Nat) : Int) 3) else 2) = (m : Int) := by rw [← hm2]; split <;> omega
    rw [this]
  have hl := lc_inv (t := true) (g := gNm 1) (te := (mCall 1 f__law_right (mArgs [(mCall 2 f__law_flask (mArgs [(mVar 0), (mVar 1)]))]))) (Δ := [some (.s (ns.map PyData.int)), none]) (fun _ => True) (fun y => y = PyData.bool true)
  have hx : ∀ x, x ∈ (List.range m).map nE → ∀ M : MS, True → ∃ Δ1, gNm 1 true x [some (.s (ns.map PyData.int)), none] = some Δ1 ∧ ∃ t y M2, (mCall 1 f__law_right (mArgs [(mCall 2 f__law_flask (mArgs [(mVar 0), (mVar 1)]))])) Δ1 M = some (.d t y, M2) ∧ y = PyData.bool true := by
    intro x hx M _
    obtain ⟨k, hk, rfl⟩ := List.mem_map.mp hx
    have hk2 : k < m := List.mem_range.mp hk
    refine ⟨_, tg_nm, ?_⟩
    obtain ⟨M1, h1, F1⟩ := flask_fk (ns := ns) (k := k) (by omega) M
    obtain ⟨t, M2, h2⟩ := hr _ M1 F1
    refine ⟨t, _, M2, ?_, rfl⟩
    simp only [ev_var, ev_D, ev_bin, ev_un, ev_args0, ev_args, ev_fn, ev_call, ev_callK, ev_if, ev_B1, asB_d, ev_and, ev_or, ev_not, ev_mand, ev_mor, ev_true, ev_chain, ev_tup, ev_lst, ev_old, ev_new, ev_items, ev_lc, ev_seq, seq_nx, seq_rt, seq_bk, seq_ct, ev_next, ev_break, ev_ret, fz_d, ev_retW, ev_drop, ev_sif, ev_set, ev_par, par_2, ev_for, ev_sem, ob_some, ob_none, oif_true, oif_false, mkT2, mkT3, mkL0, mkL1, mkL2, gSub_i, gAdd_i, gLt_i, gLe_i, gGt_i, gGe_i, gEq_i, gNe_i, frIx0, frIx1, List.length_cons, List.length_nil, List.map_cons, List.map_nil, List.cons_append, List.nil_append, List.append_nil, List.replicate, List.getElem?_cons_zero, List.getElem?_cons_succ, List.set_cons_zero, List.set_cons_succ, if_true, if_false, Nat.reduceAdd, Nat.reduceSub, Bool.and_true, Bool.true_and, Bool.not_true, Bool.not_false, nf_nE]
    unfold nE
    simp only [ev_var, ev_D, ev_bin, ev_un, ev_args0, ev_args, ev_fn, ev_call, ev_callK, ev_if, ev_B1, asB_d, ev_and, ev_or, ev_not, ev_mand, ev_mor, ev_true, ev_chain, ev_tup, ev_lst, ev_old, ev_new, ev_items, ev_lc, ev_seq, seq_nx, seq_rt, seq_bk, seq_ct, ev_next, ev_break, ev_ret, fz_d, ev_retW, ev_drop, ev_sif, ev_set, ev_par, par_2, ev_for, ev_sem, ob_some, ob_none, oif_true, oif_false, mkT2, mkT3, mkL0, mkL1, mkL2, gSub_i, gAdd_i, gLt_i, gLe_i, gGt_i, gGe_i, gEq_i, gNe_i, frIx0, frIx1, List.length_cons, List.length_nil, List.map_cons, List.map_nil, List.cons_append, List.nil_append, List.append_nil, List.replicate, List.getElem?_cons_zero, List.getElem?_cons_succ, List.set_cons_zero, List.set_cons_succ, if_true, if_false, Nat.reduceAdd, Nat.reduceSub, Bool.and_true, Bool.true_and, Bool.not_true, Bool.not_false, h1, h2]
  have hg : ∀ (xs : List PD), (∀ x, x ∈ xs → ∀ M : MS, True → ∃ Δ1, gNm 1 true x [some (.s (ns.map PyData.int)), none] = some Δ1 ∧ ∃ t y M2, (mCall 1 f__law_right (mArgs [(mCall 2 f__law_flask (mArgs [(mVar 0), (mVar 1)]))])) Δ1 M = some (.d t y, M2) ∧ y = PyData.bool true) → ∀ M : MS, ∃ s ys M2, lcGo true (gNm 1) tTrue (mCall 1 f__law_right (mArgs [(mCall 2 f__law_flask (mArgs [(mVar 0), (mVar 1)]))])) [some (.s (ns.map PyData.int)), none] xs M = some ((s, ys), M2) ∧ ∀ y, y ∈ ys → y = PyData.bool true := by
    intro xs
    induction xs with
    | nil => exact fun _ M => ⟨true, [], M, rfl, fun _ h => nomatch h⟩
    | cons x xs ih =>
      intro h M
      obtain ⟨Δ1, h1, t, y, M2, h2, h3⟩ := h x List.mem_cons_self M trivial
      obtain ⟨s, ys, M3, h4, h5⟩ := ih (fun x hx => h x (List.mem_cons_of_mem _ hx)) M2
      refine ⟨t && s, y :: ys, M3, ?_, ?_⟩
      · simp only [lcGo, h1, tTrue, h2, fz1, h4]
      · intro z hz
        cases hz with
        | head => exact h3
        | tail _ hz => exact h5 z hz
  obtain ⟨s, ys, M2, h1, h2⟩ := hg _ hx []
  obtain ⟨bs, h3, h4⟩ := asB_true ys h2
  have e3 : bAll [.d s (.list ys)] M2 = some (.d true (.bool true), M2) := by
    show (match asBools ys with | some bs => some (W.d true (PyData.bool (bs.all id)), M2) | none => none) = _
    rw [h3]
    simp only [h4]
  have e4 : rgK ([.d true (.int (m : Int))], ([] : MS)) = some ((true, (List.range m).map nE), []) := rgK_n (by omega)
  have e5 : ((List.range m).map nE).length ≤ 100000 := by simp; omega
  refine ⟨true, M2, ?_⟩
  unfold f_law
  simp only [ev_var, ev_D, ev_bin, ev_un, ev_args0, ev_args, ev_fn, ev_call, ev_callK, ev_if, ev_B1, asB_d, ev_and, ev_or, ev_not, ev_mand, ev_mor, ev_true, ev_chain, ev_tup, ev_lst, ev_old, ev_new, ev_items, ev_lc, ev_seq, seq_nx, seq_rt, seq_bk, seq_ct, ev_next, ev_break, ev_ret, fz_d, ev_retW, ev_drop, ev_sif, ev_set, ev_par, par_2, ev_for, ev_sem, ob_some, ob_none, oif_true, oif_false, mkT2, mkT3, mkL0, mkL1, mkL2, gSub_i, gAdd_i, gLt_i, gLe_i, gGt_i, gGe_i, gEq_i, gNe_i, frIx0, frIx1, List.length_cons, List.length_nil, List.map_cons, List.map_nil, List.cons_append, List.nil_append, List.append_nil, List.replicate, List.getElem?_cons_zero, List.getElem?_cons_succ, List.set_cons_zero, List.set_cons_succ, if_true, if_false, Nat.reduceAdd, Nat.reduceSub, Bool.and_true, Bool.true_and, Bool.not_true, Bool.not_false, bLen_s, List.length_map, e1, e2, ev_rg, e4, e5, wipeD, h1, e3]
  simp only [List.length_map] at e5
  simp only [ev_var, ev_D, ev_bin, ev_un, ev_args0, ev_args, ev_fn, ev_call, ev_callK, ev_if, ev_B1, asB_d, ev_and, ev_or, ev_not, ev_mand, ev_mor, ev_true, ev_chain, ev_tup, ev_lst, ev_old, ev_new, ev_items, ev_lc, ev_seq, seq_nx, seq_rt, seq_bk, seq_ct, ev_next, ev_break, ev_ret, fz_d, ev_retW, ev_drop, ev_sif, ev_set, ev_par, par_2, ev_for, ev_sem, ob_some, ob_none, oif_true, oif_false, mkT2, mkT3, mkL0, mkL1, mkL2, gSub_i, gAdd_i, gLt_i, gLe_i, gGt_i, gGe_i, gEq_i, gNe_i, frIx0, frIx1, List.length_cons, List.length_nil, List.map_cons, List.map_nil, List.cons_append, List.nil_append, List.append_nil, List.replicate, List.getElem?_cons_zero, List.getElem?_cons_succ, List.set_cons_zero, List.set_cons_succ, if_true, if_false, Nat.reduceAdd, Nat.reduceSub, Bool.and_true, Bool.true_and, Bool.not_true, Bool.not_false, e5, h1, e3]

/-! the drawn things -/
def menu15 : List Int := [-15, -6, 0, 0, 3, 6, 8, 12, 18, 21, 30, 54]
structure Gd (d : List (Rat × Rat)) : Prop where
  dr : Dr 4 3 d
  num : ∀ z, z ∈ d → Bd 6 60 z.1
  ch : ∀ z, z ∈ d → Bd 12 12 z.2
  lo : ∀ z, z ∈ d → -100 ≤ z.1
  hi : ∀ z, z ∈ d → z.1 < 100
  up : d.Pairwise fun a b => a.1 < b.1
theorem menu_ok : ∀ a, a ∈ menu15 → Sz 4 (mkRat a 6) ∧ a.natAbs ≤ 60 ∧ -100 ≤ mkRat a 6 ∧ mkRat a 6 < 100 := by
  intro a ha
  simp only [menu15, List.mem_cons, List.not_mem_nil, or_false] at ha
  rcases ha with rfl | rfl | rfl | rfl | rfl | rfl | rfl | rfl | rfl | rfl | rfl | rfl <;> exact ⟨⟨by decide +kernel, by decide +kernel⟩, by decide, by decide +kernel, by decide +kernel⟩
theorem part_ok : ∀ a, a ∈ ([2, 3, 4, 6, 8, 9, 12] : List Int) → Sz 4 (mkRat a 12) ∧ a.natAbs ≤ 12 ∧ 0 < mkRat a 12 ∧ mkRat a 12 ≤ 1 := by
  intro a ha
  simp only [List.mem_cons, List.not_mem_nil, or_false] at ha
  rcases ha with rfl | rfl | rfl | rfl | rfl | rfl | rfl <;> exact ⟨⟨by decide +kernel, by decide +kernel⟩, by decide, by decide +kernel, by decide +kernel⟩
theorem sum_mk {d : Nat} (h : d ≠ 0) : ∀ l : List Int, (l.map fun a => mkRat a d).sum * (d : Rat) = ((l.sum : Int) : Rat)
  | [] => by simp
  | a :: l => by
    rw [List.map_cons, List.sum_cons, List.sum_cons, Rat.add_mul, mk_mul a h, sum_mk h l, Rat.intCast_add]
theorem gd_mk (l : List (Int × Int)) (h0 : l ≠ []) (hl : l.length ≤ 3) (h1 : ∀ x, x ∈ l → x.1 ∈ menu15) (h2 : ∀ x, x ∈ l → x.2 ∈ ([2, 3, 4, 6, 8, 9, 12] : List Int)) (h3 : l.Pairwise fun a b => a.1 < b.1) (h4 : (l.map (·.2)).sum = 12) : Gd (l.map fun x => (mkRat x.1 6, mkRat x.2 12)) := by
  have m : ∀ {P : Rat × Rat → Prop}, (∀ x, x ∈ l → P (mkRat x.1 6, mkRat x.2 12)) → ∀ z, z ∈ l.map (fun x => (mkRat x.1 6, mkRat x.2 12)) → P z := by
    intro P h z hz
    obtain ⟨x, hx, rfl⟩ := List.mem_map.mp hz
    exact h x hx
  have up : (l.map fun x => (mkRat x.1 6, mkRat x.2 12)).Pairwise fun a b => a.1 < b.1 := by
    rw [List.pairwise_map]
    exact h3.imp fun h => mk_lt (by decide) h
  refine ⟨⟨by simpa using h0, by simpa using hl, m fun x hx => ⟨(menu_ok _ (h1 x hx)).1, (part_ok _ (h2 x hx)).1⟩, m fun x hx => (part_ok _ (h2 x hx)).2.2.1, m fun x hx => (part_ok _ (h2 x hx)).2.2.2, ?_, ?_⟩, m fun x hx => mk_bd (by decide) (menu_ok _ (h1 x hx)).2.1, m fun x hx => mk_bd (by decide) (part_ok _ (h2 x hx)).2.1, m fun x hx => (menu_ok _ (h1 x hx)).2.2.1, m fun x hx => (menu_ok _ (h1 x hx)).2.2.2, up⟩
  · intro i hi
    exact List.pairwise_iff_getElem.mp up i (i + 1) (by omega) hi (by omega)
  · have := sum_mk (d := 12) (by decide) (l.map (·.2))
    rw [h4] at this
    have e : (List.map (fun z : Rat × Rat => z.2) (l.map fun x => (mkRat x.1 6, mkRat x.2 12))) = (l.map (·.2)).map fun a => mkRat a 12 := by simp
    rw [e]
    grind
theorem low6 (a : Int) : lowQ a 6 = mkRat a 6 := rfl
theorem low12 (a : Int) : lowQ a 12 = mkRat a 12 := rfl
theorem draw_gd {a2 : Int} {d : List (Rat × Rat)} (h : S_law_draw 3 a2 d) : Gd d := by
  obtain ⟨v, hv, w, hw, p, hp, hr⟩ := h
  have hlen := hw.length
  rw [rng_len] at hlen
  have hm : ∀ x, x ∈ upI w → x ∈ menu15 := by
    intro x hx
    have := Rel2.all (P := fun b => b ∈ menu15) (by
      rintro z b ⟨u, hu, rfl⟩
      obtain ⟨y, hy, rfl⟩ := List.mem_map.mp hu
      exact (List.mem_filter.mp hy).1) hw
    exact this x (upI_mem.mp hx)
  have h1 : 0 < (upI w).length := upI_ne (by
    intro e
    rw [e] at hlen
    simp at hlen
    omega)
  have h2 : (upI w).length ≤ 3 := Nat.le_trans upI_len (by omega)
  have h3 := upI_up w
  generalize upI w = f at hm h1 h2 h3 hp hr
  rcases f with _ | ⟨a, _ | ⟨b, _ | ⟨c, _ | ⟨e, f⟩⟩⟩⟩
  · simp at h1
  · have hp : p ∈ ([[12]] : List (List Int)) := hp
    have hr : d = [(lowQ a 6, lowQ (ix p 0) 12)] := hr
    simp only [List.mem_cons, List.not_mem_nil, or_false] at hp
    subst hp
    subst hr
    exact gd_mk [(a, 12)] (by simp) (by simp) (by simpa using hm a (by simp)) (by simp) (by simp) (by simp)
  · have hp : p ∈ ([[6, 6], [4, 8], [9, 3]] : List (List Int)) := hp
    have hr : d = [(lowQ a 6, lowQ (ix p 0) 12), (lowQ b 6, lowQ (ix p 1) 12)] := hr
    have hab : a < b := (List.pairwise_cons.mp h3).1 b (by simp)
    have ha := hm a (by simp)
    have hb := hm b (by simp)
    simp only [List.mem_cons, List.not_mem_nil, or_false] at hp
    rcases hp with rfl | rfl | rfl
    · subst hr
      exact gd_mk [(a, 6), (b, 6)] (by simp) (by simp) (by simp [ha, hb]) (by simp) (by simp [hab]) (by simp)
    · subst hr
      exact gd_mk [(a, 4), (b, 8)] (by simp) (by simp) (by simp [ha, hb]) (by simp) (by simp [hab]) (by simp)
    · subst hr
      exact gd_mk [(a, 9), (b, 3)] (by simp) (by simp) (by simp [ha, hb]) (by simp) (by simp [hab]) (by simp)
  · have hp : p ∈ ([[4, 4, 4], [6, 3, 3], [2, 4, 6]] : List (List Int)) := hp
    have hr : d = [(lowQ a 6, lowQ (ix p 0) 12), (lowQ b 6, lowQ (ix p 1) 12), (lowQ c 6, lowQ (ix p 2) 12)] := hr
    have hab : a < b := (List.pairwise_cons.mp h3).1 b (by simp)
    have hac : a < c := (List.pairwise_cons.mp h3).1 c (by simp)
    have hbc : b < c := (List.pairwise_cons.mp (List.pairwise_cons.mp h3).2).1 c (by simp)
    have ha := hm a (by simp)
    have hb := hm b (by simp)
    have hc := hm c (by simp)
    simp only [List.mem_cons, List.not_mem_nil, or_false] at hp
    rcases hp with rfl | rfl | rfl
    · subst hr
      exact gd_mk [(a, 4), (b, 4), (c, 4)] (by simp) (by simp) (by simp [ha, hb, hc]) (by simp) (by simp [hab, hac, hbc]) (by simp)
    · subst hr
      exact gd_mk [(a, 6), (b, 3), (c, 3)] (by simp) (by simp) (by simp [ha, hb, hc]) (by simp) (by simp [hab, hac, hbc]) (by simp)
    · subst hr
      exact gd_mk [(a, 2), (b, 4), (c, 6)] (by simp) (by simp) (by simp [ha, hb, hc]) (by simp) (by simp [hab, hac, hbc]) (by simp)
  · simp at h2

theorem lowOk (b : Int) (h : 0 < b) (h2 : b < 1000) : LowOk b := ⟨h, by
  have : b.natAbs < 2 ^ 10 := by omega
  exact Nat.lt_of_lt_of_le this (Nat.pow_le_pow_right (by decide) (by decide))⟩
theorem ok_draw : ok_law_draw 3 (-99) := by
  refine ⟨by simp, by decide, fun v hv => ⟨by omega, by rw [rng_len]; omega, fun z hz => by decide, fun w hw => ?_⟩⟩
  have hlen := hw.length
  rw [rng_len] at hlen
  have h1 : 0 < (upI w).length := upI_ne (by
    intro e
    rw [e] at hlen
    simp at hlen
    omega)
  have h2 : (upI w).length ≤ 3 := Nat.le_trans upI_len (by omega)
  refine ⟨by omega, ⟨by simp; omega, by simp; omega⟩, ?_⟩
  generalize upI w = f at h1 h2
  have hI : ∀ n : Nat, n < 3 → ∀ z, z ∈ rng 0 (n : Int) → IxOk n z := fun n hn z hz => by
    have := mem_rng.mp hz
    exact ⟨by omega, this.2⟩
  have fin : ∀ p : List Int, p.length = f.length → ((-(2 ^ 62) ≤ (List.length f : Int) ∧ (List.length f : Int) < 2 ^ 62) ∧ (List.length (rng 0 (List.length f : Int)) ≤ 100000) ∧ (∀ (z90 : Int), z90 ∈ (rng 0 (List.length f : Int)) → ((IxOk (List.length f) z90) ∧ (LowOk (6 : Int)) ∧ (IxOk (List.length p) z90) ∧ (LowOk (12 : Int))))) := by
    intro p hp
    refine ⟨by omega, by rw [rng_len]; omega, fun z hz => ?_⟩
    have := mem_rng.mp hz
    have hi : IxOk f.length z := ⟨by omega, this.2⟩
    exact ⟨hi, lowOk _ (by decide) (by decide), by rw [hp]; exact hi, lowOk _ (by decide) (by decide)⟩
  rcases f with _ | ⟨a, _ | ⟨b, _ | ⟨c, _ | ⟨e, f⟩⟩⟩⟩
  · simp at h1
  · have e : ix ([([([(12 : Int)] : List Int)] : List (List Int)), ([([(6 : Int), (6 : Int)] : List Int), ([(4 : Int), (8 : Int)] : List Int), ([(9 : Int), (3 : Int)] : List Int)] : List (List Int)), ([([(4 : Int), (4 : Int), (4 : Int)] : List Int), ([(6 : Int), (3 : Int), (3 : Int)] : List Int), ([(2 : Int), (4 : Int), (6 : Int)] : List Int)] : List (List Int))] : List (List (List Int))) ((List.length [a] : Int) - (1 : Int)) = [[12]] := rfl
    rw [e]
    refine ⟨by simp, fun p hp => fin p ?_⟩
    simp only [List.mem_cons, List.not_mem_nil, or_false] at hp
    subst hp
    rfl
  · have e : ix ([([([(12 : Int)] : List Int)] : List (List Int)), ([([(6 : Int), (6 : Int)] : List Int), ([(4 : Int), (8 : Int)] : List Int), ([(9 : Int), (3 : Int)] : List Int)] : List (List Int)), ([([(4 : Int), (4 : Int), (4 : Int)] : List Int), ([(6 : Int), (3 : Int), (3 : Int)] : List Int), ([(2 : Int), (4 : Int), (6 : Int)] : List Int)] : List (List Int))] : List (List (List Int))) ((List.length [a, b] : Int) - (1 : Int)) = [[6, 6], [4, 8], [9, 3]] := rfl
    rw [e]
    refine ⟨by simp, fun p hp => fin p ?_⟩
    simp only [List.mem_cons, List.not_mem_nil, or_false] at hp
    rcases hp with rfl | rfl | rfl <;> rfl
  · have e : ix ([([([(12 : Int)] : List Int)] : List (List Int)), ([([(6 : Int), (6 : Int)] : List Int), ([(4 : Int), (8 : Int)] : List Int), ([(9 : Int), (3 : Int)] : List Int)] : List (List Int)), ([([(4 : Int), (4 : Int), (4 : Int)] : List Int), ([(6 : Int), (3 : Int), (3 : Int)] : List Int), ([(2 : Int), (4 : Int), (6 : Int)] : List Int)] : List (List Int))] : List (List (List Int))) ((List.length [a, b, c] : Int) - (1 : Int)) = [[4, 4, 4], [6, 3, 3], [2, 4, 6]] := rfl
    rw [e]
    refine ⟨by simp, fun p hp => fin p ?_⟩
    simp only [List.mem_cons, List.not_mem_nil, or_false] at hp
    rcases hp with rfl | rfl | rfl <;> rfl
  · simp at h2
theorem ok_row : ok_law_row 4 (-99) := ⟨by decide, fun v hv => ⟨by omega, by rw [rng_len]; omega, fun z hz => ok_draw⟩⟩
theorem ok_rest : ok_law_rest := ⟨by simp, by simp⟩
structure Gr (l : List (List (Rat × Rat))) : Prop where
  ne : l ≠ []
  len : l.length ≤ 4
  gd : ∀ d, d ∈ l → Gd d
theorem Gr.rw {l : List (List (Rat × Rat))} (h : Gr l) : Rw 4 3 4 l := ⟨h.ne, h.len, fun d hd => (h.gd d hd).dr⟩
theorem row_gr {a2 : Int} {l : List (List (Rat × Rat))} (h : S_law_row 4 a2 l) : Gr l := by
  obtain ⟨v, hv, w, hw, rfl⟩ := h
  have hlen := hw.length
  rw [rng_len] at hlen
  refine ⟨fun e => ?_, by omega, Rel2.all (by
    rintro z b ⟨u, hu, rfl⟩
    exact draw_gd hu) hw⟩
  rw [e] at hlen
  simp at hlen
  omega
theorem rest_ok {q : Rat} (h : S_law_rest q) : Sz 4 q ∧ Bd 6 72 q := by
  obtain ⟨v, hv, rfl⟩ := h
  simp only [List.mem_cons, List.not_mem_nil, or_false] at hv
  rcases hv with rfl | rfl | rfl | rfl | rfl | rfl | rfl
  · exact ⟨⟨by decide +kernel, by decide +kernel⟩, 0, by decide, by decide +kernel⟩
  · exact ⟨⟨by decide +kernel, by decide +kernel⟩, 0, by decide, by decide +kernel⟩
  · exact ⟨⟨by decide +kernel, by decide +kernel⟩, 6, by decide, by decide +kernel⟩
  · exact ⟨⟨by decide +kernel, by decide +kernel⟩, 15, by decide, by decide +kernel⟩
  · exact ⟨⟨by decide +kernel, by decide +kernel⟩, -6, by decide, by decide +kernel⟩
  · exact ⟨⟨by decide +kernel, by decide +kernel⟩, 14, by decide, by decide +kernel⟩
  · exact ⟨⟨by decide +kernel, by decide +kernel⟩, 72, by decide, by decide +kernel⟩
/-! outcomes -/
structure OutI (n : Nat) (F : List (List Rat × Rat)) : Prop where
  len : F.length ≤ 3 ^ n
  sl : ∀ o, o ∈ F → o.1.length = n
  num : ∀ o, o ∈ F → ∀ q, q ∈ o.1 → Bd 6 60 q
  ch : ∀ o, o ∈ F → Bd (12 ^ n) (12 ^ n) o.2
theorem flat_len {α β : Type} {f : α → List β} {k : Nat} : ∀ {l : List α}, (∀ a, a ∈ l → (f a).length ≤ k) → (l.flatMap f).length ≤ l.length * k
  | [], _ => by simp
  | a :: l, h => by
    have h1 := h a List.mem_cons_self
    have h2 := flat_len fun b hb => h b (List.mem_cons_of_mem _ hb)
    rw [List.flatMap_cons, List.length_append, List.length_cons, Nat.succ_mul]
    omega
theorem outI_step {n : Nat} {F : List (List Rat × Rat)} {d : List (Rat × Rat)} (h : OutI n F) (g : Gd d) : OutI (n + 1) (outS F d) := by
  have m : ∀ {P : List Rat × Rat → Prop}, (∀ o, o ∈ F → ∀ z, z ∈ d → P (o.1 ++ [z.1], o.2 * z.2)) → ∀ o, o ∈ outS F d → P o := by
    intro P hP o ho
    unfold outS at ho
    obtain ⟨o', ho', h2⟩ := List.mem_flatMap.mp ho
    obtain ⟨z, hz, rfl⟩ := List.mem_map.mp h2
    exact hP o' ho' z hz
  refine ⟨?_, m fun o ho z hz => by simp [h.sl o ho], m fun o ho z hz => ?_, m fun o ho z hz => ?_⟩
  · have := flat_len (f := fun o : List Rat × Rat => d.map fun z => (o.1 ++ [z.1], o.2 * z.2)) (k := 3) (l := F) fun o _ => by simpa using g.dr.len
    have h2 := Nat.mul_le_mul_right 3 h.len
    unfold outS
    rw [Nat.pow_succ]
    omega
  · intro q hq
    rcases List.mem_append.mp hq with hq | hq
    · exact h.num o ho q hq
    · cases hq with
      | head => exact g.num z hz
      | tail _ hq => cases hq
  · exact (h.ch o ho).mul (g.ch z hz)
theorem outI_fold : ∀ (l : List (List (Rat × Rat))), (∀ d, d ∈ l → Gd d) → ∀ n F, OutI n F → OutI (n + l.length) (l.foldl outS F)
  | [], _, n, F, h => h
  | d :: l, hd, n, F, h => by
    have := outI_fold l (fun d h => hd d (List.mem_cons_of_mem _ h)) (n + 1) _ (outI_step h (hd d List.mem_cons_self))
    rw [List.length_cons, List.foldl_cons, show n + (l.length + 1) = n + 1 + l.length by omega]
    exact this
theorem outI_0 : OutI 0 [([], 1)] := ⟨by simp, by simp, by simp, by
  intro o ho
  cases ho with
  | head => exact Bd.one
  | tail _ h => cases h⟩
theorem step_outS : (fun (s27 : (List ((List Rat) × Rat))) (z26 : (List (Rat × Rat))) => (List.foldl (fun (s31 : (List ((List Rat) × Rat))) (z30 : ((List Rat) × Rat)) => (s31 ++ (List.map (fun (z34 : (Rat × Rat)) => ((z30.1 ++ ([z34.1] : List Rat)), (z30.2 * z34.2))) z26))) ([] : List ((List Rat) × Rat)) s27)) = outS := by
  funext F d
  rw [foldl_flat (fun z30 : List Rat × Rat => (List.map (fun (z34 : (Rat × Rat)) => ((z30.1 ++ ([z34.1] : List Rat)), (z30.2 * z34.2))) d))]
  rfl
theorem outcomes_eq (l : List (List (Rat × Rat))) : p_law_outcomes l = l.foldl outS [([], 1)] := by
  unfold p_law_outcomes
  rw [step_outS]
theorem p12 {n : Nat} (h : n ≤ 4) : 12 ^ n ≤ 20736 := Nat.le_trans (Nat.pow_le_pow_right (by decide) h) (by decide)
theorem p3 {n : Nat} (h : n ≤ 4) : 3 ^ n ≤ 81 := Nat.le_trans (Nat.pow_le_pow_right (by decide) h) (by decide)
theorem lt480 {n : Nat} (h : n < 2 ^ 64) : n < 2 ^ 480 := Nat.lt_of_lt_of_le h (Nat.pow_le_pow_right (by decide) (by decide))
theorem p12ne (n : Nat) : 12 ^ n ≠ 0 := Nat.ne_of_gt (Nat.pow_pos (by decide))
theorem ok_outs {l : List (List (Rat × Rat))} (g : Gr l) : ok_law_outcomes l := by
  intro dn z rs e s hs dn2 o rs2 e2 s2 hs2
  rw [step_outS] at hs
  have hn : dn.length + 1 ≤ 4 := by
    have := g.len
    rw [e] at this
    simp at this
    omega
  have I : OutI (0 + dn.length) s := hs ▸ outI_fold dn (fun d hd => g.gd d (by rw [e]; exact List.mem_append_left _ hd)) 0 _ outI_0
  rw [Nat.zero_add] at I
  have gz : Gd z := g.gd z (by rw [e]; simp)
  have hz := gz.dr.len
  have ho : o ∈ s := by rw [e2]; simp
  have h3 := I.len
  have h4 := p3 (n := dn.length) (by omega)
  have h5 := p12 (n := dn.length) (by omega)
  have h6 : dn2.length ≤ s.length := by rw [e2]; simp
  rw [foldl_flat (fun z30 : List Rat × Rat => (List.map (fun (z34 : (Rat × Rat)) => ((z30.1 ++ ([z34.1] : List Rat)), (z30.2 * z34.2))) z))] at hs2
  have h7 : s2.length ≤ dn2.length * 3 := by
    rw [hs2]
    exact flat_len fun o _ => by simpa using hz
  refine ⟨by omega, fun y hy => ⟨?_, (I.ch o ho).sm (p12ne _) (lt480 (by omega)) (lt480 (by omega)), (gz.ch y hy).sm (by decide) (lt480 (by decide)) (lt480 (by decide))⟩, ?_⟩
  · rw [I.sl o ho]
    simp
    omega
  · simp
    omega
theorem first_eq (s : List Rat) (x q : Rat) : p_law_first s x q = first x q s := by
  have e : law_first_q46_some s x q = hits x s := by
    unfold law_first_q46_some hits
    simp
  unfold p_law_first first
  rw [e]
  cases hits x s with
  | nil => simp
  | cons a t => simp [ix_zero]

theorem first_mem (x q : Rat) (s : List Rat) : first x q s = q ∨ first x q s ∈ s := by
  unfold first
  cases h : hits x s with
  | nil => exact .inl rfl
  | cons a t =>
    refine .inr ?_
    have : a ∈ hits x s := by rw [h]; simp
    exact (List.mem_filter.mp this).1
theorem term_bd {n : Nat} {F : List (List Rat × Rat)} (I : OutI n F) {q : Rat} (hq : Bd 6 72 q) (x : Rat) : ∀ o, o ∈ F → Bd (12 ^ n * 6) (12 ^ n * 72) (o.2 * first x q o.1) := by
  intro o ho
  refine (I.ch o ho).mul ?_
  rcases first_mem x q o.1 with h | h
  · rw [h]; exact hq
  · exact (I.num o ho _ h).mono (by decide)
theorem due_bd {n : Nat} {F : List (List Rat × Rat)} (I : OutI n F) {q : Rat} (hq : Bd 6 72 q) (x : Rat) : Bd (12 ^ n * 6) (F.length * (12 ^ n * 72)) (due F q x) := by
  have := Bd.sum (D := 12 ^ n * 6) (N := 12 ^ n * 72) (l := F.map fun o => o.2 * first x q o.1) (by
    intro r hr
    obtain ⟨o, ho, rfl⟩ := List.mem_map.mp hr
    exact term_bd I hq x o ho)
  rwa [List.length_map] at this
theorem sums1 {l : List (List (Rat × Rat))} (g : Gr l) : ∀ d, d ∈ l → (d.map (·.2)).sum = 1 := fun d hd => (g.gd d hd).dr.sum
theorem outs_I {l : List (List (Rat × Rat))} (g : Gr l) : OutI l.length (l.foldl outS [([], 1)]) := by
  have := outI_fold l g.gd 0 _ outI_0
  rwa [Nat.zero_add] at this
theorem sm_of {n N : Nat} {p : Rat} (hn : n ≤ 4) (h : Bd (12 ^ n * 6) N p) (hN : N < 2 ^ 64) : Sm' p := by
  have := p12 hn
  exact h.sm (Nat.mul_ne_zero (p12ne n) (by decide)) (lt480 (by omega)) (lt480 hN)
theorem bw_sm {l : List (List (Rat × Rat))} (g : Gr l) {q : Rat} (hq : Bd 6 72 q) (x : Rat) : Sm' (bw l q x) := by
  rw [← due_bw x l (sums1 g) q]
  have I := outs_I g
  have h1 := I.len
  have h2 := p12 g.len
  have h3 := p3 g.len
  refine sm_of g.len (due_bd I hq x) ?_
  have : (List.foldl outS [([], 1)] l).length * (12 ^ l.length * 72) ≤ 81 * (20736 * 72) := Nat.mul_le_mul (by omega) (by omega)
  omega
/-! the worth is small -/
def nW : Nat → Nat
  | 0 => 72
  | k + 1 => 12 * nW k + 36 * (60 * 12 ^ k + nW k)
theorem mx_bd {D N : Nat} {p q : Rat} (h : Bd D N p) (k : Bd D N q) : Bd D N (mx p q) := by
  unfold mx
  split <;> assumption
theorem bd_cast {D D' N N' : Nat} {p : Rat} (h : Bd D N p) (e : D = D') (l : N ≤ N') : Bd D' N' p := by
  subst e
  exact h.mono l
theorem exc_bd {d : List (Rat × Rat)} (g : Gd d) {k N : Nat} {w : Rat} (hw : Bd (6 * 12 ^ k) N w) : Bd (6 * 12 ^ (k + 1)) (36 * (60 * 12 ^ k + N)) (exc d w) := by
  have h := Bd.sum (D := 6 * 12 ^ (k + 1)) (N := 12 * (60 * 12 ^ k + N)) (l := d.map fun z => mx (z.1 - w) 0 * z.2) (by
    intro r hr
    obtain ⟨z, hz, rfl⟩ := List.mem_map.mp hr
    have h1 : Bd (6 * 12 ^ k) (60 * 12 ^ k) z.1 := (g.num z hz).wide
    have h2 := mx_bd (h1.sub hw) (Bd.zero.mono (Nat.zero_le _))
    exact bd_cast (h2.mul (g.ch z hz)) (by rw [Nat.pow_succ]; omega) (by omega))
  refine h.mono ?_
  rw [List.length_map]
  have := Nat.mul_le_mul_right (12 * (60 * 12 ^ k + N)) g.dr.len
  omega
theorem wo_bd {q : Rat} (hq : Bd 6 72 q) : ∀ l : List (List (Rat × Rat)), (∀ d, d ∈ l → Gd d) → Bd (6 * 12 ^ l.length) (nW l.length) (wo l q)
  | [], _ => bd_cast hq (by simp) (by simp [nW])
  | d :: l, h => by
    have h1 := wo_bd hq l fun d hd => h d (List.mem_cons_of_mem _ hd)
    have h2 := exc_bd (h d List.mem_cons_self) h1
    have h3 : Bd (6 * 12 ^ (l.length + 1)) (12 * nW l.length) (wo l q) := bd_cast (h1.wide (E := 12)) (by rw [Nat.pow_succ]; omega) (by omega)
    exact h3.add h2
theorem nW_mono : ∀ k, nW k ≤ nW (k + 1) := fun k => by
  show nW k ≤ 12 * nW k + 36 * (60 * 12 ^ k + nW k)
  omega
theorem nW_le {k : Nat} (h : k ≤ 4) : nW k ≤ nW 4 := by
  have h0 := nW_mono 0
  have h1 := nW_mono 1
  have h2 := nW_mono 2
  have h3 := nW_mono 3
  rcases k with _ | _ | _ | _ | _ | k <;> simp only [Nat.zero_add, Nat.reduceAdd] at * <;> omega
theorem wo_sm {l : List (List (Rat × Rat))} (g : Gr l) {q : Rat} (hq : Bd 6 72 q) : Sm' (wo l q) := by
  have h := wo_bd hq l g.gd
  have h1 := nW_le g.len
  have h2 : nW 4 < 2 ^ 64 := by decide
  have h3 := p12 g.len
  exact h.sm (Nat.mul_ne_zero (by decide) (p12ne _)) (lt480 (by omega)) (lt480 (by omega))
theorem wos_0 (l : List (List (Rat × Rat))) (q : Rat) : ix (wos l q) 0 = wo l q := by
  obtain ⟨r, hr⟩ := wos_eq l q
  rw [hr, ix_zero]
theorem sum_due (l : List (List (Rat × Rat))) (g : Gr l) (q x : Rat) : p_law_sum (List.map (fun (z : ((List Rat) × Rat)) => (z.2 * (p_law_first z.1 x q))) (p_law_outcomes l)) = bw l q x := by
  unfold p_law_sum
  rw [foldl_sum, outcomes_eq, ← due_bw x l (sums1 g) q]
  unfold due
  simp only [first_eq]
theorem ix_map {α β : Type} [Inhabited α] [Inhabited β] (f : α → β) (l : List α) (i : Int) (h : IxOk l.length i) : ix (l.map f) i = f (ix l i) := by
  have h1 := ix_some h
  have h2 : IxOk (l.map f).length i := by rw [List.length_map]; exact h
  have h3 := ix_some h2
  rw [atI_map, h1] at h3
  exact (Option.some.inj h3).symm
theorem ix_mem {α : Type} [Inhabited α] {l : List α} {i : Int} (h : IxOk l.length i) : ix l i ∈ l := by
  have h1 := ix_some h
  unfold atI at h1
  cases h2 : ixN l.length i with
  | none => rw [h2] at h1; cases h1
  | some j => rw [h2] at h1; exact List.mem_of_getElem? h1
theorem foldmx_P {P : Rat → Prop} : ∀ (l : List Rat) (a : Rat), P a → (∀ z, z ∈ l → P z) → P (List.foldl (fun (s : Rat) (z : Rat) => (if decide (s < z) = true then z else s)) a l)
  | [], a, h, _ => h
  | z :: l, a, h, hl => by
    rw [List.foldl_cons]
    refine foldmx_P l _ ?_ fun z hz => hl z (List.mem_cons_of_mem _ hz)
    split
    · exact hl z List.mem_cons_self
    · exact h
theorem foldmx_eq : (fun (s : Rat) (z : Rat) => (if decide (s < z) = true then z else s)) = mx := by
  funext s z
  unfold mx
  by_cases h : s < z <;> simp [h]
/-- what is drawn beside the row -/
structure Bars (l : List (List (Rat × Rat))) (xs : List Rat) : Prop where
  len : xs.length = 6
  sz : ∀ x, x ∈ xs → Sz 7 x
  b2 : ix xs 2 = -100
  b3 : ix xs 3 = 100
theorem ixn (n : Nat) (h : n = 6) (i : Int) (h0 : 0 ≤ i) (h1 : i < 6) : IxOk n i := ⟨by omega, by omega⟩
section
variable {l : List (List (Rat × Rat))} {q : Rat} {xs : List Rat}
theorem bad_no (g : Gr l) (z : Int) (hz : z ∈ rng 0 (List.length xs : Int)) : ((!decide ((ix (List.map (fun (z116 : Rat) => (bw l q z116)) xs) z) = (p_law_sum (List.map (fun (z125 : ((List Rat) × Rat)) => (z125.2 * (p_law_first z125.1 (ix xs z) q))) (p_law_outcomes l))))) || ((!decide ((bw l q (ix xs z)) = (p_law_sum (List.map (fun (z125 : ((List Rat) × Rat)) => (z125.2 * (p_law_first z125.1 (ix xs z) q))) (p_law_outcomes l))))) || decide ((ix (wos l q) (0 : Int)) < (p_law_sum (List.map (fun (z125 : ((List Rat) × Rat)) => (z125.2 * (p_law_first z125.1 (ix xs z) q))) (p_law_outcomes l)))))) = false := by
  have hz := mem_rng.mp hz
  rw [sum_due l g, ix_map (fun z => bw l q z) xs z ⟨by omega, hz.2⟩, wos_0]
  have h := bw_le l (sums1 g) (fun d hd => (g.gd d hd).dr.pos) q (ix xs z)
  have h2 : ¬ wo l q < bw l q (ix xs z) := by grind
  simp [h2]
theorem one_gr (g : Gr l) : ∃ d, cut l none (some 1) = [d] ∧ d ∈ l ∧ ix l 0 = d := by
  rcases l with _ | ⟨d, r⟩
  · exact absurd rfl g.ne
  · exact ⟨d, cut1 d r, by simp, ix_zero d r⟩
theorem end_ok (g : Gr l) (hq : Sz 4 q ∧ Bd 6 72 q) (B : Bars l xs) : ok_law_right_end l q (p_law_outcomes l) (ix (wos l q) 0) xs := by
  have hl := B.len
  have bwok : ∀ x, Sz 7 x → OkBW l q x := fun x hx => ⟨g.rw, hq.1, hx⟩
  have I := outs_I g
  have hI : OutI l.length (p_law_outcomes l) := by rw [outcomes_eq]; exact I
  have hlen := hI.len
  have h12 := p12 g.len
  have h3 := p3 g.len
  refine ⟨by omega, fun z hz => bwok z (B.sz z hz), by omega, fun dn z rs e u _ => ?_, fun u _ => ?_⟩
  · have hz : z ∈ rng 0 (List.length xs : Int) := by rw [e]; simp
    have hz2 := mem_rng.mp hz
    have hi : IxOk xs.length z := ⟨by omega, hz2.2⟩
    have hx := B.sz _ (ix_mem hi)
    refine ⟨by omega, fun o ho => ⟨hi, ⟨by have := hI.sl o ho; have := g.len; omega, fun y hy => ⟨(hI.num o ho y hy).sm (by decide) (lt480 (by decide)) (lt480 (by decide)), hx.sm (by decide)⟩, fun hne => ?_⟩, ?_, ?_⟩, ?_, by simpa using hi, fun _ => ⟨hi, bwok _ hx, fun _ => ⟨?_, ?_⟩⟩⟩
    · have : law_first_q46_some o.1 (ix xs z) q ≠ [] := by simpa using hne
      have := List.length_pos_iff.mpr this
      exact ⟨by omega, by omega⟩
    · exact (hI.ch o ho).sm (p12ne _) (lt480 (by omega)) (lt480 (by omega))
    · rw [first_eq]
      rcases first_mem (ix xs z) q o.1 with h | h
      · rw [h]; exact hq.2.sm (by decide) (lt480 (by decide)) (lt480 (by decide))
      · exact (hI.num o ho _ h).sm (by decide) (lt480 (by decide)) (lt480 (by decide))
    · refine sums_sm (D := 12 ^ l.length * 6) (N := 12 ^ l.length * 72) ?_ (Nat.mul_ne_zero (p12ne _) (by decide)) (lt480 (by omega)) (lt480 ?_)
      · intro r hr
        obtain ⟨o, ho, rfl⟩ := List.mem_map.mp hr
        rw [first_eq]
        exact term_bd hI hq.2 _ o ho
      · rw [List.length_map]
        have : (p_law_outcomes l).length * (12 ^ l.length * 72) ≤ 81 * (20736 * 72) := Nat.mul_le_mul (by omega) (by omega)
        omega
    · rw [wos_0]
      exact wo_sm g hq.2
    · rw [sum_due l g]
      exact bw_sm g hq.2 _
  · obtain ⟨d, h1, h2, h4⟩ := one_gr g
    have gd := g.gd d h2
    have g1 : Gr [d] := ⟨by simp, by simp, fun e he => by
      cases he with
      | head => exact gd
      | tail _ h => cases h⟩
    have hd : ix [d] 0 = d := ix_zero d []
    have ll : IxOk l.length 0 := by
      have := List.length_pos_iff.mpr g.ne
      exact ⟨by omega, by omega⟩
    rw [h1, hd, h4]
    have dl := gd.dr.len
    have ne := List.length_pos_iff.mpr gd.dr.ne
    refine ⟨ixn _ (by simpa using hl) 2 (by decide) (by decide), ll, gd.dr, fun _ => ixn _ (by simpa using hl) 3 (by decide) (by decide), fun _ => ⟨⟨by simp, by simp⟩, by omega, fun z hz => ⟨g1.rw, hq.1, ?_⟩, ⟨g1.rw, hq.1, ⟨by decide, by decide⟩⟩, by first | omega | (simp; done) | (simp; omega), ⟨by first | omega | (simp; done) | (simp; omega), by first | omega | (simp; done) | (simp; omega)⟩, fun dn z rs e s hs => ?_, ⟨g1.rw, hq.1⟩, ?_⟩⟩
    · exact (gd.dr.sz z hz).1.mono (by decide)
    · have all : ∀ y, y ∈ (List.map (fun (z149 : (Rat × Rat)) => (bw [d] q z149.1)) d) ++ [bw [d] q 100] → Sm' y := by
        intro y hy
        rcases List.mem_append.mp hy with hy | hy
        · obtain ⟨z, hz, rfl⟩ := List.mem_map.mp hy
          exact bw_sm g1 hq.2 _
        · cases hy with
          | head => exact bw_sm g1 hq.2 _
          | tail _ h => cases h
      refine ⟨?_, all z (by rw [e]; simp)⟩
      rw [hs]
      refine foldmx_P dn _ (all _ (ix_mem ⟨by first | omega | (simp; done) | (simp; omega), by first | omega | (simp; done) | (simp; omega)⟩)) fun y hy => all y (by rw [e]; exact List.mem_append_left _ hy)
    · rw [wos_len]
      exact ⟨by first | omega | (simp; done) | (simp; omega), by first | omega | (simp; done) | (simp; omega)⟩
theorem end_true (g : Gr l) (B : Bars l xs) : p_law_right_end l q (p_law_outcomes l) (ix (wos l q) 0) xs = true := by
  have hf : foldR (fun (s122 : Unit) (z121 : Int) => ((if ((!decide ((ix (List.map (fun (z116 : Rat) => (bw l q z116)) xs) z121) = (p_law_sum (List.map (fun (z125 : ((List Rat) × Rat)) => (z125.2 * (p_law_first z125.1 (ix xs z121) q))) (p_law_outcomes l))))) || ((!decide ((bw l q (ix xs z121)) = (p_law_sum (List.map (fun (z125 : ((List Rat) × Rat)) => (z125.2 * (p_law_first z125.1 (ix xs z121) q))) (p_law_outcomes l))))) || decide ((ix (wos l q) (0 : Int)) < (p_law_sum (List.map (fun (z125 : ((List Rat) × Rat)) => (z125.2 * (p_law_first z125.1 (ix xs z121) q))) (p_law_outcomes l)))))) = true then (Sum.inr false) else (Sum.inl ())) : Unit ⊕ Bool)) (rng 0 (List.length xs : Int)) () = .inl () := by
    apply foldR_ok
    intro z hz
    rw [bad_no g z hz]
    rfl
  unfold p_law_right_end
  rw [hf]
  obtain ⟨d, h1, h2, h4⟩ := one_gr g
  have gd := g.gd d h2
  have hd : ix [d] 0 = d := ix_zero d []
  have i2 : IxOk xs.length 2 := ixn _ B.len 2 (by decide) (by decide)
  have i3 : IxOk xs.length 3 := ixn _ B.len 3 (by decide) (by decide)
  have e2 : bw l q (-100) = mean' d := by
    rcases l with _ | ⟨d', r⟩
    · exact absurd rfl g.ne
    · rw [ix_zero] at h4
      subst h4
      exact bw_low d' r q _ gd.dr.sum gd.lo
  have e3 : bw l q 100 = q := bw_high l q _ fun d hd => (g.gd d hd).hi
  have e4 := best_one d q 100 gd.dr.sum gd.dr.pos gd.up gd.hi
  show (if _ then false else decide _) = true
  rw [h1, hd, h4, ix_map (fun z => bw l q z) xs 2 i2, ix_map (fun z => bw l q z) xs 3 i3, B.b2, B.b3, e2, e3, wos_0, foldmx_eq]
  have ne := gd.dr.ne
  rw [e4]
  · simp
  · have : ix ((List.map (fun (z149 : (Rat × Rat)) => (bw [d] q z149.1)) d) ++ [bw [d] q 100]) 0 ∈ (List.map (fun (z149 : (Rat × Rat)) => (bw [d] q z149.1)) d) ++ [bw [d] q 100] := ix_mem ⟨by first | omega | (simp; done) | (simp; omega), by first | omega | (simp; done) | (simp; omega)⟩
    rcases List.mem_append.mp this with h | h
    · exact .inr h
    · exact .inl (by simpa using h)
end
theorem bars_ok {l : List (List (Rat × Rat))} (g : Gr l) {v : List Rat} {w : Rat} {k : Int} (hv : Rel2 (fun (z100 : Int) (b102 : Rat) => (∃ v104 : (List (Rat × Rat)), v104 ∈ l ∧ (∃ v106 : (Rat × Rat), v106 ∈ v104 ∧ b102 = v106.1))) (rng 0 (2 : Int)) v) (hw : S_law_rest w) (hk : 0 ≤ k ∧ k < 50) : Bars l (v ++ [(-100 : Rat), (100 : Rat), w, (lowQ k (7 : Int))]) := by
  have hl := hv.length
  rw [rng_len] at hl
  have hl : v.length = 2 := hl
  have sz := Rel2.all (P := fun b => Sz 7 b) (by
    rintro z b ⟨d, hd, p, hp, rfl⟩
    exact ((g.gd d hd).dr.sz p hp).1.mono (by decide)) hv
  rcases v with _ | ⟨a, _ | ⟨b, _ | ⟨c, v⟩⟩⟩
  · cases hl
  · cases hl
  · refine ⟨rfl, ?_, rfl, rfl⟩
    intro x hx
    rcases List.mem_append.mp hx with hx | hx
    · exact sz x hx
    · simp only [List.mem_cons, List.not_mem_nil, or_false] at hx
      rcases hx with rfl | rfl | rfl | rfl
      · exact ⟨by decide, by decide⟩
      · exact ⟨by decide, by decide⟩
      · exact (rest_ok hw).1.mono (by decide)
      · have : k.natAbs < 2 ^ 7 := by omega
        exact norm_sz (a := k) (b := 7) (by decide) this (by decide)
  · cases hl
theorem ok_right : ok_law_right := by
  refine ⟨ok_row, fun l hl => ⟨ok_rest, fun q hq => ?_⟩⟩
  have g := row_gr hl
  have hq := rest_ok hq
  have hne := List.length_pos_iff.mpr g.ne
  have hle := g.len
  refine ⟨ok_outs g, ⟨g.rw, hq.1⟩, ?_, by decide, by decide, fun z _ => ⟨⟨g.ne, by omega⟩, fun d hd => ⟨(g.gd d hd).dr.ne, by have := (g.gd d hd).dr.len; omega⟩⟩, fun v hv => ⟨ok_rest, fun w hw => ⟨by decide, fun k hk => ⟨lowOk _ (by decide) (by decide), ?_, end_ok g hq (bars_ok g hv hw hk)⟩⟩⟩⟩
  · rw [wos_len]
    exact ⟨by first | omega | (simp; done) | (simp; omega), by simp⟩
  · have := hv.length
    rw [rng_len] at this
    simp
    omega
theorem right_true (j : Nat) (M : MS) (F : Fk j M) : ∃ t M', f__law_right [.loc j] M = some (.d t (.bool true), M') := by
  obtain ⟨t, x, M', h1, ⟨r, hr, rfl⟩, F'⟩ := k_law_right j ok_right [.loc j] M (.cons rfl .nil) F
  obtain ⟨l, hl, q, hq, v, hv, w, hw, k, hk, rfl⟩ := hr
  have g := row_gr hl
  rw [end_true g (bars_ok g hv hw hk)] at h1
  exact ⟨t, M', h1⟩
theorem law_ok : ∀ ns : List Int, ns.length ≤ 63 → ∃ t M', f_law [.s (ns.map PyData.int)] [] = some (.d t (.bool true), M') := law_true right_true

end K15
namespace K15
open PySem PySem.Spec PyProof.Rows L2 Ek
theorem glob0 {P : Program} {w : World} {K : PySem.W.Frag} {mg : Str → Option Value} {base : Heap} (c0 : ∃ u v, mg "ZERO" = some u ∧ RelV v u ∧ ∀ H, Dq (kk false K) H v (.tuple [.int 0, .int 1])) (c1 : ∃ u v, mg "ONE" = some u ∧ RelV v u ∧ ∀ H, Dq (kk false K) H v (.tuple [.int 1, .int 1])) (c2 : ∃ u v, mg "MOST_PAIRS" = some u ∧ RelV v u ∧ ∀ H, Dq (kk true K) H v (.int 64)) (c3 : ∃ u v, mg "MOST_DRAWS" = some u ∧ RelV v u ∧ ∀ H, Dq (kk true K) H v (.int 6)) (b0 : mg "abs" = none) (b1 : mg "all" = none) (b2 : mg "bool" = none) (b3 : mg "divmod" = none) (b4 : mg "int" = none) (b5 : mg "isinstance" = none) (b6 : mg "len" = none) (b7 : mg "max" = none) (b8 : mg "min" = none) (b9 : mg "range" = none) (b10 : mg "set" = none) (b11 : mg "sorted" = none) (b12 : mg "tuple" = none) : Glob P w K mg base G0 0 := by
  refine ⟨fun x fe h => (by cases h), fun x t d h => ?_, fun x h => ?_⟩
  · simp only [G0] at h
    rw [List.lookup_cons] at h
    split at h
    · rename_i hb; cases h; rw [eq_of_beq hb]; exact c0
    rw [List.lookup_cons] at h
    split at h
    · rename_i hb; cases h; rw [eq_of_beq hb]; exact c1
    rw [List.lookup_cons] at h
    split at h
    · rename_i hb; cases h; rw [eq_of_beq hb]; exact c2
    rw [List.lookup_cons] at h
    split at h
    · rename_i hb; cases h; rw [eq_of_beq hb]; exact c3
    cases h
  · simp only [G0, List.contains_cons, List.contains_nil, Bool.or_false, Bool.or_eq_true] at h
    rcases h with h | h | h | h | h | h | h | h | h | h | h | h | h
    · rw [eq_of_beq h]; exact b0
    · rw [eq_of_beq h]; exact b1
    · rw [eq_of_beq h]; exact b2
    · rw [eq_of_beq h]; exact b3
    · rw [eq_of_beq h]; exact b4
    · rw [eq_of_beq h]; exact b5
    · rw [eq_of_beq h]; exact b6
    · rw [eq_of_beq h]; exact b7
    · rw [eq_of_beq h]; exact b8
    · rw [eq_of_beq h]; exact b9
    · rw [eq_of_beq h]; exact b10
    · rw [eq_of_beq h]; exact b11
    · rw [eq_of_beq h]; exact b12
theorem glob {P : Program} {w : World} {K : PySem.W.Frag} {mg : Str → Option Value} {base : Heap} (d0 : DefOk K mg "is_between" "is_between" (topS 8)) (d1 : DefOk K mg "common" "common" (topS 9)) (d2 : DefOk K mg "lowest" "lowest" (topS 10)) (d3 : DefOk K mg "is_fraction" "is_fraction" (topS 11)) (d4 : DefOk K mg "add" "add" (topS 12)) (d5 : DefOk K mg "less" "less" (topS 13)) (d6 : DefOk K mg "times" "times" (topS 14)) (d7 : DefOk K mg "is_below" "is_below" (topS 15)) (d8 : DefOk K mg "greater" "greater" (topS 16)) (d9 : DefOk K mg "total" "total" (topS 17)) (d10 : DefOk K mg "is_chance" "is_chance" (topS 18)) (d11 : DefOk K mg "are_rising" "are_rising" (topS 19)) (d12 : DefOk K mg "is_pair" "is_pair" (topS 23)) (d13 : DefOk K mg "is_draw" "is_draw" (topS 24)) (d14 : DefOk K mg "check_draw" "check_draw" (topS 25)) (d15 : DefOk K mg "check_number" "check_number" (topS 26)) (d16 : DefOk K mg "are_draws" "are_draws" (topS 27)) (d17 : DefOk K mg "weighed" "weighed" (topS 28)) (d18 : DefOk K mg "mean_of" "mean_of" (topS 29)) (d19 : DefOk K mg "excess_of" "excess_of" (topS 30)) (d20 : DefOk K mg "mean" "mean" (topS 31)) (d21 : DefOk K mg "is_row" "is_row" (topS 33)) (d22 : DefOk K mg "check_row" "check_row" (topS 34)) (d23 : DefOk K mg "check_row_rest" "check_row_rest" (topS 35)) (d24 : DefOk K mg "worths_of" "worths_of" (topS 36)) (d25 : DefOk K mg "worths_behind" "worths_behind" (topS 37)) (d26 : DefOk K mg "worths_from" "worths_from" (topS 38)) (d27 : DefOk K mg "bar_worth" "bar_worth" (topS 39)) (d28 : DefOk K mg "_law_flask" "_law_flask" (topS 41)) (d29 : DefOk K mg "_law_pour" "_law_pour" (topS 42)) (d30 : DefOk K mg "_law_pick" "_law_pick" (topS 43)) (d31 : DefOk K mg "_law_low" "_law_low" (topS 44)) (d32 : DefOk K mg "_law_plus" "_law_plus" (topS 45)) (d33 : DefOk K mg "_law_times" "_law_times" (topS 46)) (d34 : DefOk K mg "_law_below" "_law_below" (topS 47)) (d35 : DefOk K mg "_law_sum" "_law_sum" (topS 48)) (d36 : DefOk K mg "_law_draw" "_law_draw" (topS 49)) (d37 : DefOk K mg "_law_row" "_law_row" (topS 50)) (d38 : DefOk K mg "_law_rest" "_law_rest" (topS 51)) (d39 : DefOk K mg "_law_outcomes" "_law_outcomes" (topS 52)) (d40 : DefOk K mg "_law_first" "_law_first" (topS 53)) (d41 : DefOk K mg "_law_right" "_law_right" (topS 54)) (c0 : ∃ u v, mg "ZERO" = some u ∧ RelV v u ∧ ∀ H, Dq (kk false K) H v (.tuple [.int 0, .int 1])) (c1 : ∃ u v, mg "ONE" = some u ∧ RelV v u ∧ ∀ H, Dq (kk false K) H v (.tuple [.int 1, .int 1])) (c2 : ∃ u v, mg "MOST_PAIRS" = some u ∧ RelV v u ∧ ∀ H, Dq (kk true K) H v (.int 64)) (c3 : ∃ u v, mg "MOST_DRAWS" = some u ∧ RelV v u ∧ ∀ H, Dq (kk true K) H v (.int 6)) (b0 : mg "abs" = none) (b1 : mg "all" = none) (b2 : mg "bool" = none) (b3 : mg "divmod" = none) (b4 : mg "int" = none) (b5 : mg "isinstance" = none) (b6 : mg "len" = none) (b7 : mg "max" = none) (b8 : mg "min" = none) (b9 : mg "range" = none) (b10 : mg "set" = none) (b11 : mg "sorted" = none) (b12 : mg "tuple" = none) : Glob P w K mg base G42 42 := by
  have g0 : Glob P w K mg base G0 0 := glob0 c0 c1 c2 c3 b0 b1 b2 b3 b4 b5 b6 b7 b8 b9 b10 b11 b12
  have g1 : Glob P w K mg base G1 1 := g0.def ⟨[], false⟩ 60 _ d0 sc_f_is_between bd_f_is_between kwNone eq_f_is_between
  have g2 : Glob P w K mg base G2 2 := g1.def ⟨[], false⟩ 60 _ d1 sc_f_common bd_f_common kwNone eq_f_common
  have g3 : Glob P w K mg base G3 3 := g2.def ⟨[], false⟩ 60 _ d2 sc_f_lowest bd_f_lowest kwNone eq_f_lowest
  have g4 : Glob P w K mg base G4 4 := g3.def ⟨[], false⟩ 60 _ d3 sc_f_is_fraction bd_f_is_fraction kwNone eq_f_is_fraction
  have g5 : Glob P w K mg base G5 5 := g4.def ⟨[], false⟩ 60 _ d4 sc_f_add bd_f_add kwNone eq_f_add
  have g6 : Glob P w K mg base G6 6 := g5.def ⟨[], false⟩ 60 _ d5 sc_f_less bd_f_less kwNone eq_f_less
  have g7 : Glob P w K mg base G7 7 := g6.def ⟨[], false⟩ 60 _ d6 sc_f_times bd_f_times kwNone eq_f_times
  have g8 : Glob P w K mg base G8 8 := g7.def ⟨[], false⟩ 60 _ d7 sc_f_is_below bd_f_is_below kwNone eq_f_is_below
  have g9 : Glob P w K mg base G9 9 := g8.def ⟨[], false⟩ 60 _ d8 sc_f_greater bd_f_greater kwNone eq_f_greater
  have g10 : Glob P w K mg base G10 10 := g9.def ⟨[], false⟩ 60 _ d9 sc_f_total bd_f_total kwNone eq_f_total
  have g11 : Glob P w K mg base G11 11 := g10.def ⟨[], false⟩ 60 _ d10 sc_f_is_chance bd_f_is_chance kwNone eq_f_is_chance
  have g12 : Glob P w K mg base G12 12 := g11.def ⟨[], false⟩ 60 _ d11 sc_f_are_rising bd_f_are_rising kwNone eq_f_are_rising
  have g13 : Glob P w K mg base G13 13 := g12.def ⟨[], false⟩ 60 _ d12 sc_f_is_pair bd_f_is_pair kwNone eq_f_is_pair
  have g14 : Glob P w K mg base G14 14 := g13.def ⟨[], false⟩ 60 _ d13 sc_f_is_draw bd_f_is_draw kwNone eq_f_is_draw
  have g15 : Glob P w K mg base G15 15 := g14.def ⟨[], false⟩ 60 _ d14 sc_f_check_draw bd_f_check_draw kwNone eq_f_check_draw
  have g16 : Glob P w K mg base G16 16 := g15.def ⟨[], false⟩ 60 _ d15 sc_f_check_number bd_f_check_number kwNone eq_f_check_number
  have g17 : Glob P w K mg base G17 17 := g16.def ⟨[], false⟩ 60 _ d16 sc_f_are_draws bd_f_are_draws kwNone eq_f_are_draws
  have g18 : Glob P w K mg base G18 18 := g17.def ⟨[], false⟩ 60 _ d17 sc_f_weighed bd_f_weighed kwNone eq_f_weighed
  have g19 : Glob P w K mg base G19 19 := g18.def ⟨[], false⟩ 60 _ d18 sc_f_mean_of bd_f_mean_of kwNone eq_f_mean_of
  have g20 : Glob P w K mg base G20 20 := g19.def ⟨[], false⟩ 60 _ d19 sc_f_excess_of bd_f_excess_of kwNone eq_f_excess_of
  have g21 : Glob P w K mg base G21 21 := g20.def ⟨[], false⟩ 60 _ d20 sc_f_mean bd_f_mean kwNone eq_f_mean
  have g22 : Glob P w K mg base G22 22 := g21.def ⟨[], false⟩ 60 _ d21 sc_f_is_row bd_f_is_row kwNone eq_f_is_row
  have g23 : Glob P w K mg base G23 23 := g22.def ⟨[], false⟩ 60 _ d22 sc_f_check_row bd_f_check_row kwNone eq_f_check_row
  have g24 : Glob P w K mg base G24 24 := g23.def ⟨[], false⟩ 60 _ d23 sc_f_check_row_rest bd_f_check_row_rest kwNone eq_f_check_row_rest
  have g25 : Glob P w K mg base G25 25 := g24.def ⟨["found"], false⟩ 60 _ d24 sc_f_worths_of bd_f_worths_of kwNone eq_f_worths_of
  have g26 : Glob P w K mg base G26 26 := g25.def ⟨[], false⟩ 60 _ d25 sc_f_worths_behind bd_f_worths_behind kwNone eq_f_worths_behind
  have g27 : Glob P w K mg base G27 27 := g26.def ⟨[], false⟩ 60 _ d26 sc_f_worths_from bd_f_worths_from kwNone eq_f_worths_from
  have g28 : Glob P w K mg base G28 28 := g27.def ⟨[], false⟩ 60 _ d27 sc_f_bar_worth bd_f_bar_worth (kwOne bk_f_bar_worth_0 kwNone) eq_f_bar_worth
  have g29 : Glob P w K mg base G29 29 := g28.def ⟨[], true⟩ 60 _ d28 sc_f__law_flask bd_f__law_flask kwNone eq_f__law_flask
  have g30 : Glob P w K mg base G30 30 := g29.def ⟨[], false⟩ 60 _ d29 sc_f__law_pour bd_f__law_pour kwNone eq_f__law_pour
  have g31 : Glob P w K mg base G31 31 := g30.def ⟨[], false⟩ 60 _ d30 sc_f__law_pick bd_f__law_pick kwNone eq_f__law_pick
  have g32 : Glob P w K mg base G32 32 := g31.def ⟨[], false⟩ 60 _ d31 sc_f__law_low bd_f__law_low kwNone eq_f__law_low
  have g33 : Glob P w K mg base G33 33 := g32.def ⟨[], false⟩ 60 _ d32 sc_f__law_plus bd_f__law_plus kwNone eq_f__law_plus
  have g34 : Glob P w K mg base G34 34 := g33.def ⟨[], false⟩ 60 _ d33 sc_f__law_times bd_f__law_times kwNone eq_f__law_times
  have g35 : Glob P w K mg base G35 35 := g34.def ⟨[], false⟩ 60 _ d34 sc_f__law_below bd_f__law_below kwNone eq_f__law_below
  have g36 : Glob P w K mg base G36 36 := g35.def ⟨[], false⟩ 60 _ d35 sc_f__law_sum bd_f__law_sum kwNone eq_f__law_sum
  have g37 : Glob P w K mg base G37 37 := g36.def ⟨[], false⟩ 60 _ d36 sc_f__law_draw bd_f__law_draw kwNone eq_f__law_draw
  have g38 : Glob P w K mg base G38 38 := g37.def ⟨[], false⟩ 60 _ d37 sc_f__law_row bd_f__law_row kwNone eq_f__law_row
  have g39 : Glob P w K mg base G39 39 := g38.def ⟨[], false⟩ 60 _ d38 sc_f__law_rest bd_f__law_rest kwNone eq_f__law_rest
  have g40 : Glob P w K mg base G40 40 := g39.def ⟨[], false⟩ 60 _ d39 sc_f__law_outcomes bd_f__law_outcomes kwNone eq_f__law_outcomes
  have g41 : Glob P w K mg base G41 41 := g40.def ⟨[], false⟩ 60 _ d40 sc_f__law_first bd_f__law_first kwNone eq_f__law_first
  have g42 : Glob P w K mg base G42 42 := g41.def ⟨[], false⟩ 60 _ d41 sc_f__law_right bd_f__law_right kwNone eq_f__law_right
  exact g42
theorem all_mk {l : PySem.W.OpenLaw} {w : World} {K : PySem.W.Frag} {h : Heap} {mg : Str → Option Value} {fa : Addr} (X : K.In h) (G : h.Ns mainGlobals mg) (hfa : mg "law" = some (.ref fa)) (d0 : DefOk K mg "is_between" "is_between" (topS 8)) (d1 : DefOk K mg "common" "common" (topS 9)) (d2 : DefOk K mg "lowest" "lowest" (topS 10)) (d3 : DefOk K mg "is_fraction" "is_fraction" (topS 11)) (d4 : DefOk K mg "add" "add" (topS 12)) (d5 : DefOk K mg "less" "less" (topS 13)) (d6 : DefOk K mg "times" "times" (topS 14)) (d7 : DefOk K mg "is_below" "is_below" (topS 15)) (d8 : DefOk K mg "greater" "greater" (topS 16)) (d9 : DefOk K mg "total" "total" (topS 17)) (d10 : DefOk K mg "is_chance" "is_chance" (topS 18)) (d11 : DefOk K mg "are_rising" "are_rising" (topS 19)) (d12 : DefOk K mg "is_pair" "is_pair" (topS 23)) (d13 : DefOk K mg "is_draw" "is_draw" (topS 24)) (d14 : DefOk K mg "check_draw" "check_draw" (topS 25)) (d15 : DefOk K mg "check_number" "check_number" (topS 26)) (d16 : DefOk K mg "are_draws" "are_draws" (topS 27)) (d17 : DefOk K mg "weighed" "weighed" (topS 28)) (d18 : DefOk K mg "mean_of" "mean_of" (topS 29)) (d19 : DefOk K mg "excess_of" "excess_of" (topS 30)) (d20 : DefOk K mg "mean" "mean" (topS 31)) (d21 : DefOk K mg "is_row" "is_row" (topS 33)) (d22 : DefOk K mg "check_row" "check_row" (topS 34)) (d23 : DefOk K mg "check_row_rest" "check_row_rest" (topS 35)) (d24 : DefOk K mg "worths_of" "worths_of" (topS 36)) (d25 : DefOk K mg "worths_behind" "worths_behind" (topS 37)) (d26 : DefOk K mg "worths_from" "worths_from" (topS 38)) (d27 : DefOk K mg "bar_worth" "bar_worth" (topS 39)) (d28 : DefOk K mg "_law_flask" "_law_flask" (topS 41)) (d29 : DefOk K mg "_law_pour" "_law_pour" (topS 42)) (d30 : DefOk K mg "_law_pick" "_law_pick" (topS 43)) (d31 : DefOk K mg "_law_low" "_law_low" (topS 44)) (d32 : DefOk K mg "_law_plus" "_law_plus" (topS 45)) (d33 : DefOk K mg "_law_times" "_law_times" (topS 46)) (d34 : DefOk K mg "_law_below" "_law_below" (topS 47)) (d35 : DefOk K mg "_law_sum" "_law_sum" (topS 48)) (d36 : DefOk K mg "_law_draw" "_law_draw" (topS 49)) (d37 : DefOk K mg "_law_row" "_law_row" (topS 50)) (d38 : DefOk K mg "_law_rest" "_law_rest" (topS 51)) (d39 : DefOk K mg "_law_outcomes" "_law_outcomes" (topS 52)) (d40 : DefOk K mg "_law_first" "_law_first" (topS 53)) (d41 : DefOk K mg "_law_right" "_law_right" (topS 54)) (c0 : ∃ u v, mg "ZERO" = some u ∧ RelV v u ∧ ∀ H, Dq (kk false K) H v (.tuple [.int 0, .int 1])) (c1 : ∃ u v, mg "ONE" = some u ∧ RelV v u ∧ ∀ H, Dq (kk false K) H v (.tuple [.int 1, .int 1])) (c2 : ∃ u v, mg "MOST_PAIRS" = some u ∧ RelV v u ∧ ∀ H, Dq (kk true K) H v (.int 64)) (c3 : ∃ u v, mg "MOST_DRAWS" = some u ∧ RelV v u ∧ ∀ H, Dq (kk true K) H v (.int 6)) (b0 : mg "abs" = none) (b1 : mg "all" = none) (b2 : mg "bool" = none) (b3 : mg "divmod" = none) (b4 : mg "int" = none) (b5 : mg "isinstance" = none) (b6 : mg "len" = none) (b7 : mg "max" = none) (b8 : mg "min" = none) (b9 : mg "range" = none) (b10 : mg "set" = none) (b11 : mg "sorted" = none) (b12 : mg "tuple" = none) (dl : DefOk K mg "law" "law" (topS 55)) :
    ∃ fd : FuncData, (∀ (s : Shared) (v : Value), BindsTo s fd ⟨[v], []⟩ [("_law_script", v)]) ∧ ∀ base : Heap, K.In base → base.Ns mainGlobals mg → FnOk l.prog w K mg base CX0 43 fa fd ["_law_script"] (spOf K 1 f_law) := by
  obtain ⟨f, fd, hm, F⟩ := dl
  have e := hfa.symm.trans hm
  cases e
  obtain ⟨oc, od, kV, doc, pm, an, cdv, ct, osl, rfl, lk, hcd⟩ := id F.ex
  refine ⟨_, fun s v => .of_eq (bd_f_law kV doc pm an cdv ct [v] rfl), fun base _ _ => ?_⟩
  exact Glob.law (y := "law") (glob d0 d1 d2 d3 d4 d5 d6 d7 d8 d9 d10 d11 d12 d13 d14 d15 d16 d17 d18 d19 d20 d21 d22 d23 d24 d25 d26 d27 d28 d29 d30 d31 d32 d33 d34 d35 d36 d37 d38 d39 d40 d41 c0 c1 c2 c3 b0 b1 b2 b3 b4 b5 b6 b7 b8 b9 b10 b11 b12) ⟨[], false⟩ 60 F sc_f_law eq_f_law
end K15
open PySem PySem.W PyProof.Rows
set_option maxHeartbeats 0 in
theorem PySem.Challenge.cw_placeworths_k15_whole_one_bar_for_all_holds : PySem.Challenge.rw_placeworths_k15_whole_one_bar_for_all.Holds := by
  w_on; o_law; k_head; (case hw => w_witness2)
  k_fill
  refine L2.walk_of (l := PySem.Challenge.rw_placeworths_k15_whole_one_bar_for_all) (n := 63) (k := 43) (x := "_law_script") (CX := fun _ => L2.CX0) (sp := fun w => Ek.spOf _ 1 K15.f_law) rfl (by decide) rfl ⟨rfl, by decide, by decide⟩ (fun w h Y => PySem.W.kIn_of Y) ?F (fun _ _ a ns hl _ hS => (by obtain ⟨t, M, h⟩ := K15.law_ok ns hl; exact Ek.law_sp hS h)) (fun _ _ _ _ _ h => h)
  case F =>
    intro w mg fa h KX G hmg
    refine' K15.all_mk KX G hmg ?d0 ?d1 ?d2 ?d3 ?d4 ?d5 ?d6 ?d7 ?d8 ?d9 ?d10 ?d11 ?d12 ?d13 ?d14 ?d15 ?d16 ?d17 ?d18 ?d19 ?d20 ?d21 ?d22 ?d23 ?d24 ?d25 ?d26 ?d27 ?d28 ?d29 ?d30 ?d31 ?d32 ?d33 ?d34 ?d35 ?d36 ?d37 ?d38 ?d39 ?d40 ?d41 ?c0 ?c1 ?c2 ?c3 ?b0 ?b1 ?b2 ?b3 ?b4 ?b5 ?b6 ?b7 ?b8 ?b9 ?b10 ?b11 ?b12 ?dl
    (case d0 => (refine' Ek.def_mk KX G ?a ?l ?c ?kp; (case a => k_is); (case l => k_is); (case c => k_is); (case kp => k_is)))
    (case d1 => (refine' Ek.def_mk KX G ?a ?l ?c ?kp; (case a => k_is); (case l => k_is); (case c => k_is); (case kp => k_is)))
    (case d2 => (refine' Ek.def_mk KX G ?a ?l ?c ?kp; (case a => k_is); (case l => k_is); (case c => k_is); (case kp => k_is)))
    (case d3 => (refine' Ek.def_mk KX G ?a ?l ?c ?kp; (case a => k_is); (case l => k_is); (case c => k_is); (case kp => k_is)))
    (case d4 => (refine' Ek.def_mk KX G ?a ?l ?c ?kp; (case a => k_is); (case l => k_is); (case c => k_is); (case kp => k_is)))
    (case d5 => (refine' Ek.def_mk KX G ?a ?l ?c ?kp; (case a => k_is); (case l => k_is); (case c => k_is); (case kp => k_is)))
    (case d6 => (refine' Ek.def_mk KX G ?a ?l ?c ?kp; (case a => k_is); (case l => k_is); (case c => k_is); (case kp => k_is)))
    (case d7 => (refine' Ek.def_mk KX G ?a ?l ?c ?kp; (case a => k_is); (case l => k_is); (case c => k_is); (case kp => k_is)))
    (case d8 => (refine' Ek.def_mk KX G ?a ?l ?c ?kp; (case a => k_is); (case l => k_is); (case c => k_is); (case kp => k_is)))
    (case d9 => (refine' Ek.def_mk KX G ?a ?l ?c ?kp; (case a => k_is); (case l => k_is); (case c => k_is); (case kp => k_is)))
    (case d10 => (refine' Ek.def_mk KX G ?a ?l ?c ?kp; (case a => k_is); (case l => k_is); (case c => k_is); (case kp => k_is)))
    (case d11 => (refine' Ek.def_mk KX G ?a ?l ?c ?kp; (case a => k_is); (case l => k_is); (case c => k_is); (case kp => k_is)))
    (case d12 => (refine' Ek.def_mk KX G ?a ?l ?c ?kp; (case a => k_is); (case l => k_is); (case c => k_is); (case kp => k_is)))
    (case d13 => (refine' Ek.def_mk KX G ?a ?l ?c ?kp; (case a => k_is); (case l => k_is); (case c => k_is); (case kp => k_is)))
    (case d14 => (refine' Ek.def_mk KX G ?a ?l ?c ?kp; (case a => k_is); (case l => k_is); (case c => k_is); (case kp => k_is)))
    (case d15 => (refine' Ek.def_mk KX G ?a ?l ?c ?kp; (case a => k_is); (case l => k_is); (case c => k_is); (case kp => k_is)))
    (case d16 => (refine' Ek.def_mk KX G ?a ?l ?c ?kp; (case a => k_is); (case l => k_is); (case c => k_is); (case kp => k_is)))
    (case d17 => (refine' Ek.def_mk KX G ?a ?l ?c ?kp; (case a => k_is); (case l => k_is); (case c => k_is); (case kp => k_is)))
    (case d18 => (refine' Ek.def_mk KX G ?a ?l ?c ?kp; (case a => k_is); (case l => k_is); (case c => k_is); (case kp => k_is)))
    (case d19 => (refine' Ek.def_mk KX G ?a ?l ?c ?kp; (case a => k_is); (case l => k_is); (case c => k_is); (case kp => k_is)))
    (case d20 => (refine' Ek.def_mk KX G ?a ?l ?c ?kp; (case a => k_is); (case l => k_is); (case c => k_is); (case kp => k_is)))
    (case d21 => (refine' Ek.def_mk KX G ?a ?l ?c ?kp; (case a => k_is); (case l => k_is); (case c => k_is); (case kp => k_is)))
    (case d22 => (refine' Ek.def_mk KX G ?a ?l ?c ?kp; (case a => k_is); (case l => k_is); (case c => k_is); (case kp => k_is)))
    (case d23 => (refine' Ek.def_mk KX G ?a ?l ?c ?kp; (case a => k_is); (case l => k_is); (case c => k_is); (case kp => k_is)))
    (case d24 => (refine' Ek.def_mk KX G ?a ?l ?c ?kp; (case a => k_is); (case l => k_is); (case c => k_is); (case kp => k_is)))
    (case d25 => (refine' Ek.def_mk KX G ?a ?l ?c ?kp; (case a => k_is); (case l => k_is); (case c => k_is); (case kp => k_is)))
    (case d26 => (refine' Ek.def_mk KX G ?a ?l ?c ?kp; (case a => k_is); (case l => k_is); (case c => k_is); (case kp => k_is)))
    (case d27 => (refine' Ek.def_mk KX G ?a ?l ?c ?kp; (case a => k_is); (case l => k_is); (case c => k_is); (case kp => k_is)))
    (case d28 => (refine' Ek.def_mk KX G ?a ?l ?c ?kp; (case a => k_is); (case l => k_is); (case c => k_is); (case kp => k_is)))
    (case d29 => (refine' Ek.def_mk KX G ?a ?l ?c ?kp; (case a => k_is); (case l => k_is); (case c => k_is); (case kp => k_is)))
    (case d30 => (refine' Ek.def_mk KX G ?a ?l ?c ?kp; (case a => k_is); (case l => k_is); (case c => k_is); (case kp => k_is)))
    (case d31 => (refine' Ek.def_mk KX G ?a ?l ?c ?kp; (case a => k_is); (case l => k_is); (case c => k_is); (case kp => k_is)))
    (case d32 => (refine' Ek.def_mk KX G ?a ?l ?c ?kp; (case a => k_is); (case l => k_is); (case c => k_is); (case kp => k_is)))
    (case d33 => (refine' Ek.def_mk KX G ?a ?l ?c ?kp; (case a => k_is); (case l => k_is); (case c => k_is); (case kp => k_is)))
    (case d34 => (refine' Ek.def_mk KX G ?a ?l ?c ?kp; (case a => k_is); (case l => k_is); (case c => k_is); (case kp => k_is)))
    (case d35 => (refine' Ek.def_mk KX G ?a ?l ?c ?kp; (case a => k_is); (case l => k_is); (case c => k_is); (case kp => k_is)))
    (case d36 => (refine' Ek.def_mk KX G ?a ?l ?c ?kp; (case a => k_is); (case l => k_is); (case c => k_is); (case kp => k_is)))
    (case d37 => (refine' Ek.def_mk KX G ?a ?l ?c ?kp; (case a => k_is); (case l => k_is); (case c => k_is); (case kp => k_is)))
    (case d38 => (refine' Ek.def_mk KX G ?a ?l ?c ?kp; (case a => k_is); (case l => k_is); (case c => k_is); (case kp => k_is)))
    (case d39 => (refine' Ek.def_mk KX G ?a ?l ?c ?kp; (case a => k_is); (case l => k_is); (case c => k_is); (case kp => k_is)))
    (case d40 => (refine' Ek.def_mk KX G ?a ?l ?c ?kp; (case a => k_is); (case l => k_is); (case c => k_is); (case kp => k_is)))
    (case d41 => (refine' Ek.def_mk KX G ?a ?l ?c ?kp; (case a => k_is); (case l => k_is); (case c => k_is); (case kp => k_is)))
    (case c0 => (refine' Ek.cstT KX G ?a ?l; (case a => k_is); (case l => k_is)))
    (case c1 => (refine' Ek.cstT KX G ?a ?l; (case a => k_is); (case l => k_is)))
    (case c2 => (refine' Ek.cstI KX G ?a; (case a => k_is)))
    (case c3 => (refine' Ek.cstI KX G ?a; (case a => k_is)))
    (case b0 => exact PySem.W.mg_none_of KX G (by k_is))
    (case b1 => exact PySem.W.mg_none_of KX G (by k_is))
    (case b2 => exact PySem.W.mg_none_of KX G (by k_is))
    (case b3 => exact PySem.W.mg_none_of KX G (by k_is))
    (case b4 => exact PySem.W.mg_none_of KX G (by k_is))
    (case b5 => exact PySem.W.mg_none_of KX G (by k_is))
    (case b6 => exact PySem.W.mg_none_of KX G (by k_is))
    (case b7 => exact PySem.W.mg_none_of KX G (by k_is))
    (case b8 => exact PySem.W.mg_none_of KX G (by k_is))
    (case b9 => exact PySem.W.mg_none_of KX G (by k_is))
    (case b10 => exact PySem.W.mg_none_of KX G (by k_is))
    (case b11 => exact PySem.W.mg_none_of KX G (by k_is))
    (case b12 => exact PySem.W.mg_none_of KX G (by k_is))
    (case dl => (refine' Ek.def_mk KX G ?a ?l ?c ?kp; (case a => k_is); (case l => k_is); (case c => k_is); (case kp => k_is)))
