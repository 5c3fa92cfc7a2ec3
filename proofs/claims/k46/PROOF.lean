import PyProof.Rows.All
import Wide.All
import OpenK.AllK
import Wide.FinOn
import HandS.ForMost
import HandS.Star
import HandS.Zip
import HandS.Wide
import HandS.Conv
import HandS.TupMul
import HandS.TupAny
import HandS.Style
import HandS.IsInst
import KE.GoesNew
import PyProof.SumWalkG
import PyProof.WalksMore
import HandS.ForList
import KE.DatumOrd
import KE.KIndexOf
import KE.GoesMore
import KE.GoesEnum
import HandS.TupSets
import HandS.Exc
import HandS.TryOnly
import HandS.CallLocal
import HandS.Ends
import PyProof.ReprRoads
import PyProof.ReprLen
import PyProof.P3Eq
import HandS.Iter
import PySem.Challenge.RW_servedever_k46_whole_arrivals_put_togeth
set_option Elab.async false
set_option linter.all false
set_option maxRecDepth 100000
set_option maxHeartbeats 2000000
/-! DL: values as data, the heap hidden. -/
namespace DL
open PySem PySem.Spec PyProof.Rows L2

section
variable {K : PySem.W.Frag} {H H' : Hp}
theorem seqT (e : Same H H') {a : Addr} {xs : List V} (h : SqT K H a xs) : SqT K H' a xs := by
  rcases h with (h | ⟨o, h⟩) | h
  · exact .inl (.inl (e _ _ h))
  · exact .inl (.inr ⟨o, e _ _ h⟩)
  · exact .inr h
mutual
theorem dp_mono (e : Same H H') : ∀ (d : PyData) (v : V), Dp K H v d → Dp K H' v d
  | .none, _, h => by cases h; exact .non
  | .bool b, _, h => by cases h; exact .bl _
  | .int i, _, h => by cases h; exact .int _
  | .str x, _, h => by cases h; exact .str _
  | .list ds, _, h => by
    cases h with
    | lst hs ha => exact .lst (e.seq hs) (dpa_mono e ds _ ha)
  | .tuple ds, _, h => by
    cases h with
    | tup hs ha => exact .tup (seqT e hs) (dpa_mono e ds _ ha)
  | .dict _, _, h => by cases h
theorem dpa_mono (e : Same H H') : ∀ (ds : List PyData) (vs : List V), DpAll K H vs ds → DpAll K H' vs ds
  | [], _, h => by cases h; exact .nil
  | d :: ds, _, h => by
    cases h with
    | cons h1 h2 => exact .cons (dp_mono e d _ h1) (dpa_mono e ds _ h2)
end
theorem dpa_len : ∀ {vs : List V} {ds : List PyData}, DpAll K H vs ds → vs.length = ds.length
  | _, _, .nil => rfl
  | _, _, .cons _ t => by simp [dpa_len t]
theorem dpa_get : ∀ {vs : List V} {ds : List PyData} {i : Nat} {d : PyData}, DpAll K H vs ds → ds[i]? = some d → ∃ v, vs[i]? = some v ∧ Dp K H v d
  | _, _, _, _, .nil, e => by simp at e
  | _, _, 0, _, .cons r _, e => by simp at e; subst e; exact ⟨_, rfl, r⟩
  | _, _, i + 1, d, .cons _ t, e => by
    obtain ⟨v, h1, h2⟩ := dpa_get (i := i) (d := d) t (by simpa using e)
    exact ⟨v, by simpa using h1, h2⟩
theorem dpa_get' : ∀ {vs : List V} {ds : List PyData} {i : Nat} {v : V}, DpAll K H vs ds → vs[i]? = some v → ∃ d, ds[i]? = some d ∧ Dp K H v d
  | _, _, _, _, .nil, e => by simp at e
  | _, _, 0, _, .cons r _, e => by simp at e; subst e; exact ⟨_, rfl, r⟩
  | _, _, i + 1, v, .cons _ t, e => by
    obtain ⟨d, h1, h2⟩ := dpa_get' (i := i) (v := v) t (by simpa using e)
    exact ⟨d, by simpa using h1, h2⟩
theorem dpa_app : ∀ {vs ws : List V} {ds es : List PyData}, DpAll K H vs ds → DpAll K H ws es → DpAll K H (vs ++ ws) (ds ++ es)
  | _, _, _, _, .nil, h => h
  | _, _, _, _, .cons r t, h => .cons r (dpa_app t h)
end

/-! ### what a slot holds -/
inductive Fd where
  | d (x : PyData)
  | own (a : Addr) (xs : List PyData)
inductive Ob where
  | lst (xs : List PyData)
  | ins (C dx : Addr) (fs : List (Str × Fd))
  /-- a list of one's own lists -/
  | rws (bs : List (Addr × List PyData))
  /-- a dict by tuples of ints -/
  | dct (kvs : List (List Int × PyData))
inductive Sl where
  | un
  | raw (v : V)
  | d (x : PyData)
  | o (a : Addr) (ob : Ob)
  | fz (a : Addr) (ob : Ob)

def footF : List (Str × Fd) → List Addr
  | [] => []
  | (_, .d _) :: r => footF r
  | (_, .own a _) :: r => a :: footF r
def foot : Sl → List Addr
  | .o a (.lst _) => [a]
  | .o a (.ins _ _ fs) => a :: footF fs
  | .o a (.rws bs) => a :: bs.map (·.1)
  | .o a (.dct _) => [a]
  | _ => []
def feet (ρ : List Sl) : List Addr := ρ.flatMap foot

def Flds (K : PySem.W.Frag) (F H : Hp) : List (Str × V) → List (Str × Fd) → Prop
  | [], [] => True
  | (n, v) :: r, (m, .d x) :: s => n = m ∧ Dp K F v x ∧ Flds K F H r s
  | (n, v) :: r, (m, .own b xs) :: s => n = m ∧ v = .ref b ∧ (∃ us, H b = some (.lst us) ∧ DpAll K F us xs) ∧ Flds K F H r s
  | _, _ => False
def ObOk (K : PySem.W.Frag) (F H : Hp) (a : Addr) : Ob → Prop
  | .lst xs => ∃ vs, H a = some (.lst vs) ∧ DpAll K F vs xs
  | .ins C dx fs => ∃ vfs, H a = some (.ins C dx vfs) ∧ Flds K F H vfs fs
  | .rws bs => H a = some (.lst (bs.map fun b => V.ref b.1)) ∧ ∀ b ∈ bs, ∃ us, H b.1 = some (.lst us) ∧ DpAll K F us b.2
  | .dct kvs => ∃ vs, H a = some (.dT ((kvs.map fun p => p.1.map Sum.inl).zip vs)) ∧ DpAll K F vs (kvs.map (·.2))
def SlOk (K : PySem.W.Frag) (F H : Hp) (s : Option V) : Sl → Prop
  | .un => True
  | .raw v => s = some v
  | .d x => ∃ v, s = some v ∧ Dp K F v x
  | .o a ob => s = some (.ref a) ∧ ObOk K F H a ob
  | .fz a ob => s = some (.ref a) ∧ ObOk K F F a ob

def look (σ : L2.St) (i : Nat) : Option V := match σ[i]? with
  | some (some v) => some v
  | _ => none
theorem look_some {σ : L2.St} {i : Nat} {v : V} (h : look σ i = some v) : σ[i]? = some (some v) := by
  unfold look at h
  split at h
  · rename_i w e
    rw [e, h]
  · cases h
theorem look_of {σ : L2.St} {i : Nat} {v : V} (h : σ[i]? = some (some v)) : look σ i = some v := by
  unfold look
  rw [h]

structure Rep (K : PySem.W.Frag) (G F H : Hp) (σ : L2.St) (ρ : List Sl) : Prop where
  fh : Same F H
  gh : Same G H
  fg : ∀ a, F a ≠ none → G a = none
  len : ρ.length = σ.length
  sl : ∀ i s, ρ[i]? = some s → SlOk K F H (look σ i) s
  nd : (feet ρ).Nodup
  ap : ∀ a ∈ feet ρ, F a = none ∧ G a = none

section
variable {K : PySem.W.Frag} {G F F' H H' : Hp} {σ : L2.St} {ρ : List Sl}

theorem flds_mono (e : Same F F') : ∀ {vfs : List (Str × V)} {fs : List (Str × Fd)}, (∀ a ∈ footF fs, ∀ o, H a = some o → H' a = some o) → Flds K F H vfs fs → Flds K F' H' vfs fs
  | [], [], _, _ => trivial
  | (n, v) :: r, (m, .d x) :: s, k, h => ⟨h.1, dp_mono e _ _ h.2.1, flds_mono e k h.2.2⟩
  | (n, v) :: r, (m, .own b xs) :: s, k, h => by
    obtain ⟨h1, h2, ⟨us, h3, h4⟩, h5⟩ := h
    exact ⟨h1, h2, ⟨us, k b (List.mem_cons_self ..) _ h3, dpa_mono e _ _ h4⟩, flds_mono e (fun a ha => k a (List.mem_cons_of_mem _ ha)) h5⟩
  | [], _ :: _, _, h => h.elim
  | _ :: _, [], _, h => by
    revert h
    simp [Flds]
theorem obOk_mono (e : Same F F') {a : Addr} {ob : Ob} (k : ∀ b ∈ foot (.o a ob), ∀ o, H b = some o → H' b = some o) (h : ObOk K F H a ob) : ObOk K F' H' a ob := by
  cases ob with
  | lst xs =>
    obtain ⟨vs, h1, h2⟩ := h
    exact ⟨vs, k a (List.mem_cons_self ..) _ h1, dpa_mono e _ _ h2⟩
  | ins C dx fs =>
    obtain ⟨vfs, h1, h2⟩ := h
    exact ⟨vfs, k a (List.mem_cons_self ..) _ h1, flds_mono e (fun b hb => k b (List.mem_cons_of_mem _ hb)) h2⟩
  | rws bs =>
    refine ⟨k a (List.mem_cons_self ..) _ h.1, fun b hb => ?_⟩
    obtain ⟨us, h1, h2⟩ := h.2 b hb
    exact ⟨us, k b.1 (List.mem_cons_of_mem _ (List.mem_map_of_mem hb)) _ h1, dpa_mono e _ _ h2⟩
  | dct kvs =>
    obtain ⟨vs, h1, h2⟩ := h
    exact ⟨vs, k a (List.mem_cons_self ..) _ h1, dpa_mono e _ _ h2⟩
theorem slOk_mono (e : Same F F') {s : Option V} {t : Sl} (k : ∀ b ∈ foot t, ∀ o, H b = some o → H' b = some o) (h : SlOk K F H s t) : SlOk K F' H' s t := by
  cases t with
  | un => trivial
  | raw v => exact h
  | d x => obtain ⟨v, h1, h2⟩ := h; exact ⟨v, h1, dp_mono e _ _ h2⟩
  | o a ob => exact ⟨h.1, obOk_mono e k h.2⟩
  | fz a ob => exact ⟨h.1, obOk_mono e (fun b _ o ho => e b o ho) h.2⟩
theorem mem_feet {i : Nat} {s : Sl} {a : Addr} (h : ρ[i]? = some s) (ha : a ∈ foot s) : a ∈ feet ρ :=
  List.mem_flatMap.mpr ⟨s, List.mem_of_getElem? h, ha⟩
theorem flds_some : ∀ {vfs : List (Str × V)} {fs : List (Str × Fd)} {a : Addr}, Flds K F H vfs fs → a ∈ footF fs → ∃ o, H a = some o
  | [], [], _, _, ha => by cases ha
  | (n, v) :: r, (m, .d x) :: s, _, h, ha => flds_some h.2.2 ha
  | (n, v) :: r, (m, .own b xs) :: s, a, h, ha => by
    obtain ⟨h1, h2, ⟨us, h3, h4⟩, h5⟩ := h
    rcases List.mem_cons.mp ha with e | ha
    · exact ⟨_, e ▸ h3⟩
    · exact flds_some h5 ha
  | [], _ :: _, _, h, _ => h.elim
  | _ :: _, [], _, h, _ => by
    revert h
    simp [Flds]
theorem slOk_some {s : Option V} {t : Sl} {a : Addr} (h : SlOk K F H s t) (ha : a ∈ foot t) : ∃ o, H a = some o := by
  cases t with
  | un => cases ha
  | raw v => cases ha
  | d x => cases ha
  | fz b ob => cases ha
  | o b ob =>
    cases ob with
    | lst xs =>
      obtain ⟨_, vs, h1, _⟩ := h
      rcases List.mem_cons.mp ha with e | ha
      · exact ⟨_, e ▸ h1⟩
      · cases ha
    | ins C dx fs =>
      obtain ⟨_, vfs, h1, h2⟩ := h
      rcases List.mem_cons.mp ha with e | ha
      · exact ⟨_, e ▸ h1⟩
      · exact flds_some h2 ha
    | rws bs =>
      obtain ⟨_, h1, h2⟩ := h
      rcases List.mem_cons.mp ha with e | ha
      · exact ⟨_, e ▸ h1⟩
      · obtain ⟨c, hc, rfl⟩ := List.mem_map.mp ha
        obtain ⟨us, h3, _⟩ := h2 c hc
        exact ⟨_, h3⟩
    | dct kvs =>
      obtain ⟨_, vs, h1, _⟩ := h
      rcases List.mem_cons.mp ha with e | ha
      · exact ⟨_, e ▸ h1⟩
      · cases ha
theorem Rep.there (R : Rep K G F H σ ρ) {a : Addr} (ha : a ∈ feet ρ) : ∃ o, H a = some o := by
  obtain ⟨s, hs, ha⟩ := List.mem_flatMap.mp ha
  obtain ⟨i, hi⟩ := List.getElem?_of_mem hs
  exact slOk_some (R.sl i s hi) ha
/-- the heap grows by what is frozen -/
theorem Rep.grow (R : Rep K G F H σ ρ) (e : Same F F') (k : Same H H') (f : Same F' H') (n : ∀ a, F' a ≠ none → F a = none → H a = none) : Rep K G F' H' σ ρ where
  fh := f
  gh := R.gh.trans k
  fg := fun a h => by
    cases q : F a with
    | some o => exact R.fg a (by rw [q]; simp)
    | none =>
      have := n a h q
      cases g : G a with
      | none => rfl
      | some o => rw [R.gh a o g] at this; cases this
  len := R.len
  sl := fun i s h => slOk_mono e (fun b _ o ho => k b o ho) (R.sl i s h)
  nd := R.nd
  ap := fun a ha => by
    refine ⟨?_, (R.ap a ha).2⟩
    cases q : F' a with
    | none => rfl
    | some o =>
      have := n a (by rw [q]; simp) (R.ap a ha).1
      obtain ⟨o', ho⟩ := R.there ha
      rw [ho] at this; cases this
theorem same_new {H : Hp} {p : Addr} {o : HO} (h : H p = none) : Same H (upd H p o) := fun b x e => by
  rw [upd_ne (ne_of_none e h)]
  exact e
theorem Rep.fresh (R : Rep K G F H σ ρ) {p : Addr} (h : H p = none) : F p = none := by
  cases q : F p with
  | none => rfl
  | some o => rw [R.fh p o q] at h; cases h
/-- a new frozen object -/
theorem Rep.new (R : Rep K G F H σ ρ) {p : Addr} {o : HO} (h : H p = none) : Rep K G (upd F p o) (upd H p o) σ ρ := by
  have hF := R.fresh h
  refine R.grow (same_new hF) (same_new h) (fun a u e => ?_) (fun a ha hn => ?_)
  · by_cases q : a = p
    · subst q; rw [upd_same] at e ⊢; exact e
    · rw [upd_ne q] at e ⊢; exact R.fh a u e
  · by_cases q : a = p
    · subst q; exact h
    · rw [upd_ne q] at ha; exact absurd hn ha
end

/-! ### readings by data -/
/-- one of two, by a truth value -/
inductive IfD (b : Bool) (A B : Prop) : Prop
  | t (h : b = true) (a : A)
  | f (h : b = false) (a : B)
theorem IfD.tt {A B : Prop} (h : IfD true A B) : A := by
  cases h with
  | t _ a => exact a
  | f e _ => cases e
theorem IfD.ff {A B : Prop} (h : IfD false A B) : B := by
  cases h with
  | t e _ => cases e
  | f _ a => exact a
theorem ifd_t {A B : Prop} : IfD true A B ↔ A := ⟨IfD.tt, .t rfl⟩
theorem ifd_f {A B : Prop} : IfD false A B ↔ B := ⟨IfD.ff, .f rfl⟩
/-- by cases on what is decided -/
theorem IfD.by {p : Prop} [Decidable p] {A B : Prop} (h1 : p → A) (h2 : ¬ p → B) : IfD (decide p) A B := by
  by_cases h : p
  · exact .t (decide_eq_true h) (h1 h)
  · exact .f (decide_eq_false h) (h2 h)
abbrev DT := List Sl → (PyData → List Sl → Prop) → Prop
abbrev DTT := List Sl → (Bool → List Sl → Prop) → Prop
abbrev DTA := List Sl → (List PyData → List Sl → Prop) → Prop
structure DEnds where
  nx : List Sl → Prop
  rt : PyData → List Sl → Prop
  bk : List Sl → Prop := fun _ => False
  ct : List Sl → Prop := fun _ => False
  ro : Ob → List Sl → Prop := fun _ _ => False
abbrev DTS := DEnds → List Sl → Prop

def cT (K : PySem.W.Frag) (T : DT) : TE := fun σ H R => ∃ G F ρ Q, Rep K G F H σ ρ ∧ T ρ Q ∧
  ∀ v d ρ' F' H', Same F F' → Rep K G F' H' σ ρ' → Dp K F' v d → Q d ρ' → R v H'
def cB (K : PySem.W.Frag) (T : DTT) : TT := fun σ H R => ∃ G F ρ Q, Rep K G F H σ ρ ∧ T ρ Q ∧
  ∀ b ρ' F' H', Same F F' → Rep K G F' H' σ ρ' → Q b ρ' → R b H'
def cA (K : PySem.W.Frag) (T : DTA) : TA := fun σ H R => ∃ G F ρ Q, Rep K G F H σ ρ ∧ T ρ Q ∧
  ∀ vs ds ρ' F' H', Same F F' → Rep K G F' H' σ ρ' → DpAll K F' vs ds → Q ds ρ' → R vs H'
structure Link (K : PySem.W.Frag) (G F : Hp) (D : DEnds) (E : Ends) : Prop where
  nx : ∀ σ ρ F' H, Same F F' → Rep K G F' H σ ρ → D.nx ρ → E.nx σ H
  rt : ∀ v d σ ρ F' H, Same F F' → Rep K G F' H σ ρ → Dp K F' v d → D.rt d ρ → E.rt v H
  bk : ∀ σ ρ F' H, Same F F' → Rep K G F' H σ ρ → D.bk ρ → E.bk σ H
  ct : ∀ σ ρ F' H, Same F F' → Rep K G F' H σ ρ → D.ct ρ → E.ct σ H
  ro : ∀ p ob σ ρ F' H, Same F F' → Rep K G F' H (σ ++ [some (.ref p)]) (ρ ++ [.o p ob]) → ρ.length = σ.length → D.ro ob ρ → E.rt (.ref p) H
def cS (K : PySem.W.Frag) (T : DTS) : TS := fun E σ H => ∃ G F ρ D, Rep K G F H σ ρ ∧ T D ρ ∧ Link K G F D E
theorem Link.mono {K : PySem.W.Frag} {G F F' : Hp} {D : DEnds} {E : Ends} (l : Link K G F D E) (e : Same F F') : Link K G F' D E :=
  ⟨fun σ ρ F2 H e2 => l.nx σ ρ F2 H (e.trans e2), fun v d σ ρ F2 H e2 => l.rt v d σ ρ F2 H (e.trans e2), fun σ ρ F2 H e2 => l.bk σ ρ F2 H (e.trans e2), fun σ ρ F2 H e2 => l.ct σ ρ F2 H (e.trans e2), fun p ob σ ρ F2 H e2 => l.ro p ob σ ρ F2 H (e.trans e2)⟩

section
variable {X : Cx} {e a b : Expr} {t t' : TE}
theorem pe_imp (h : PE X e t) (k : ∀ σ H R, t' σ H R → t σ H R) : PE X e t' := ⟨fun pins s σ H Q I q => h.run pins s σ H Q I (k σ H Q q)⟩
theorem pt_imp {t t' : TT} (h : PT X e t) (k : ∀ σ H R, t' σ H R → t σ H R) : PT X e t' := ⟨fun pins s σ H Q I q => h.run pins s σ H Q I (k σ H Q q)⟩
theorem pw_imp {t t' : TT} (h : PW X e t) (k : ∀ σ H R, t' σ H R → t σ H R) : PW X e t' := ⟨fun w pins s σ H Q I q => h.run w pins s σ H Q I (k σ H Q q)⟩
theorem pa_imp {es : List Expr} {t t' : TA} (h : PA X es t) (k : ∀ σ H R, t' σ H R → t σ H R) : PA X es t' := ⟨fun pos pins s σ H Q I q => h.run pos pins s σ H Q I (k σ H Q q)⟩
theorem ps_imp {st : Stmt} {t t' : TS} (h : PS X st t) (k : ∀ D σ H, t' D σ H → t D σ H) : PS X st t' := ⟨fun pins s σ H D I q => h.run pins s σ H D I (k D σ H q)⟩
theorem pss_imp {st : List Stmt} {t t' : TS} (h : PSs X st t) (k : ∀ D σ H, t' D σ H → t D σ H) : PSs X st t' := ⟨fun pins s σ H D I q => h.run pins s σ H D I (k D σ H q)⟩

/-! judgements -/
abbrev DE (X : Cx) (e : Expr) (T : DT) : Prop := PE X e (cT X.K T)
abbrev DB (X : Cx) (e : Expr) (T : DTT) : Prop := PT X e (cB X.K T)
abbrev DW (X : Cx) (e : Expr) (T : DTT) : Prop := PW X e (cB X.K T)
abbrev DA (X : Cx) (es : List Expr) (T : DTA) : Prop := PA X es (cA X.K T)
abbrev DS (X : Cx) (st : Stmt) (T : DTS) : Prop := PS X st (cS X.K T)
abbrev DSs (X : Cx) (st : List Stmt) (T : DTS) : Prop := PSs X st (cS X.K T)

/-! ### expressions -/
def dVar (i : Nat) : DT := fun ρ Q => match ρ[i]? with
  | some (.d x) => Q x ρ
  | _ => False
def dC (x : PyData) : DT := fun ρ Q => Q x ρ
theorem de_var {x : Str} {pos : Pos} (i : Nat) (h : PE X (.Name x pos) (tVar i)) : DE X (.Name x pos) (dVar i) := by
  refine pe_imp h fun σ H R q => ?_
  obtain ⟨G, F, ρ, Q, r, q, k⟩ := q
  unfold dVar at q
  split at q
  · rename_i y hy
    obtain ⟨v, e1, e2⟩ := r.sl i _ hy
    exact ⟨v, look_some e1, k v y ρ F H (Same.refl _) r e2 q⟩
  · exact q.elim
theorem de_const {v : V} {x : PyData} (h : PE X e (tC v)) (hd : ∀ F, Dp X.K F v x) : DE X e (dC x) := by
  refine pe_imp h fun σ H R q => ?_
  obtain ⟨G, F, ρ, Q, r, q, k⟩ := q
  exact k v x ρ F H (Same.refl _) r (hd F) q
theorem de_int {i j pos} : DE X (.Constant (.int i) j pos) (dC (.int i)) := de_const pe_int fun _ => .int i
theorem de_bl {i j pos} : DE X (.Constant (.bool i) j pos) (dC (.bool i)) := de_const pe_bl fun _ => .bl i
theorem de_non {j pos} : DE X (.Constant .none j pos) (dC .none) := de_const pe_non fun _ => .non
theorem de_str {x j pos} : DE X (.Constant (.str x) j pos) (dC (.str x)) := de_const pe_str fun _ => .str x

/-- one expression, then an operation by values that keeps the heap -/
def dU (op : PyData → (PyData → Prop) → Prop) (Ta : DT) : DT := fun ρ Q => Ta ρ fun x ρ1 => op x fun z => Q z ρ1
def dOp (op : PyData → PyData → (PyData → Prop) → Prop) (Ta Tb : DT) : DT := fun ρ Q => Ta ρ fun x ρ1 => Tb ρ1 fun y ρ2 => op x y fun z => Q z ρ2
/-- an operation by values, at data: heap may grow by frozen things -/
def OpD (K : PySem.W.Frag) (r : R2) (op : PyData → PyData → (PyData → Prop) → Prop) : Prop :=
  ∀ G F H σ ρ v u x y Q R, Rep K G F H σ ρ → Dp K F v x → Dp K F u y → op x y Q → (∀ w z F' H', Same F F' → Rep K G F' H' σ ρ → Dp K F' w z → Q z → R w H') → r v u H R
def UnD (K : PySem.W.Frag) (r : V → Hp → VK → Prop) (op : PyData → (PyData → Prop) → Prop) : Prop :=
  ∀ G F H σ ρ v x Q R, Rep K G F H σ ρ → Dp K F v x → op x Q → (∀ w z F' H', Same F F' → Rep K G F' H' σ ρ → Dp K F' w z → Q z → R w H') → r v H R
def CallD (K : PySem.W.Frag) (r : List V → Hp → VK → Prop) (op : List PyData → (PyData → Prop) → Prop) : Prop :=
  ∀ G F H σ ρ vs xs Q R, Rep K G F H σ ρ → DpAll K F vs xs → op xs Q → (∀ w z F' H', Same F F' → Rep K G F' H' σ ρ → Dp K F' w z → Q z → R w H') → r vs H R
theorem cT_op {Ta Tb : DT} {r : R2} {op : PyData → PyData → (PyData → Prop) → Prop} {K : PySem.W.Frag} (o : OpD K r op) (σ : L2.St) (H : Hp) (R : VK) (q : cT K (dOp op Ta Tb) σ H R) : tOp r (cT K Ta) (cT K Tb) σ H R := by
  obtain ⟨G, F, ρ, Q, rp, q, k⟩ := q
  refine ⟨G, F, ρ, _, rp, q, fun v x ρ1 F1 H1 e1 r1 d1 q1 => ?_⟩
  refine ⟨G, F1, ρ1, _, r1, q1, fun u y ρ2 F2 H2 e2 r2 d2 q2 => ?_⟩
  exact o G F2 H2 σ ρ2 v u x y _ R r2 (dp_mono e2 _ _ d1) d2 q2 fun w z F3 H3 e3 r3 d3 q3 => k w z ρ2 F3 H3 ((e1.trans e2).trans e3) r3 d3 q3
theorem de_op {pos : Pos} {op : Operator} {r : R2} {o : PyData → PyData → (PyData → Prop) → Prop} {Ta Tb : DT} (ho : OpR X (binaryOp op) r) (od : OpD X.K r o) (ha : DE X a Ta) (hb : DE X b Tb) : DE X (.BinOp a op b pos) (dOp o Ta Tb) :=
  pe_imp (pe_op ho ha hb) fun σ H R q => cT_op od σ H R q
theorem de_cmp {pos : Pos} {op : CmpOp} {r : R2} {o : PyData → PyData → (PyData → Prop) → Prop} {Ta Tb : DT} (ho : OpR X (compareOp op) r) (od : OpD X.K r o) (ha : DE X a Ta) (hb : DE X b Tb) (hm : behindInMarks op b = false) : DE X (.Compare a [op] [b] pos) (dOp o Ta Tb) :=
  pe_imp (pe_cmpR ho ha hb hm) fun σ H R q => cT_op od σ H R q
end
end DL

namespace DL
open PySem PySem.Spec PyProof.Rows L2

/-! ### data by their make -/
def asInt (x : PyData) (k : Int → Prop) : Prop := match x with
  | .int i => k i
  | _ => False
def asBool (x : PyData) (k : Bool → Prop) : Prop := match x with
  | .bool b => k b
  | _ => False
def asTup (x : PyData) (k : List PyData → Prop) : Prop := match x with
  | .tuple xs => k xs
  | _ => False
def asLst (x : PyData) (k : List PyData → Prop) : Prop := match x with
  | .list xs => k xs
  | _ => False
def asSeq (x : PyData) (k : List PyData → Prop) : Prop := match x with
  | .list xs => k xs
  | .tuple xs => k xs
  | _ => False
theorem asInt_of {x : PyData} {k : Int → Prop} (h : asInt x k) : ∃ i, x = .int i ∧ k i := by
  unfold asInt at h
  split at h
  · exact ⟨_, rfl, h⟩
  · exact h.elim
theorem asBool_of {x : PyData} {k : Bool → Prop} (h : asBool x k) : ∃ i, x = .bool i ∧ k i := by
  unfold asBool at h
  split at h
  · exact ⟨_, rfl, h⟩
  · exact h.elim
theorem asTup_of {x : PyData} {k : List PyData → Prop} (h : asTup x k) : ∃ i, x = .tuple i ∧ k i := by
  unfold asTup at h
  split at h
  · exact ⟨_, rfl, h⟩
  · exact h.elim
theorem asLst_of {x : PyData} {k : List PyData → Prop} (h : asLst x k) : ∃ i, x = .list i ∧ k i := by
  unfold asLst at h
  split at h
  · exact ⟨_, rfl, h⟩
  · exact h.elim
theorem asSeq_of {x : PyData} {k : List PyData → Prop} (h : asSeq x k) : ∃ i, (x = .list i ∨ x = .tuple i) ∧ k i := by
  unfold asSeq at h
  split at h
  · exact ⟨_, .inl rfl, h⟩
  · exact ⟨_, .inr rfl, h⟩
  · exact h.elim
section
variable {K : PySem.W.Frag} {F H : Hp} {v : V}
theorem dp_int {i : Int} (h : Dp K F v (.int i)) : v = .int i := by cases h; rfl
theorem dp_bool {i : Bool} (h : Dp K F v (.bool i)) : v = .bl i := by cases h; rfl
theorem dp_non (h : Dp K F v .none) : v = .non := by cases h; rfl
theorem dp_str {x : Str} (h : Dp K F v (.str x)) : v = .str x := by cases h; rfl
theorem dp_tup {xs : List PyData} (h : Dp K F v (.tuple xs)) : ∃ a vs, v = .ref a ∧ SqT K F a vs ∧ DpAll K F vs xs := by
  cases h with
  | tup h1 h2 => exact ⟨_, _, rfl, h1, h2⟩
theorem dp_lst {xs : List PyData} (h : Dp K F v (.list xs)) : ∃ a vs, v = .ref a ∧ SqL K F a vs ∧ DpAll K F vs xs := by
  cases h with
  | lst h1 h2 => exact ⟨_, _, rfl, h1, h2⟩
end

/-! ### operators on ints -/
def oI0 (g : Int → Int → PyData) (x y : PyData) (k : PyData → Prop) : Prop := asInt x fun i => asInt y fun j => k (g i j)
def oI (C : Int → Int → Prop) (g : Int → Int → PyData) (x y : PyData) (k : PyData → Prop) : Prop := asInt x fun i => asInt y fun j => C i j ∧ k (g i j)
section
variable {K : PySem.W.Frag}
theorem od_I0 {g : Int → Int → V} {gd : Int → Int → PyData} (h : ∀ i j F, Dp K F (g i j) (gd i j)) : OpD K (rI0 g) (oI0 gd) := by
  intro G F H σ ρ v u x y Q R r dv du q k
  obtain ⟨i, rfl, q1⟩ := asInt_of q
  obtain ⟨j, rfl, q2⟩ := asInt_of q1
  cases dp_int dv
  cases dp_int du
  exact ⟨i, j, rfl, rfl, k _ _ F H (Same.refl _) r (h i j F) q2⟩
theorem od_I {C : Int → Int → Prop} {g : Int → Int → V} {gd : Int → Int → PyData} (h : ∀ i j F, Dp K F (g i j) (gd i j)) : OpD K (rI C g) (oI C gd) := by
  intro G F H σ ρ v u x y Q R r dv du q k
  obtain ⟨i, rfl, q1⟩ := asInt_of q
  obtain ⟨j, rfl, q2⟩ := asInt_of q1
  cases dp_int dv
  cases dp_int du
  exact ⟨i, j, rfl, rfl, q2.1, k _ _ F H (Same.refl _) r (h i j F) q2.2⟩
end
section
variable {X : Cx} {a b e : Expr} {pos : Pos} {Ta Tb : DT}
abbrev dAdd (Ta Tb : DT) : DT := dOp (oI0 fun i j => .int (i + j)) Ta Tb
abbrev dSub (Ta Tb : DT) : DT := dOp (oI0 fun i j => .int (i - j)) Ta Tb
abbrev dMul (Ta Tb : DT) : DT := dOp (oI CMulW fun i j => .int (i * j)) Ta Tb
abbrev dDiv (Ta Tb : DT) : DT := dOp (oI CDivW fun i j => .int (i / j)) Ta Tb
abbrev dMod (Ta Tb : DT) : DT := dOp (oI (fun _ j => 0 < j) fun i j => .int (i % j)) Ta Tb
abbrev dPow (Ta Tb : DT) : DT := dOp (oI CPow fun i j => .int (i ^ j.toNat)) Ta Tb
theorem de_add (ha : DE X a Ta) (hb : DE X b Tb) : DE X (.BinOp a .Add b pos) (dAdd Ta Tb) := de_op op_add (od_I0 fun _ _ _ => .int _) ha hb
theorem de_sub (ha : DE X a Ta) (hb : DE X b Tb) : DE X (.BinOp a .Sub b pos) (dSub Ta Tb) := de_op op_sub (od_I0 fun _ _ _ => .int _) ha hb
theorem de_mul (ha : DE X a Ta) (hb : DE X b Tb) : DE X (.BinOp a .Mult b pos) (dMul Ta Tb) := de_op op_mulW (od_I fun _ _ _ => .int _) ha hb
theorem de_div (ha : DE X a Ta) (hb : DE X b Tb) : DE X (.BinOp a .FloorDiv b pos) (dDiv Ta Tb) := de_op op_fdivW (od_I fun _ _ _ => .int _) ha hb
theorem de_mod (ha : DE X a Ta) (hb : DE X b Tb) : DE X (.BinOp a .Mod b pos) (dMod Ta Tb) := de_op op_mod (od_I fun _ _ _ => .int _) ha hb
theorem de_pow (ha : DE X a Ta) (hb : DE X b Tb) : DE X (.BinOp a .Pow b pos) (dPow Ta Tb) := de_op op_pow (od_I fun _ _ _ => .int _) ha hb
/-- -a -/
def oNeg (x : PyData) (k : PyData → Prop) : Prop := asInt x fun i => k (.int (-i))
theorem de_neg (ha : DE X a Ta) : DE X (.UnaryOp .USub a pos) (dU oNeg Ta) := by
  refine pe_imp (pe_un un_neg ha) fun σ H R q => ?_
  obtain ⟨G, F, ρ, Q, r, q, k⟩ := q
  refine ⟨G, F, ρ, _, r, q, fun v x ρ1 F1 H1 e1 r1 d1 q1 => ?_⟩
  obtain ⟨i, rfl, q1⟩ := asInt_of q1
  cases dp_int d1
  exact ⟨i, rfl, k _ _ ρ1 F1 H1 e1 r1 (.int _) q1⟩
/-! comparisons of ints -/
abbrev dLt (Ta Tb : DT) : DT := dOp (oI0 fun i j => .bool (decide (i < j))) Ta Tb
abbrev dLe (Ta Tb : DT) : DT := dOp (oI0 fun i j => .bool (decide (i ≤ j))) Ta Tb
abbrev dGt (Ta Tb : DT) : DT := dOp (oI0 fun i j => .bool (decide (j < i))) Ta Tb
abbrev dGe (Ta Tb : DT) : DT := dOp (oI0 fun i j => .bool (decide (j ≤ i))) Ta Tb
theorem od_lt {K : PySem.W.Frag} : OpD K (rI0 fun i j => .bl (decide (i < j))) (oI0 fun i j => .bool (decide (i < j))) := od_I0 fun _ _ _ => .bl _
theorem od_le {K : PySem.W.Frag} : OpD K (rI0 fun i j => .bl (decide (i ≤ j))) (oI0 fun i j => .bool (decide (i ≤ j))) := od_I0 fun _ _ _ => .bl _
theorem od_gt {K : PySem.W.Frag} : OpD K (rI0 fun i j => .bl (decide (j < i))) (oI0 fun i j => .bool (decide (j < i))) := od_I0 fun _ _ _ => .bl _
theorem od_ge {K : PySem.W.Frag} : OpD K (rI0 fun i j => .bl (decide (j ≤ i))) (oI0 fun i j => .bool (decide (j ≤ i))) := od_I0 fun _ _ _ => .bl _
/-- == of data -/
def oEq (x y : PyData) (k : PyData → Prop) : Prop := (SeqAt.shaped x = true ∧ SeqAt.shaped y = true) ∧ k (.bool (PyData.eqv x y))
def oNe (x y : PyData) (k : PyData → Prop) : Prop := (SeqAt.shaped x = true ∧ SeqAt.shaped y = true) ∧ k (.bool (!PyData.eqv x y))
theorem od_eq {K : PySem.W.Frag} : OpD K (rEqD K) oEq := fun G F H σ ρ v u x y Q R r dv du q k =>
  ⟨x, y, dp_mono r.fh _ _ dv, dp_mono r.fh _ _ du, q.1.1, q.1.2, k _ _ F H (Same.refl _) r (.bl _) q.2⟩
theorem od_ne {K : PySem.W.Frag} : OpD K (rNeD K) oNe := fun G F H σ ρ v u x y Q R r dv du q k =>
  ⟨x, y, dp_mono r.fh _ _ dv, dp_mono r.fh _ _ du, q.1.1, q.1.2, k _ _ F H (Same.refl _) r (.bl _) q.2⟩
/-- is None -/
def isNone : PyData → Bool
  | .none => true
  | _ => false
def oIsN (x y : PyData) (k : PyData → Prop) : Prop := match y with
  | .none => k (.bool (isNone x))
  | _ => False
def oNotN (x y : PyData) (k : PyData → Prop) : Prop := match y with
  | .none => k (.bool (!isNone x))
  | _ => False
theorem isNone_dp {K : PySem.W.Frag} {F : Hp} {v : V} {x : PyData} (h : Dp K F v x) : decide (v = .non) = isNone x := by
  cases h <;> rfl
theorem od_isN {K : PySem.W.Frag} : OpD K (fun x y H Q => y = .non ∧ Q (.bl (decide (x = .non))) H) oIsN := fun G F H σ ρ v u x y Q R r dv du q k => by
  unfold oIsN at q
  split at q
  · cases dp_non du
    refine ⟨rfl, ?_⟩
    rw [isNone_dp dv]
    exact k _ _ F H (Same.refl _) r (.bl _) q
  · exact q.elim
theorem od_notN {K : PySem.W.Frag} : OpD K (fun x y H Q => y = .non ∧ Q (.bl (!decide (x = .non))) H) oNotN := fun G F H σ ρ v u x y Q R r dv du q k => by
  unfold oNotN at q
  split at q
  · cases dp_non du
    refine ⟨rfl, ?_⟩
    rw [isNone_dp dv]
    exact k _ _ F H (Same.refl _) r (.bl _) q
  · exact q.elim
/-- is True, is not True -/
def oIsB (x y : PyData) (k : PyData → Prop) : Prop := asBool x fun b => asBool y fun c => k (.bool (decide (b = c)))
def oNotB (x y : PyData) (k : PyData → Prop) : Prop := asBool x fun b => asBool y fun c => k (.bool (!decide (b = c)))
theorem od_isB {K : PySem.W.Frag} : OpD K rIsB oIsB := fun G F H σ ρ v u x y Q R r dv du q k => by
  obtain ⟨i, rfl, q1⟩ := asBool_of q
  obtain ⟨j, rfl, q2⟩ := asBool_of q1
  cases dp_bool dv
  cases dp_bool du
  exact ⟨i, j, rfl, rfl, k _ _ F H (Same.refl _) r (.bl _) q2⟩
theorem od_notB {K : PySem.W.Frag} : OpD K rNotB oNotB := fun G F H σ ρ v u x y Q R r dv du q k => by
  obtain ⟨i, rfl, q1⟩ := asBool_of q
  obtain ⟨j, rfl, q2⟩ := asBool_of q1
  cases dp_bool dv
  cases dp_bool du
  exact ⟨i, j, rfl, rfl, k _ _ F H (Same.refl _) r (.bl _) q2⟩

/-! ### and, or, not, if else; tests -/
def dTst (Ta : DT) : DTT := fun ρ Q => Ta ρ fun x ρ1 => asBool x fun b => Q b ρ1
theorem cB_tst {K : PySem.W.Frag} {σ : L2.St} {H : Hp} {R : Bool → Hp → Prop} (q : cB K (dTst Ta) σ H R) : cT K Ta σ H fun x H1 => ∃ c, x = .bl c ∧ R c H1 := by
  obtain ⟨G, F, ρ, Q, r, q, k⟩ := q
  refine ⟨G, F, ρ, _, r, q, fun v x ρ1 F1 H1 e1 r1 d1 q1 => ?_⟩
  obtain ⟨i, rfl, q1⟩ := asBool_of q1
  exact ⟨i, dp_bool d1, k _ ρ1 F1 H1 e1 r1 q1⟩
/-- an expression (no comparison, not, and, or) that gives a truth, as a test -/
theorem db_val (ha : DE X e Ta) (he : ∀ whole, isTrue e X.env whole = (do let v ← whole; standAt e.pos; holding [v] (truthy v)) := by intro _; rfl) : DB X e (dTst Ta) :=
  pt_imp (pt_val ha he) fun σ H R q => cB_tst q
theorem db_cmp {op : CmpOp} {r : R2} {o : PyData → PyData → (PyData → Prop) → Prop} (ho : OpR X (compareOp op) r) (od : OpD X.K r o) (ha : DE X a Ta) (hb : DE X b Tb) (hm : behindInMarks op b = false) : DB X (.Compare a [op] [b] pos) (dTst (dOp o Ta Tb)) :=
  pt_imp (pt_cmpR ho ha hb hm) fun σ H R q => cT_op od σ H _ (cB_tst q)
def dNotB (T : DTT) : DTT := fun ρ Q => T ρ fun b ρ1 => Q (!b) ρ1
def dAndB (T U : DTT) : DTT := fun ρ Q => T ρ fun b ρ1 => IfD b (U ρ1 Q) (Q false ρ1)
def dOrB (T U : DTT) : DTT := fun ρ Q => T ρ fun b ρ1 => IfD b (Q true ρ1) (U ρ1 Q)
variable {T U : DTT} {rest : List Expr}
theorem db_not (ha : DB X a T) : DB X (.UnaryOp .Not a pos) (dNotB T) := by
  refine pt_imp (pt_not ha) fun σ H R q => ?_
  obtain ⟨G, F, ρ, Q, r, q, k⟩ := q
  exact ⟨G, F, ρ, _, r, q, fun b ρ1 F1 H1 e1 r1 q1 => k _ ρ1 F1 H1 e1 r1 q1⟩
theorem cB_and {K : PySem.W.Frag} {σ : L2.St} {H : Hp} {R : Bool → Hp → Prop} (q : cB K (dAndB T U) σ H R) : tAnd (cB K T) (cB K U) σ H R := by
  obtain ⟨G, F, ρ, Q, r, q, k⟩ := q
  refine ⟨G, F, ρ, _, r, q, fun b ρ1 F1 H1 e1 r1 q1 => ?_⟩
  cases b with
  | true => exact ⟨G, F1, ρ1, Q, r1, q1.tt, fun b ρ2 F2 H2 e2 r2 q2 => k _ ρ2 F2 H2 (e1.trans e2) r2 q2⟩
  | false => exact k _ ρ1 F1 H1 e1 r1 q1.ff
theorem cB_or {K : PySem.W.Frag} {σ : L2.St} {H : Hp} {R : Bool → Hp → Prop} (q : cB K (dOrB T U) σ H R) : tOr (cB K T) (cB K U) σ H R := by
  obtain ⟨G, F, ρ, Q, r, q, k⟩ := q
  refine ⟨G, F, ρ, _, r, q, fun b ρ1 F1 H1 e1 r1 q1 => ?_⟩
  cases b with
  | false => exact ⟨G, F1, ρ1, Q, r1, q1.ff, fun b ρ2 F2 H2 e2 r2 q2 => k _ ρ2 F2 H2 (e1.trans e2) r2 q2⟩
  | true => exact k _ ρ1 F1 H1 e1 r1 q1.tt
theorem dw_and1 (ha : DB X a T) : DW X (.BoolOp .And [a] pos) T := pw_and1 ha
theorem dw_or1 (ha : DB X a T) : DW X (.BoolOp .Or [a] pos) T := pw_or1 ha
theorem dw_and (ha : DB X a T) (hb : DW X (.BoolOp .And (b :: rest) pos) U) : DW X (.BoolOp .And (a :: b :: rest) pos) (dAndB T U) :=
  pw_imp (pw_and ha hb) fun σ H R q => cB_and q
theorem dw_or (ha : DB X a T) (hb : DW X (.BoolOp .Or (b :: rest) pos) U) : DW X (.BoolOp .Or (a :: b :: rest) pos) (dOrB T U) :=
  pw_imp (pw_or ha hb) fun σ H R q => cB_or q
theorem db_w (h : DW X e T) : DB X e T := h.pt
def dAndV (Ta Tb : DT) : DT := fun ρ Q => Ta ρ fun x ρ1 => asBool x fun b => IfD b (Tb ρ1 Q) (Q (.bool false) ρ1)
def dOrV (Ta Tb : DT) : DT := fun ρ Q => Ta ρ fun x ρ1 => asBool x fun b => IfD b (Q (.bool true) ρ1) (Tb ρ1 Q)
def dNotV (Ta : DT) : DT := fun ρ Q => Ta ρ fun x ρ1 => asBool x fun b => Q (.bool (!b)) ρ1
theorem de_one {op} (h : DE X a Ta) : DE X (.BoolOp op [a] pos) Ta := pe_one h
theorem de_and (ha : DE X a Ta) (hb : DE X (.BoolOp .And (b :: rest) pos) Tb) : DE X (.BoolOp .And (a :: b :: rest) pos) (dAndV Ta Tb) := by
  refine pe_imp (pe_and ha hb) fun σ H R q => ?_
  obtain ⟨G, F, ρ, Q, r, q, k⟩ := q
  refine ⟨G, F, ρ, _, r, q, fun v x ρ1 F1 H1 e1 r1 d1 q1 => ?_⟩
  obtain ⟨i, rfl, q1⟩ := asBool_of q1
  refine ⟨i, dp_bool d1, ?_⟩
  cases i with
  | true => exact ⟨G, F1, ρ1, Q, r1, q1.tt, fun v x ρ2 F2 H2 e2 r2 d2 q2 => k v x ρ2 F2 H2 (e1.trans e2) r2 d2 q2⟩
  | false => exact k _ _ ρ1 F1 H1 e1 r1 (.bl _) q1.ff
theorem de_or (ha : DE X a Ta) (hb : DE X (.BoolOp .Or (b :: rest) pos) Tb) : DE X (.BoolOp .Or (a :: b :: rest) pos) (dOrV Ta Tb) := by
  refine pe_imp (pe_or ha hb) fun σ H R q => ?_
  obtain ⟨G, F, ρ, Q, r, q, k⟩ := q
  refine ⟨G, F, ρ, _, r, q, fun v x ρ1 F1 H1 e1 r1 d1 q1 => ?_⟩
  obtain ⟨i, rfl, q1⟩ := asBool_of q1
  refine ⟨i, dp_bool d1, ?_⟩
  cases i with
  | false => exact ⟨G, F1, ρ1, Q, r1, q1.ff, fun v x ρ2 F2 H2 e2 r2 d2 q2 => k v x ρ2 F2 H2 (e1.trans e2) r2 d2 q2⟩
  | true => exact k _ _ ρ1 F1 H1 e1 r1 (.bl _) q1.tt
theorem de_not (ha : DE X a Ta) : DE X (.UnaryOp .Not a pos) (dNotV Ta) := by
  refine pe_imp (pe_not ha) fun σ H R q => ?_
  obtain ⟨G, F, ρ, Q, r, q, k⟩ := q
  refine ⟨G, F, ρ, _, r, q, fun v x ρ1 F1 H1 e1 r1 d1 q1 => ?_⟩
  obtain ⟨i, rfl, q1⟩ := asBool_of q1
  exact ⟨i, dp_bool d1, k _ _ ρ1 F1 H1 e1 r1 (.bl _) q1⟩
def dIf (T : DTT) (Ta Tb : DT) : DT := fun ρ Q => T ρ fun b ρ1 => IfD b (Ta ρ1 Q) (Tb ρ1 Q)
theorem de_ifExp {c : Expr} (hc : DB X c T) (ha : DE X a Ta) (hb : DE X b Tb) : DE X (.IfExp c a b pos) (dIf T Ta Tb) := by
  refine pe_imp (pe_ifExp hc ha hb) fun σ H R q => ?_
  obtain ⟨G, F, ρ, Q, r, q, k⟩ := q
  refine ⟨G, F, ρ, _, r, q, fun b ρ1 F1 H1 e1 r1 q1 => ?_⟩
  cases b with
  | true => exact ⟨G, F1, ρ1, Q, r1, q1.tt, fun v x ρ2 F2 H2 e2 r2 d2 q2 => k v x ρ2 F2 H2 (e1.trans e2) r2 d2 q2⟩
  | false => exact ⟨G, F1, ρ1, Q, r1, q1.ff, fun v x ρ2 F2 H2 e2 r2 d2 q2 => k v x ρ2 F2 H2 (e1.trans e2) r2 d2 q2⟩
end

/-! ### argument lists, displays -/
def dNil : DTA := fun ρ Q => Q [] ρ
def dCons (Ta : DT) (Tr : DTA) : DTA := fun ρ Q => Ta ρ fun x ρ1 => Tr ρ1 fun xs ρ2 => Q (x :: xs) ρ2
def dStar (Ta : DT) (Tr : DTA) : DTA := fun ρ Q => Ta ρ fun x ρ1 => asSeq x fun ys => Tr ρ1 fun xs ρ2 => Q (ys ++ xs) ρ2
section
variable {X : Cx} {a b e : Expr} {es : List Expr} {pos p : Pos} {Ta Tb : DT} {Tr : DTA}
theorem da_nil : DA X [] dNil := pa_imp pa_nil fun σ H R q => by
  obtain ⟨G, F, ρ, Q, r, q, k⟩ := q
  exact k [] [] ρ F H (Same.refl _) r .nil q
theorem da_cons (ha : DE X e Ta) (hr : DA X es Tr) (hs : starEach (e :: es) X.env = (false, eval e X.env) :: starEach es X.env := by rfl) : DA X (e :: es) (dCons Ta Tr) :=
  pa_imp (pa_cons ha hr hs) fun σ H R q => by
    obtain ⟨G, F, ρ, Q, r, q, k⟩ := q
    refine ⟨G, F, ρ, _, r, q, fun v x ρ1 F1 H1 e1 r1 d1 q1 => ⟨G, F1, ρ1, _, r1, q1, fun vs xs ρ2 F2 H2 e2 r2 d2 q2 => ?_⟩⟩
    exact k _ _ ρ2 F2 H2 (e1.trans e2) r2 (.cons (dp_mono e2 _ _ d1) d2) q2
theorem da_star (ha : DE X e Ta) (hr : DA X es Tr) (hs : starEach (.Starred e p :: es) X.env = (true, eval e X.env) :: starEach es X.env := by rfl) : DA X (.Starred e p :: es) (dStar Ta Tr) :=
  pa_imp (StX.pa_star ha hr hs) fun σ H R q => by
    obtain ⟨G, F, ρ, Q, r, q, k⟩ := q
    refine ⟨G, F, ρ, _, r, q, fun v x ρ1 F1 H1 e1 r1 d1 q1 => ?_⟩
    obtain ⟨ys, hx, q1⟩ := asSeq_of q1
    rcases hx with rfl | rfl
    · obtain ⟨l, vs, rfl, h1, h2⟩ := dp_lst d1
      refine ⟨l, vs, rfl, .inr (r1.fh.seq h1), G, F1, ρ1, _, r1, q1, fun ws zs ρ2 F2 H2 e2 r2 d2 q2 => ?_⟩
      exact k _ _ ρ2 F2 H2 (e1.trans e2) r2 (dpa_app (dpa_mono e2 _ _ h2) d2) q2
    · obtain ⟨l, vs, rfl, h1, h2⟩ := dp_tup d1
      refine ⟨l, vs, rfl, .inl (seqT r1.fh h1), G, F1, ρ1, _, r1, q1, fun ws zs ρ2 F2 H2 e2 r2 d2 q2 => ?_⟩
      exact k _ _ ρ2 F2 H2 (e1.trans e2) r2 (dpa_app (dpa_mono e2 _ _ h2) d2) q2
def dTup (Tr : DTA) : DT := fun ρ Q => Tr ρ fun xs ρ1 => xs.length ≤ sizeLine ∧ Q (.tuple xs) ρ1
def dLst (Tr : DTA) : DT := fun ρ Q => Tr ρ fun xs ρ1 => xs.length ≤ sizeLine ∧ Q (.list xs) ρ1
theorem de_tup {x1} (h : DA X es Tr) : DE X (.Tuple es x1 pos) (dTup Tr) := pe_imp (pe_tup h) fun σ H R q => by
  obtain ⟨G, F, ρ, Q, r, q, k⟩ := q
  refine ⟨G, F, ρ, _, r, q, fun vs xs ρ1 F1 H1 e1 r1 d1 q1 => ⟨by rw [dpa_len d1]; exact q1.1, fun p hp => ?_⟩⟩
  have hF := r1.fresh hp
  exact k _ _ ρ1 _ _ (e1.trans (same_new hF)) (r1.new hp) (.tup (SqT.of upd_same) (dpa_mono (same_new hF) _ _ d1)) q1.2
theorem de_lst (h : DA X es Tr) : DE X (.List es pos) (dLst Tr) := pe_imp (pe_lst h) fun σ H R q => by
  obtain ⟨G, F, ρ, Q, r, q, k⟩ := q
  refine ⟨G, F, ρ, _, r, q, fun vs xs ρ1 F1 H1 e1 r1 d1 q1 => ⟨by rw [dpa_len d1]; exact q1.1, fun p hp => ?_⟩⟩
  have hF := r1.fresh hp
  exact k _ _ ρ1 _ _ (e1.trans (same_new hF)) (r1.new hp) (.lst (SqL.of upd_same) (dpa_mono (same_new hF) _ _ d1)) q1.2
end

/-! ### subscripts, slices -/
/-- the item at a place of either sign -/
inductive itemAt (xs : List PyData) (i : Int) (k : PyData → Prop) : Prop
  | mk (j : Nat) (x : PyData) (h1 : ixN xs.length i = some j) (h2 : xs[j]? = some x) (h3 : k x)
theorem itemAt_of {xs : List PyData} {i : Int} {k : PyData → Prop} (h : itemAt xs i k) : ∃ x, ((ixN xs.length i).bind fun j => xs[j]?) = some x ∧ k x := by
  obtain ⟨j, x, h1, h2, h3⟩ := h
  exact ⟨x, by rw [h1]; exact h2, h3⟩
def oIx (x y : PyData) (k : PyData → Prop) : Prop := asSeq x fun xs => asInt y fun i => itemAt xs i k
section
variable {K : PySem.W.Frag}
theorem atI_dpa {F : Hp} {vs : List V} {xs : List PyData} {i : Int} {x : PyData} (d : DpAll K F vs xs) (h : ((ixN xs.length i).bind fun j => xs[j]?) = some x) : ∃ v, atI vs i = some v ∧ Dp K F v x := by
  unfold atI
  rw [dpa_len d]
  cases e : ixN xs.length i with
  | none => rw [e] at h; cases h
  | some j =>
    rw [e] at h
    exact dpa_get d h
theorem od_ix : OpD K (rIx K) oIx := by
  intro G F H σ ρ v u x y Q R r dv du q k
  obtain ⟨xs, hx, q1⟩ := asSeq_of q
  obtain ⟨j, rfl, q2⟩ := asInt_of q1
  cases dp_int du
  obtain ⟨z, hz, q2⟩ := itemAt_of q2
  rcases hx with rfl | rfl
  · obtain ⟨a, vs, rfl, h1, h2⟩ := dp_lst dv
    obtain ⟨w, h3, h4⟩ := atI_dpa h2 hz
    exact .inl ⟨a, vs, j, w, rfl, rfl, r.fh.seq h1, h3, k w z F H (Same.refl _) r h4 q2⟩
  · obtain ⟨a, vs, rfl, h1, h2⟩ := dp_tup dv
    obtain ⟨w, h3, h4⟩ := atI_dpa h2 hz
    exact .inr (.inl ⟨a, vs, j, w, rfl, rfl, seqT r.fh h1, h3, k w z F H (Same.refl _) r h4 q2⟩)
end
section
variable {X : Cx} {a b e : Expr} {pos p2 : Pos} {Ta Tb Tl Th : DT}
theorem de_ix (ha : DE X a Ta) (hb : DE X b Tb) (hs : PlainIx b := by exact fun _ _ => rfl) : DE X (.Subscript a b pos) (dOp oIx Ta Tb) :=
  pe_imp (pe_ix ix_seq ha hb hs) fun σ H R q => cT_op od_ix σ H R q
/-- a part of a slice -/
abbrev DTO := List Sl → (Option Int → List Sl → Prop) → Prop
def cO (K : PySem.W.Frag) (T : DTO) : TO := fun σ H R => ∃ G F ρ Q, Rep K G F H σ ρ ∧ T ρ Q ∧ ∀ o ρ' F' H', Same F F' → Rep K G F' H' σ ρ' → Q o ρ' → R o H'
abbrev DO (X : Cx) (e : Option Expr) (T : DTO) : Prop := PO X e (cO X.K T)
theorem po_imp {e : Option Expr} {t t' : TO} (h : PO X e t) (k : ∀ σ H R, t' σ H R → t σ H R) : PO X e t' := ⟨fun pins s σ H Q I q => h.run pins s σ H Q I (k σ H Q q)⟩
def dNoPart : DTO := fun ρ Q => Q none ρ
def dPart (T : DT) : DTO := fun ρ Q => T ρ fun x ρ1 => asInt x fun i => Q (some i) ρ1
theorem do_none : DO X none dNoPart := po_imp po_none fun σ H R q => by
  obtain ⟨G, F, ρ, Q, r, q, k⟩ := q
  exact k none ρ F H (Same.refl _) r q
theorem do_some (h : DE X e Ta) : DO X (some e) (dPart Ta) := po_imp (po_some h) fun σ H R q => by
  obtain ⟨G, F, ρ, Q, r, q, k⟩ := q
  refine ⟨G, F, ρ, _, r, q, fun v x ρ1 F1 H1 e1 r1 d1 q1 => ?_⟩
  obtain ⟨i, rfl, q1⟩ := asInt_of q1
  exact ⟨i, dp_int d1, k _ ρ1 F1 H1 e1 r1 q1⟩
/-- the cut of a list -/
def cut {α : Type} (xs : List α) (lo hi : Option Int) : List α := (xs.drop (HT.sIx xs.length 0 lo)).take (HT.sIx xs.length xs.length hi - HT.sIx xs.length 0 lo)
def dSl (Ta : DT) (Tl Th : DTO) : DT := fun ρ Q => Ta ρ fun x ρ1 => Tl ρ1 fun lo ρ2 => Th ρ2 fun hi ρ3 => match x with
  | .tuple xs => Q (.tuple (cut xs lo hi)) ρ3
  | .list xs => Q (.list (cut xs lo hi)) ρ3
  | _ => False
theorem dpa_drop {K : PySem.W.Frag} {F : Hp} : ∀ {vs : List V} {xs : List PyData} (n : Nat), DpAll K F vs xs → DpAll K F (vs.drop n) (xs.drop n)
  | _, _, 0, h => h
  | _, _, _ + 1, .nil => .nil
  | _, _, n + 1, .cons _ t => dpa_drop n t
theorem dpa_take {K : PySem.W.Frag} {F : Hp} : ∀ {vs : List V} {xs : List PyData} (n : Nat), DpAll K F vs xs → DpAll K F (vs.take n) (xs.take n)
  | _, _, 0, _ => .nil
  | _, _, _ + 1, .nil => .nil
  | _, _, n + 1, .cons r t => .cons r (dpa_take n t)
theorem dpa_cut {K : PySem.W.Frag} {F : Hp} {vs : List V} {xs : List PyData} {lo hi : Option Int} (h : DpAll K F vs xs) : DpAll K F (cutV vs lo hi) (cut xs lo hi) := by
  unfold cutV cut
  rw [dpa_len h]
  exact dpa_take _ (dpa_drop _ h)
theorem cut_whole {α : Type} {xs : List α} {lo hi : Option Int} (h : HT.sIx xs.length 0 lo = 0 ∧ HT.sIx xs.length xs.length hi = xs.length) : cut xs lo hi = xs := by
  unfold cut
  rw [h.1, h.2]
  simp
theorem de_slice {lo hi : Option Expr} {Tl Th : DTO} (he : DE X e Ta) (hl : DO X lo Tl) (hu : DO X hi Th) : DE X (.Subscript e (.Slice lo hi none p2) pos) (dSl Ta Tl Th) :=
  pe_imp (pe_slice (SlR.or sl_list sl_tupA) he hl hu) fun σ H R q => by
    obtain ⟨G, F, ρ, Q, r, q, k⟩ := q
    refine ⟨G, F, ρ, _, r, q, fun v x ρ1 F1 H1 e1 r1 d1 q1 => ⟨G, F1, ρ1, _, r1, q1, fun lo ρ2 F2 H2 e2 r2 q2 => ⟨G, F2, ρ2, _, r2, q2, fun hi ρ3 F3 H3 e3 r3 q3 => ?_⟩⟩⟩
    have e13 := e2.trans e3
    split at q3
    · obtain ⟨a, vs, rfl, h1, h2⟩ := dp_tup d1
      have h2' := dpa_mono e13 _ _ h2
      have h1' := seqT e13 h1
      refine .inr ⟨a, vs, rfl, seqT r3.fh h1', fun w => ?_, fun w p hp => ?_⟩
      · rw [dpa_len h2] at w
        rw [cut_whole w] at q3
        exact k _ _ ρ3 F3 H3 (e1.trans e13) r3 (.tup h1' h2') q3
      · have hF := r3.fresh hp
        exact k _ _ ρ3 _ _ ((e1.trans e13).trans (same_new hF)) (r3.new hp) (.tup (SqT.of upd_same) (dpa_mono (same_new hF) _ _ (dpa_cut h2'))) q3
    · obtain ⟨a, vs, rfl, h1, h2⟩ := dp_lst d1
      have h2' := dpa_mono e13 _ _ h2
      have h1' := e13.seq h1
      refine .inl ⟨a, vs, rfl, r3.fh.seq h1', fun p hp => ?_⟩
      have hF := r3.fresh hp
      exact k _ _ ρ3 _ _ ((e1.trans e13).trans (same_new hF)) (r3.new hp) (.lst (SqL.of upd_same) (dpa_mono (same_new hF) _ _ (dpa_cut h2'))) q3
    · exact q3.elim
end
end DL

namespace DL
open PySem PySem.Spec PyProof.Rows L2

/-! ### slots stored -/
theorem feet_append (a b : List Sl) : feet (a ++ b) = feet a ++ feet b := by
  unfold feet
  rw [List.flatMap_append]
theorem feet_cons (a : Sl) (b : List Sl) : feet (a :: b) = foot a ++ feet b := by
  unfold feet
  rw [List.flatMap_cons]
theorem set_split {α : Type} : ∀ (l : List α) (i : Nat) (x y : α), l[i]? = some x → ∃ a b, l = a ++ x :: b ∧ l.set i y = a ++ y :: b ∧ a.length = i
  | [], _, _, _, h => by simp at h
  | z :: r, 0, x, y, h => by
    have e : z = x := by simpa using h
    exact ⟨[], r, by rw [e]; rfl, rfl, rfl⟩
  | z :: r, i + 1, x, y, h => by
    obtain ⟨a, b, h1, h2, h3⟩ := set_split r i x y (by simpa using h)
    exact ⟨z :: a, b, by rw [h1]; rfl, by rw [List.set_cons_succ, h2]; rfl, by rw [List.length_cons, h3]⟩
section
variable {K : PySem.W.Frag} {G F F' H H' : Hp} {σ : L2.St} {ρ : List Sl}
theorem look_set {i j : Nat} {v : V} (hi : i < σ.length) : look (σ.set i (some v)) j = if j = i then some v else look σ j := by
  unfold look
  by_cases e : j = i
  · subst e
    rw [List.getElem?_set_self hi, if_pos rfl]
  · rw [List.getElem?_set_ne (Ne.symm e), if_neg e]
/-- a slot is stored: its new feet are none, or new, or its old ones -/
theorem Rep.put (R : Rep K G F H σ ρ) {i : Nat} {v : V} {s : Sl} (h : SlOk K F H (some v) s) (nd : (feet (ρ.set i s)).Nodup) (ap : ∀ a ∈ foot s, F a = none ∧ G a = none) : Rep K G F H (σ.set i (some v)) (ρ.set i s) where
  fh := R.fh
  gh := R.gh
  fg := R.fg
  len := by rw [List.length_set, List.length_set]; exact R.len
  sl := fun j t e => by
    by_cases hj : j = i
    · subst hj
      by_cases hl : j < ρ.length
      · rw [List.getElem?_set_self hl] at e
        cases e
        rw [look_set (by rw [← R.len]; exact hl), if_pos rfl]
        exact h
      · rw [List.getElem?_eq_none (by rw [List.length_set]; omega)] at e
        cases e
    · rw [List.getElem?_set_ne (Ne.symm hj)] at e
      by_cases hl : i < σ.length
      · rw [look_set hl, if_neg hj]
        exact R.sl j t e
      · rw [List.set_eq_of_length_le (by omega)]
        exact R.sl j t e
  nd := nd
  ap := fun a ha => by
    obtain ⟨t, ht, ha⟩ := List.mem_flatMap.mp ha
    rcases List.mem_or_eq_of_mem_set ht with q | q
    · exact R.ap a (List.mem_flatMap.mpr ⟨t, q, ha⟩)
    · exact ap a (q ▸ ha)
theorem feet_set_sub {i : Nat} {s : Sl} (h : foot s = []) : (feet (ρ.set i s)).Sublist (feet ρ) := by
  by_cases hl : i < ρ.length
  · obtain ⟨a, b, h1, h2, _⟩ := set_split ρ i ρ[i] s (List.getElem?_eq_getElem hl)
    rw [h2, congrArg feet h1, feet_append, feet_append, feet_cons, feet_cons, h]
    exact List.Sublist.append (List.Sublist.refl _) (List.sublist_append_right _ _)
  · rw [List.set_eq_of_length_le (by omega)]
    exact List.Sublist.refl _
theorem Rep.putD (R : Rep K G F H σ ρ) {i : Nat} {v : V} {x : PyData} (h : Dp K F v x) : Rep K G F H (σ.set i (some v)) (ρ.set i (.d x)) :=
  R.put ⟨v, rfl, h⟩ (R.nd.sublist (feet_set_sub rfl)) fun a ha => nomatch ha
theorem Rep.putRaw (R : Rep K G F H σ ρ) {i : Nat} {v : V} : Rep K G F H (σ.set i (some v)) (ρ.set i (.raw v)) :=
  R.put rfl (R.nd.sublist (feet_set_sub rfl)) fun a ha => nomatch ha
theorem feet_set_new {i : Nat} {s : Sl} (nd : (feet ρ).Nodup) (h1 : (foot s).Nodup) (h2 : ∀ a ∈ foot s, a ∉ feet ρ) : (feet (ρ.set i s)).Nodup := by
  by_cases hl : i < ρ.length
  · obtain ⟨a, b, e1, e2, _⟩ := set_split ρ i ρ[i] s (List.getElem?_eq_getElem hl)
    rw [congrArg feet e1] at nd h2
    rw [e2, feet_append, feet_cons]
    rw [feet_append, feet_cons] at nd h2
    rw [List.nodup_append] at nd ⊢
    obtain ⟨n1, n2, n3⟩ := nd
    rw [List.nodup_append] at n2
    obtain ⟨n4, n5, n6⟩ := n2
    refine ⟨n1, List.nodup_append.mpr ⟨h1, n5, fun x hx y hy e => ?_⟩, fun x hx y hy e => ?_⟩
    · subst e
      exact h2 x hx (List.mem_append_right _ (List.mem_append_right _ hy))
    · subst e
      rcases List.mem_append.mp hy with q | q
      · exact h2 x q (List.mem_append_left _ hx)
      · exact n3 x hx x (List.mem_append_right _ q) rfl
  · rw [List.set_eq_of_length_le (by omega)]
    exact nd
/-- a new own list -/
theorem Rep.newOwn (R : Rep K G F H σ ρ) {p : Addr} (hp : H p = none) {o : HO} : Rep K G F (upd H p o) σ ρ :=
  R.grow (Same.refl _) (same_new hp) (fun a u e => by rw [upd_ne (fun z => by rw [z, R.fresh hp] at e; cases e)]; exact R.fh a u e) fun a h n => absurd n h
theorem Rep.freshG (R : Rep K G F H σ ρ) {p : Addr} (hp : H p = none) : G p = none := by
  cases q : G p with
  | none => rfl
  | some o => rw [R.gh p o q] at hp; cases hp
theorem Rep.notFoot (R : Rep K G F H σ ρ) {p : Addr} (hp : H p = none) : p ∉ feet ρ := fun h => by
  obtain ⟨o, e⟩ := R.there h
  rw [hp] at e; cases e
theorem Rep.putOwn (R : Rep K G F H σ ρ) {i : Nat} {p : Addr} (hp : H p = none) {vs : List V} {xs : List PyData} (d : DpAll K F vs xs) : Rep K G F (upd H p (.lst vs)) (σ.set i (some (.ref p))) (ρ.set i (.o p (.lst xs))) := by
  refine (R.newOwn hp).put ⟨rfl, vs, upd_same, d⟩ (feet_set_new R.nd (by simp [foot]) fun a ha => ?_) fun a ha => ?_
  · have e : a = p := by simpa [foot] using ha
    subst e
    exact R.notFoot hp
  · have e : a = p := by simpa [foot] using ha
    subst e
    exact ⟨R.fresh hp, R.freshG hp⟩
theorem notTup_of_foot {i : Nat} {s : Sl} (R : Rep K G F H σ ρ) (h : ρ[i]? = some s) {a : Addr} (ha : a ∈ foot s) : F a = none ∧ G a = none := R.ap a (mem_feet h ha)
/-- feet of two slots are apart -/
theorem feet_apart {i j : Nat} {s t : Sl} {a : Addr} (nd : (feet ρ).Nodup) (hij : i ≠ j) (h1 : ρ[i]? = some s) (h2 : ρ[j]? = some t) (ha : a ∈ foot s) : a ∉ foot t := by
  intro hb
  obtain ⟨u, v, e1, _, e3⟩ := set_split ρ i s s h1
  rw [e1, feet_append, feet_cons, List.nodup_append, List.nodup_append] at nd
  rw [e1] at h2
  rcases Nat.lt_or_gt_of_ne hij with hlt | hlt
  · rw [List.getElem?_append_right (by omega), List.getElem?_cons] at h2
    rw [if_neg (by omega)] at h2
    exact nd.2.1.2.2 a ha a (List.mem_flatMap.mpr ⟨t, List.mem_of_getElem? h2, hb⟩) rfl
  · rw [List.getElem?_append_left (by omega)] at h2
    exact nd.2.2 a (List.mem_flatMap.mpr ⟨t, List.mem_of_getElem? h2, hb⟩) a (List.mem_append_left _ ha) rfl
end
end DL

namespace DL
open PySem PySem.Spec PyProof.Rows L2

section
variable {K : PySem.W.Frag} {G F F' H H' : Hp} {σ σ2 : L2.St} {ρ ρ2 : List Sl}
theorem look_app_l {j : Nat} (h : j < σ.length) : look (σ ++ σ2) j = look σ j := by
  unfold look
  rw [List.getElem?_append_left h]
theorem look_app_r {j : Nat} (h : σ.length ≤ j) : look (σ ++ σ2) j = look σ2 (j - σ.length) := by
  unfold look
  rw [List.getElem?_append_right h]
/-- a slot behind is put to its place -/
theorem Rep.place {v : V} {s : Sl} {i : Nat} (R : Rep K G F H (σ ++ some v :: σ2) (ρ ++ s :: ρ2)) (hl : ρ.length = σ.length) : Rep K G F H (σ.set i (some v) ++ σ2) (ρ.set i s ++ ρ2) := by
  have hs : SlOk K F H (some v) s := by
    have h := R.sl ρ.length s (by rw [List.getElem?_append_right (Nat.le_refl _)]; simp)
    rw [look_app_r (by omega)] at h
    have e : ρ.length - σ.length = 0 := by omega
    rw [e] at h
    exact h
  refine ⟨R.fh, R.gh, R.fg, ?_, fun j t e => ?_, ?_, fun a ha => ?_⟩
  · have := R.len
    simp only [List.length_append, List.length_set, List.length_cons] at this ⊢
    omega
  · by_cases hj : j < ρ.length
    · rw [List.getElem?_append_left (by rw [List.length_set]; exact hj)] at e
      rw [look_app_l (by rw [List.length_set]; omega)]
      by_cases hji : j = i
      · subst hji
        rw [List.getElem?_set_self hj] at e
        cases e
        rw [look_set (by omega), if_pos rfl]
        exact hs
      · rw [List.getElem?_set_ne (Ne.symm hji)] at e
        have h := R.sl j t (by rw [List.getElem?_append_left hj]; exact e)
        rw [look_app_l (by omega)] at h
        by_cases hi : i < σ.length
        · rw [look_set hi, if_neg hji]
          exact h
        · rw [List.set_eq_of_length_le (by omega)]
          exact h
    · rw [List.getElem?_append_right (by rw [List.length_set]; omega), List.length_set] at e
      rw [look_app_r (by rw [List.length_set]; omega), List.length_set]
      have h := R.sl (j + 1) t (by
        rw [List.getElem?_append_right (by omega)]
        have : j + 1 - ρ.length = (j - ρ.length) + 1 := by omega
        rw [this, List.getElem?_cons_succ]
        exact e)
      rw [look_app_r (by omega)] at h
      have e2 : j + 1 - σ.length = (j - σ.length) + 1 := by omega
      rw [e2] at h
      exact h
  · have nd := R.nd
    rw [feet_append, feet_cons] at nd
    rw [feet_append]
    rw [List.nodup_append, List.nodup_append] at nd
    have n1 : (feet (ρ.set i s)).Nodup := feet_set_new nd.1 nd.2.1.1 fun a ha hb => nd.2.2 a hb a (List.mem_append_left _ ha) rfl
    refine List.nodup_append.mpr ⟨n1, nd.2.1.2.1, fun x hx y hy e => ?_⟩
    subst e
    obtain ⟨t, ht, hx⟩ := List.mem_flatMap.mp hx
    rcases List.mem_or_eq_of_mem_set ht with q | q
    · exact nd.2.2 x (List.mem_flatMap.mpr ⟨t, q, hx⟩) x (List.mem_append_right _ hy) rfl
    · exact nd.2.1.2.2 x (q ▸ hx) x hy rfl
  · refine R.ap a ?_
    rw [feet_append] at ha ⊢
    rw [feet_cons]
    rcases List.mem_append.mp ha with ha | ha
    · obtain ⟨t, ht, ha⟩ := List.mem_flatMap.mp ha
      rcases List.mem_or_eq_of_mem_set ht with q | q
      · exact List.mem_append_left _ (List.mem_flatMap.mpr ⟨t, q, ha⟩)
      · exact List.mem_append_right _ (List.mem_append_left _ (q ▸ ha))
    · exact List.mem_append_right _ (List.mem_append_right _ ha)
/-- a slot's own object changes, its feet stay -/
theorem Rep.write (R : Rep K G F H σ ρ) {i : Nat} {a : Addr} {ob ob' : Ob} (h : ρ[i]? = some (.o a ob)) (hf : foot (.o a ob') = foot (.o a ob)) (k : ∀ b, b ∉ foot (.o a ob) → H' b = H b) (n : ObOk K F H' a ob') : Rep K G F H' σ (ρ.set i (.o a ob')) := by
  have keep : ∀ b o, b ∉ foot (.o a ob) → H b = some o → H' b = some o := fun b o hb e => (k b hb).trans e
  have hi : i < ρ.length := (List.getElem?_eq_some_iff.mp h).1
  have efeet : feet (ρ.set i (.o a ob')) = feet ρ := by
    obtain ⟨u, v, e1, e2, _⟩ := set_split ρ i _ (.o a ob') h
    rw [e2, congrArg feet e1, feet_append, feet_append, feet_cons, feet_cons, hf]
  refine ⟨fun b o e => ?_, fun b o e => ?_, R.fg, by rw [List.length_set]; exact R.len, fun j t e => ?_, by rw [efeet]; exact R.nd, fun b hb => R.ap b (by rw [efeet] at hb; exact hb)⟩
  · refine keep b o (fun hb => ?_) (R.fh b o e)
    rw [(notTup_of_foot R h hb).1] at e; cases e
  · refine keep b o (fun hb => ?_) (R.gh b o e)
    rw [(notTup_of_foot R h hb).2] at e; cases e
  · by_cases hj : j = i
    · subst hj
      rw [List.getElem?_set_self hi] at e
      cases e
      exact ⟨(R.sl j _ h).1, n⟩
    · rw [List.getElem?_set_ne (Ne.symm hj)] at e
      exact slOk_mono (Same.refl _) (fun b hb o ho => keep b o (feet_apart R.nd hj e h hb) ho) (R.sl j t e)
/-- a slot is forgotten -/
theorem Rep.drop (R : Rep K G F H (σ ++ σ2) (ρ ++ ρ2)) (hl : ρ.length = σ.length) : Rep K G F H σ ρ where
  fh := R.fh
  gh := R.gh
  fg := R.fg
  len := hl
  sl := fun i s e => by
    have hi : i < ρ.length := (List.getElem?_eq_some_iff.mp e).1
    have h := R.sl i s (by rw [List.getElem?_append_left hi]; exact e)
    rw [look_app_l (by omega)] at h
    exact h
  nd := by
    have := R.nd
    rw [feet_append] at this
    exact (List.nodup_append.mp this).1
  ap := fun a ha => R.ap a (by rw [feet_append]; exact List.mem_append_left _ ha)
/-- an own list is frozen -/
theorem Rep.freeze (R : Rep K G F H σ ρ) {i : Nat} {a : Addr} {xs : List PyData} {vs : List V} (h : ρ[i]? = some (.o a (.lst xs))) (hv : H a = some (.lst vs)) (d : DpAll K F vs xs) : Rep K G (upd F a (.lst vs)) H σ (ρ.set i (.d (.list xs))) := by
  have hi : i < ρ.length := (List.getElem?_eq_some_iff.mp h).1
  obtain ⟨hF, hG⟩ := notTup_of_foot R h (List.mem_cons_self ..)
  have e1 := same_new (o := HO.lst vs) hF
  have sub : (feet (ρ.set i (.d (.list xs)))).Sublist (feet ρ) := feet_set_sub rfl
  have hs : ∀ j t, j ≠ i → ρ[j]? = some t → a ∉ foot t := fun j t hj e hb => feet_apart R.nd (Ne.symm hj) h e (List.mem_cons_self ..) hb
  refine ⟨fun b o e => ?_, R.gh, fun b hb => ?_, by rw [List.length_set]; exact R.len, fun j t e => ?_, R.nd.sublist sub, fun b hb => ?_⟩
  · by_cases q : b = a
    · subst q; rw [upd_same] at e; cases e; exact hv
    · rw [upd_ne q] at e; exact R.fh b o e
  · by_cases q : b = a
    · subst q; exact hG
    · rw [upd_ne q] at hb; exact R.fg b hb
  · by_cases hj : j = i
    · subst hj
      rw [List.getElem?_set_self hi] at e
      cases e
      exact ⟨.ref a, (R.sl j _ h).1, .lst (SqL.of upd_same) (dpa_mono e1 _ _ d)⟩
    · rw [List.getElem?_set_ne (Ne.symm hj)] at e
      exact slOk_mono e1 (fun b _ o ho => ho) (R.sl j t e)
  · obtain ⟨t, ht, hb⟩ := List.mem_flatMap.mp hb
    obtain ⟨j, hj⟩ := List.getElem?_of_mem ht
    have hb' := R.ap b (sub.subset (List.mem_flatMap.mpr ⟨t, ht, hb⟩))
    refine ⟨?_, hb'.2⟩
    have ne : b ≠ a := by
      rintro rfl
      by_cases q : j = i
      · subst q
        rw [List.getElem?_set_self hi] at hj
        cases hj
        cases hb
      · rw [List.getElem?_set_ne (Ne.symm q)] at hj
        exact hs j t q hj hb
    rw [upd_ne ne]
    exact hb'.1
end

/-! ### targets -/
abbrev DTG := PyData → List Sl → (List Sl → Prop) → Prop
abbrev DTGs := List PyData → List Sl → (List Sl → Prop) → Prop
def cG (K : PySem.W.Frag) (T : DTG) : TG := fun v σ H R => ∃ G F ρ d Q, Rep K G F H σ ρ ∧ Dp K F v d ∧ T d ρ Q ∧ ∀ σ' ρ' F' H', Same F F' → Rep K G F' H' σ' ρ' → Q ρ' → R σ' H'
def cGs (K : PySem.W.Frag) (T : DTGs) : TGs := fun vs σ H R => ∃ G F ρ ds Q, Rep K G F H σ ρ ∧ DpAll K F vs ds ∧ T ds ρ Q ∧ ∀ σ' ρ' F' H', Same F F' → Rep K G F' H' σ' ρ' → Q ρ' → R σ' H'
abbrev DG (X : Cx) (e : Expr) (T : DTG) : Prop := PG X e (cG X.K T)
abbrev DGs (X : Cx) (es : List Expr) (T : DTGs) : Prop := PGs X es (cGs X.K T)
theorem pg_imp {X : Cx} {e : Expr} {t t' : TG} (h : PG X e t) (k : ∀ v σ H R, t' v σ H R → t v σ H R) : PG X e t' := ⟨fun pins s σ H v u Q I r q => h.run pins s σ H v u Q I r (k v σ H Q q)⟩
theorem pgs_imp {X : Cx} {e : List Expr} {t t' : TGs} (h : PGs X e t) (k : ∀ v σ H R, t' v σ H R → t v σ H R) : PGs X e t' := ⟨fun pins s σ H v u Q I r q => h.run pins s σ H v u Q I r (k v σ H Q q)⟩
def dgName (i : Nat) : DTG := fun x ρ Q => Q (ρ.set i (.d x))
def dgNil : DTGs := fun xs ρ Q => match xs with
  | [] => Q ρ
  | _ => False
def dgCons (T : DTG) (U : DTGs) : DTGs := fun xs ρ Q => match xs with
  | x :: r => T x ρ fun ρ1 => U r ρ1 Q
  | _ => False
def dgTup (n : Nat) (U : DTGs) : DTG := fun x ρ Q => asTup x fun xs => xs.length = n ∧ U xs ρ Q
section
variable {X : Cx} {e : Expr} {es : List Expr} {pos : Pos}
theorem dg_name {i : Nat} {x : Str} (h : PG X (.Name x pos) (gName i)) : DG X (.Name x pos) (dgName i) := pg_imp h fun v σ H R q => by
  obtain ⟨G, F, ρ, d, Q, r, dv, q, k⟩ := q
  exact k _ _ F H (Same.refl _) (r.putD dv) q
theorem dgs_nil : DGs X [] dgNil := pgs_imp pgs_nil fun vs σ H R q => by
  obtain ⟨G, F, ρ, ds, Q, r, dv, q, k⟩ := q
  unfold dgNil at q
  split at q
  · cases dv
    exact ⟨rfl, k _ _ F H (Same.refl _) r q⟩
  · exact q.elim
theorem dgs_cons {T : DTG} {U : DTGs} (h1 : DG X e T) (h2 : DGs X es U) (hs : (assignEach (e :: es) X.env).map (·.2) = assign e X.env :: (assignEach es X.env).map (·.2) := by rfl) : DGs X (e :: es) (dgCons T U) :=
  pgs_imp (pgs_cons h1 h2 hs) fun vs σ H R q => by
    obtain ⟨G, F, ρ, ds, Q, r, dv, q, k⟩ := q
    unfold dgCons at q
    split at q
    · cases dv with
      | cons d1 d2 =>
        refine ⟨_, _, rfl, G, F, ρ, _, _, r, d1, q, fun σ1 ρ1 F1 H1 e1 r1 q1 => ?_⟩
        exact ⟨G, F1, ρ1, _, _, r1, dpa_mono e1 _ _ d2, q1, fun σ2 ρ2 F2 H2 e2 r2 q2 => k σ2 ρ2 F2 H2 (e1.trans e2) r2 q2⟩
    · exact q.elim
theorem dg_tup {k n : Nat} {U : DTGs} (hc : X.calm = true) (h : DGs X es U) (hn : (assignEach es X.env).length = n := by rfl) (hst : (assignEach es X.env).findIdx? (·.1) = none := by rfl) : DG X (.Tuple es k pos) (dgTup n U) :=
  pg_imp (pg_tup hc h hn hst) fun v σ H R q => by
    obtain ⟨G, F, ρ, d, Q, r, dv, q, k⟩ := q
    obtain ⟨xs, rfl, hl, q⟩ := asTup_of q
    obtain ⟨a, vs, rfl, h1, h2⟩ := dp_tup dv
    exact ⟨a, vs, rfl, seqT r.fh h1, (dpa_len h2).trans hl, G, F, ρ, xs, Q, r, h2, q, k⟩
end

/-! ### small statements -/
section
variable {X : Cx} {e c : Expr} {st : Stmt} {rest a b : List Stmt} {pos : Pos} {Ta : DT} {T : DTT} {U V : DTS} {TG : DTG}
def dNext : DTS := fun D ρ => D.nx ρ
def dSeq (U V : DTS) : DTS := fun D ρ => U { D with nx := V D } ρ
theorem dss_nil : DSs X [] dNext := pss_imp pss_nil fun E σ H q => by
  obtain ⟨G, F, ρ, D, r, q, l⟩ := q
  exact l.nx σ ρ F H (Same.refl _) r q
theorem dss_cons (h1 : DS X st U) (h2 : DSs X rest V) : DSs X (st :: rest) (dSeq U V) := pss_imp (pss_cons h1 h2) fun E σ H q => by
  obtain ⟨G, F, ρ, D, r, q, l⟩ := q
  exact ⟨G, F, ρ, _, r, q, fun σ1 ρ1 F1 H1 e1 r1 q1 => ⟨G, F1, ρ1, D, r1, q1, l.mono e1⟩, l.rt, l.bk, l.ct, l.ro⟩
theorem dss_one (h1 : DS X st U) : DSs X [st] U := pss_one h1
def dBreak : DTS := fun D ρ => D.bk ρ
def dCont : DTS := fun D ρ => D.ct ρ
theorem ds_pass : DS X (.Pass pos) dNext := ps_imp ps_pass fun E σ H q => by
  obtain ⟨G, F, ρ, D, r, q, l⟩ := q
  exact l.nx σ ρ F H (Same.refl _) r q
theorem ds_break : DS X (.Break pos) dBreak := ps_imp ps_break fun E σ H q => by
  obtain ⟨G, F, ρ, D, r, q, l⟩ := q
  exact l.bk σ ρ F H (Same.refl _) r q
theorem ds_cont : DS X (.Continue pos) dCont := ps_imp ps_continue fun E σ H q => by
  obtain ⟨G, F, ρ, D, r, q, l⟩ := q
  exact l.ct σ ρ F H (Same.refl _) r q
def dDrop (Ta : DT) : DTS := fun D ρ => Ta ρ fun _ ρ1 => D.nx ρ1
theorem ds_expr (he : DE X e Ta) (hs : swapsWith e none pos.line X.env = pure false := by rfl) : DS X (.Expr e pos) (dDrop Ta) := ps_imp (ps_expr he hs) fun E σ H q => by
  obtain ⟨G, F, ρ, D, r, q, l⟩ := q
  exact ⟨G, F, ρ, _, r, q, fun v x ρ1 F1 H1 e1 r1 d1 q1 => l.nx σ ρ1 F1 H1 e1 r1 q1⟩
def dRet (Ta : DT) : DTS := fun D ρ => Ta ρ D.rt
theorem ds_ret (he : DE X e Ta) : DS X (.Return (some e) pos) (dRet Ta) := ps_imp (ps_ret he) fun E σ H q => by
  obtain ⟨G, F, ρ, D, r, q, l⟩ := q
  exact ⟨G, F, ρ, _, r, q, fun v x ρ1 F1 H1 e1 r1 d1 q1 => l.rt v x σ ρ1 F1 H1 e1 r1 d1 q1⟩
def dRetN : DTS := fun D ρ => D.rt .none ρ
theorem ds_retN : DS X (.Return none pos) dRetN := ps_imp ps_retN fun E σ H q => by
  obtain ⟨G, F, ρ, D, r, q, l⟩ := q
  exact l.rt .non .none σ ρ F H (Same.refl _) r .non q
def dIfS (T : DTT) (U V : DTS) : DTS := fun D ρ => T ρ fun b ρ1 => IfD b (U D ρ1) (V D ρ1)
theorem ds_if (hc : DB X c T) (ha : DSs X a U) (hb : DSs X b V) : DS X (.If c a b pos) (dIfS T U V) := ps_imp (ps_if hc ha hb) fun E σ H q => by
  obtain ⟨G, F, ρ, D, r, q, l⟩ := q
  refine ⟨G, F, ρ, _, r, q, fun b ρ1 F1 H1 e1 r1 q1 => ?_⟩
  cases b with
  | true => exact ⟨G, F1, ρ1, D, r1, q1.tt, l.mono e1⟩
  | false => exact ⟨G, F1, ρ1, D, r1, q1.ff, l.mono e1⟩
def dNever : DTS := fun _ _ => False
theorem ds_never : DS X st dNever := ps_imp ps_never fun E σ H q => by
  obtain ⟨G, F, ρ, D, r, q, l⟩ := q
  exact q.elim
theorem dss_never : DSs X a dNever := pss_imp pss_never fun E σ H q => by
  obtain ⟨G, F, ρ, D, r, q, l⟩ := q
  exact q.elim
def dAsg (Ta : DT) (TG : DTG) : DTS := fun D ρ => Ta ρ fun x ρ1 => TG x ρ1 D.nx
theorem cS_asg {K : PySem.W.Frag} {E : Ends} {σ : L2.St} {H : Hp} (q : cS K (dAsg Ta TG) E σ H) : tAsg (cT K Ta) (cG K TG) E σ H := by
  obtain ⟨G, F, ρ, D, r, q, l⟩ := q
  refine ⟨G, F, ρ, _, r, q, fun v x ρ1 F1 H1 e1 r1 d1 q1 => ?_⟩
  exact ⟨G, F1, ρ1, x, _, r1, d1, q1, fun σ2 ρ2 F2 H2 e2 r2 q2 => l.nx σ2 ρ2 F2 H2 (e1.trans e2) r2 q2⟩
theorem ds_asg {tg : Expr} (he : DE X e Ta) (hg : DG X tg TG) (hs : swapsWithSole [tg] e pos.line X.env = pure false := by rfl) (hw : swappedStores [tg] e X.env = pure none := by rfl)
    (h1 : (assignEach [tg] X.env).map (·.2) = [assign tg X.env] := by rfl) : DS X (.Assign [tg] e pos) (dAsg Ta TG) := ps_imp (ps_asg he hg hs hw h1) fun E σ H q => cS_asg q
theorem cG_name {K : PySem.W.Frag} {i : Nat} {v : L2.V} {σ : L2.St} {H : Hp} {R : L2.St → Hp → Prop} (q : cG K (dgName i) v σ H R) : gName i v σ H R := by
  obtain ⟨G, F, ρ, d, Q, r, dv, q, k⟩ := q
  exact k _ _ F H (Same.refl _) (r.putD dv) q
/-- name = e (data) -/
theorem ds_set {i : Nat} {x : Str} {pos' : Pos} (hN : X.N.Nodup) (hi : X.N[i]? = some x) (hx : Loc X.env.scope x) (he : DE X e Ta) (hs : swapsWith e (some (.Name x pos')) pos.line X.env = pure false := by rfl)
    (hf : X.fn x = true ∨ X.env.scope.names.lookup x = some .local := by first | exact .inl rfl | exact .inr rfl | assumption) : DS X (.Assign [.Name x pos'] e pos) (dAsg Ta (dgName i)) :=
  ps_imp (L2.ps_set hN hi hx he hs hf) fun E σ H q => by
    obtain ⟨G, F, ρ, D, r, q, l⟩ := q
    refine ⟨G, F, ρ, _, r, q, fun v x ρ1 F1 H1 e1 r1 d1 q1 => ?_⟩
    exact l.nx _ _ F1 H1 e1 (r1.putD d1) q1
/-- name op= e -/
def dAug (i : Nat) (Ta : DT) (o : PyData → PyData → (PyData → Prop) → Prop) : DTS := fun D ρ => match ρ[i]? with
  | some (.d x) => Ta ρ fun y ρ1 => o x y fun z => D.nx (ρ1.set i (.d z))
  | _ => False
def IpD (K : PySem.W.Frag) (r : TIp) (op : PyData → PyData → (PyData → Prop) → Prop) : Prop := OpD K r op
theorem od_ipI {K : PySem.W.Frag} {f : Int → Int → Int} : OpD K (ipI f) (oI0 fun i j => .int (f i j)) := by
  intro G F H σ ρ v u x y Q R r dv du q k
  obtain ⟨i, rfl, q1⟩ := asInt_of q
  obtain ⟨j, rfl, q2⟩ := asInt_of q1
  cases dp_int dv
  cases dp_int du
  exact ⟨i, j, rfl, rfl, k _ _ F H (Same.refl _) r (.int _) q2⟩
theorem ds_aug {i : Nat} {x : Str} {op : Operator} {ti : TIp} {pos' : Pos} {o : PyData → PyData → (PyData → Prop) → Prop} (hN : X.N.Nodup) (hi : X.N[i]? = some x) (hx : Loc X.env.scope x) (he : DE X e Ta) (ho : PIp X op ti) (od : OpD X.K ti o)
    (hf : X.fn x = true ∨ X.env.scope.names.lookup x = some .local := by first | exact .inl rfl | exact .inr rfl | assumption) : DS X (.AugAssign (.Name x pos') op e pos) (dAug i Ta o) :=
  ps_imp (ps_aug hN hi hx he ho hf) fun E σ H q => by
    obtain ⟨G, F, ρ, D, r, q, l⟩ := q
    unfold dAug at q
    split at q
    · rename_i y hy
      obtain ⟨v, e1, e2⟩ := r.sl i _ hy
      refine ⟨v, look_some e1, G, F, ρ, _, r, q, fun w z ρ1 F1 H1 e3 r1 d1 q1 => ?_⟩
      exact od G F1 H1 σ ρ1 v w y z _ _ r1 (dp_mono e3 _ _ e2) d1 q1 fun u t F2 H2 e4 r2 d2 q2 => l.nx _ _ F2 H2 (e3.trans e4) (r2.putD d2) q2
    · exact q.elim
end
end DL

namespace DL
open PySem PySem.Spec PyProof.Rows L2

/-! ### own lists -/
section
variable {X : Cx} {e o : Expr} {es : List Expr} {pos apos cpos : Pos} {Ta : DT} {Tr : DTA}
/-- name = [..], a list of one's own from here on -/
def dOwn (i : Nat) (Tr : DTA) : DTS := fun D ρ => Tr ρ fun xs ρ1 => xs.length ≤ sizeLine ∧ ∀ p, D.nx (ρ1.set i (.o p (.lst xs)))
theorem ds_own {i : Nat} {x : Str} {pos' epos : Pos} (hN : X.N.Nodup) (hi : X.N[i]? = some x) (hx : Loc X.env.scope x) (he : DA X es Tr) (hs : swapsWith (.List es epos) (some (.Name x pos')) pos.line X.env = pure false := by rfl)
    (hf : X.fn x = true ∨ X.env.scope.names.lookup x = some .local := by first | exact .inl rfl | exact .inr rfl | assumption) : DS X (.Assign [.Name x pos'] (.List es epos) pos) (dOwn i Tr) :=
  ps_imp (L2.ps_set hN hi hx (pe_lst he) hs hf) fun E σ H q => by
    obtain ⟨G, F, ρ, D, r, q, l⟩ := q
    refine ⟨G, F, ρ, _, r, q, fun vs xs ρ1 F1 H1 e1 r1 d1 q1 => ⟨by rw [dpa_len d1]; exact q1.1, fun p hp => ?_⟩⟩
    exact l.nx _ _ F1 _ e1 (r1.putOwn hp d1) (q1.2 p)
/-- name.append(e) -/
def dApp (i : Nat) (Ta : DT) : DTS := fun D ρ => match ρ[i]? with
  | some (.o _ (.lst _)) => Ta ρ fun x ρ1 => match ρ1[i]? with
    | some (.o p (.lst xs)) => xs.length < sizeLine ∧ D.nx (ρ1.set i (.o p (.lst (xs ++ [x]))))
    | _ => False
  | _ => False
theorem own_at {K : PySem.W.Frag} {G F H : Hp} {σ : L2.St} {ρ : List Sl} (r : Rep K G F H σ ρ) {i : Nat} {p : Addr} {xs : List PyData} (h : ρ[i]? = some (.o p (.lst xs))) : look σ i = some (.ref p) ∧ ∃ vs, H p = some (.lst vs) ∧ DpAll K F vs xs := r.sl i _ h
theorem isList_own {K : PySem.W.Frag} {H : Hp} {p : Addr} {vs : List V} (h : H p = some (.lst vs)) : tyV K "list" (.ref p) H := .inl ⟨rfl, vs, SqL.of h⟩
theorem upd_off {H : Hp} {p : Addr} {o : HO} : ∀ b, b ∉ [p] → upd H p o b = H b := fun b hb => upd_ne fun e => hb (by rw [e]; exact List.mem_cons_self ..)
theorem ds_app {x : Str} {npos : Pos} (i : Nat) (hn : PE X (.Name x npos) (tVar i)) (he : DE X e Ta)
    (hbase : attributeBase (.Name x npos) "append" X.env (eval (.Name x npos) X.env) = eval (.Name x npos) X.env := by rfl)
    (hfew : ((backTo cpos (starEach [e] X.env)).all (fun x => !x.1) && (backToKw cpos (keywordEach [] X.env)).all (fun x => x.1.isSome)
      && decide ([e].length + ([] : List Keyword).length + (if ([] : List Keyword).isEmpty then 0 else 1) < 30)) = true := by rfl)
    (hline : (apos.endLine == cpos.line) = true := by rfl) (hs : starEach [e] X.env = (false, eval e X.env) :: starEach [] X.env := by rfl)
    (hw : swapsWith (.Call (.Attribute (.Name x npos) "append" apos) [e] [] cpos) none pos.line X.env = pure false := by rfl) :
    DS X (.Expr (.Call (.Attribute (.Name x npos) "append" apos) [e] [] cpos) pos) (dApp i Ta) :=
  ps_imp (ps_expr (pe_bm PySem.F.plainAttrs_list PySem.F.slot_list_append PySem.F.type_list_append mt_append hn (pa_cons he pa_nil hs) hbase hfew hline hs rfl) hw) fun E σ H q => by
    obtain ⟨G, F, ρ, D, r, q, l⟩ := q
    unfold dApp at q
    split at q
    · rename_i p0 xs0 h0
      obtain ⟨l0, vs0, hv0, _⟩ := own_at r h0
      refine ⟨.ref p0, look_some l0, isList_own hv0, G, F, ρ, _, r, q, fun v x ρ1 F1 H1 e1 r1 d1 q1 => ?_⟩
      split at q1
      · rename_i p xs h1
        obtain ⟨l1, vs, hv, dv⟩ := own_at r1 h1
        have ep : p0 = p := by
          rw [l0] at l1
          injection l1 with l1
          injection l1
        subst ep
        refine ⟨p0, vs, v, rfl, rfl, hv, by rw [dpa_len dv]; exact q1.1, ?_⟩
        exact l.nx _ _ F1 _ e1 (r1.write (ob' := .lst (xs ++ [x])) h1 rfl upd_off ⟨_, upd_same, dpa_app dv (.cons d1 .nil)⟩) q1.2
      · exact q1.elim
    · exact q.elim
/-! freezing: a step of the ghost alone -/
def frz (i : Nat) (ρ : List Sl) : List Sl := match ρ[i]? with
  | some (.o _ (.lst xs)) => ρ.set i (.d (.list xs))
  | _ => ρ
theorem Rep.frz {K : PySem.W.Frag} {G F H : Hp} {σ : L2.St} {ρ : List Sl} (r : Rep K G F H σ ρ) (i : Nat) : ∃ F', Same F F' ∧ Rep K G F' H σ (frz i ρ) := by
  unfold DL.frz
  split
  · rename_i p xs h
    obtain ⟨_, vs, hv, dv⟩ := own_at r h
    exact ⟨_, same_new (notTup_of_foot r h (List.mem_cons_self ..)).1, r.freeze h hv dv⟩
  · exact ⟨F, Same.refl _, r⟩
def dFrz (i : Nat) (T : DT) : DT := fun ρ Q => T (frz i ρ) Q
theorem de_frz (i : Nat) (h : DE X e Ta) : DE X e (dFrz i Ta) := pe_imp h fun σ H R q => by
  obtain ⟨G, F, ρ, Q, r, q, k⟩ := q
  obtain ⟨F', e, r'⟩ := r.frz i
  exact ⟨G, F', frz i ρ, Q, r', q, fun v d ρ1 F1 H1 e1 => k v d ρ1 F1 H1 (e.trans e1)⟩
def dFrzS (i : Nat) (T : DTS) : DTS := fun D ρ => T D (frz i ρ)
theorem ds_frz {st : Stmt} {T : DTS} (i : Nat) (h : DS X st T) : DS X st (dFrzS i T) := ps_imp h fun E σ H q => by
  obtain ⟨G, F, ρ, D, r, q, l⟩ := q
  obtain ⟨F', e, r'⟩ := r.frz i
  exact ⟨G, F', frz i ρ, D, r', q, l.mono e⟩
theorem dss_frz {st : List Stmt} {T : DTS} (i : Nat) (h : DSs X st T) : DSs X st (dFrzS i T) := pss_imp h fun E σ H q => by
  obtain ⟨G, F, ρ, D, r, q, l⟩ := q
  obtain ⟨F', e, r'⟩ := r.frz i
  exact ⟨G, F', frz i ρ, D, r', q, l.mono e⟩
end

/-! ### iterators -/
structure ItOk (K : PySem.W.Frag) (F : Hp) (J : It) (items : List PyData) : Prop where
  go : ∀ i H, Same F H → i < items.length → J.go i H
  stop : ∀ H, Same F H → J.stop items.length H
  yld : ∀ i H x H' Fc d, Same F Fc → Same Fc H → items[i]? = some d → J.yld i H x H' → ∃ F', Same Fc F' ∧ Same F' H' ∧ Same H H' ∧ (∀ a, F' a ≠ none → Fc a = none → H a = none) ∧ Dp K F' x d
def cI (K : PySem.W.Frag) (T : DTA) : TI := fun σ H R => ∃ G F ρ Q, Rep K G F H σ ρ ∧ T ρ Q ∧
  ∀ items ρ' F' H' J, Same F F' → Rep K G F' H' σ ρ' → ItOk K F' J items → Q items ρ' → R J H'
abbrev DI (X : Cx) (tg e : Expr) (T : DTA) : Prop := PI X tg e (cI X.K T)
theorem pi_imp {X : Cx} {tg e : Expr} {t t' : TI} (h : PI X tg e t) (k : ∀ σ H R, t' σ H R → t σ H R) : PI X tg e t' := ⟨fun pins s σ H R I q => h.run pins s σ H R I (k σ H R q)⟩
section
variable {K : PySem.W.Frag} {F : Hp}
theorem it_list {a : Addr} {vs : List V} {xs : List PyData} (h : SqL K F a vs) (d : DpAll K F vs xs) : ItOk K F (Itl K a) xs where
  go := fun i H e hi => ⟨vs, vs[i]'(by rw [dpa_len d]; exact hi), e.seq h, List.getElem?_eq_getElem _⟩
  stop := fun H e => ⟨vs, e.seq h, by rw [dpa_len d]; exact Nat.le_refl _⟩
  yld := fun i H x H' Fc z e1 e2 hz y => by
    obtain ⟨rfl, y⟩ := y
    obtain ⟨v, h1, h2⟩ := dpa_get d hz
    have e : x = v := Option.some.inj ((y vs ((e1.trans e2).seq h)).symm.trans h1)
    subst e
    exact ⟨Fc, Same.refl _, e2, Same.refl _, fun a h n => absurd n h, dp_mono e1 _ _ h2⟩
theorem it_tup {a : Addr} {vs : List V} {xs : List PyData} (h : SqT K F a vs) (d : DpAll K F vs xs) : ItOk K F (Itt K a) xs where
  go := fun i H e hi => ⟨vs, vs[i]'(by rw [dpa_len d]; exact hi), seqT e h, List.getElem?_eq_getElem _⟩
  stop := fun H e => ⟨vs, seqT e h, by rw [dpa_len d]; exact Nat.le_refl _⟩
  yld := fun i H x H' Fc z e1 e2 hz y => by
    obtain ⟨rfl, y⟩ := y
    obtain ⟨v, h1, h2⟩ := dpa_get d hz
    have e : x = v := Option.some.inj ((y vs (seqT (e1.trans e2) h)).symm.trans h1)
    subst e
    exact ⟨Fc, Same.refl _, e2, Same.refl _, fun a h n => absurd n h, dp_mono e1 _ _ h2⟩
def rangeD (lo : Int) (n : Nat) : List PyData := (List.range n).map fun (i : Nat) => .int (lo + (i : Int))
theorem it_range {lo : Int} {n : Nat} : ItOk K F (Itr lo n) (rangeD lo n) where
  go := fun i H e hi => by
    show i < n
    simpa [rangeD] using hi
  stop := fun H e => by
    show n ≤ _
    simp [rangeD]
  yld := fun i H x H' Fc z e1 e2 hz y => by
    obtain ⟨rfl, rfl⟩ := y
    have hz' : z = .int (lo + (i : Int)) := by
      unfold rangeD at hz
      rw [List.getElem?_map] at hz
      cases q : (List.range n)[i]? with
      | none => rw [q] at hz; cases hz
      | some j =>
        rw [q] at hz
        have := List.getElem?_eq_some_iff.mp q
        obtain ⟨h1, h2⟩ := this
        rw [List.getElem_range] at h2
        subst h2
        exact (Option.some.inj hz).symm
    subst hz'
    exact ⟨Fc, Same.refl _, e2, Same.refl _, fun a h n => absurd n h, .int _⟩
/-- an iterator of new tuples -/
theorem it_pair {J : It} {items : List PyData} {w1 w2 : List V} {x1 x2 : List PyData} (hn : items = (List.zip x1 x2).map fun p => .tuple [p.1, p.2]) (d1 : DpAll K F w1 x1) (d2 : DpAll K F w2 x2)
    (go : ∀ i H x y, Same F H → w1[i]? = some x → w2[i]? = some y → J.go i H) (stop : ∀ i H, Same F H → (w1.length ≤ i ∨ w2.length ≤ i) → J.stop i H)
    (yld : ∀ i H v H', Same F H → J.yld i H v H' → ∃ T x y, v = .ref T ∧ H T = none ∧ H' = upd H T (.tup [x, y]) ∧ (∀ z, w1[i]? = some z → x = z) ∧ ∀ z, w2[i]? = some z → y = z) : ItOk K F J items where
  go := fun i H e hi => by
    rw [hn, List.length_map, List.length_zip] at hi
    have l1 := dpa_len d1
    have l2 := dpa_len d2
    exact go i H w1[i] w2[i] e (List.getElem?_eq_getElem (by omega)) (List.getElem?_eq_getElem (by omega))
  stop := fun H e => by
    have l1 := dpa_len d1
    have l2 := dpa_len d2
    refine stop _ H e ?_
    rw [hn, List.length_map, List.length_zip]
    omega
  yld := fun i H v H' Fc d e1 e2 hd yy => by
    obtain ⟨T, x, y, rfl, hT, rfl, f1, f2⟩ := yld i H v H' (e1.trans e2) yy
    rw [hn, List.getElem?_map] at hd
    cases q : (x1.zip x2)[i]? with
    | none => rw [q] at hd; cases hd
    | some p =>
      rw [q] at hd
      have hd' := Option.some.inj hd
      subst hd'
      have q' := List.getElem?_zip_eq_some.mp (show (x1.zip x2)[i]? = some (p.1, p.2) from q)
      obtain ⟨v1, g1, g2⟩ := dpa_get d1 q'.1
      obtain ⟨v2, g3, g4⟩ := dpa_get d2 q'.2
      cases f1 _ g1
      cases f2 _ g3
      have hF : Fc T = none := by
        cases z : Fc T with
        | none => rfl
        | some o => rw [e2 T o z] at hT; cases hT
      have eF := same_new (o := HO.tup [x, y]) hF
      refine ⟨upd Fc T (.tup [x, y]), eF, fun b o hb => ?_, same_new hT, fun b hb hn => ?_, .tup (SqT.of upd_same) (.cons (dp_mono (e1.trans eF) _ _ g2) (.cons (dp_mono (e1.trans eF) _ _ g4) .nil))⟩
      · by_cases z : b = T
        · subst z; rw [upd_same] at hb ⊢; exact hb
        · rw [upd_ne z] at hb ⊢; exact e2 b o hb
      · by_cases z : b = T
        · subst z; exact hT
        · rw [upd_ne z] at hb; exact absurd hn hb
end
section
variable {X : Cx} {tg e e2 : Expr} {Ta : DT} {Tr : DTA} {p pos tpos : Pos} {elts : List Expr} {kk : Nat}
def dIt (Ta : DT) : DTA := fun ρ Q => Ta ρ fun x ρ1 => asSeq x fun xs => Q xs ρ1
def dItL (Ta : DT) : DTA := fun ρ Q => Ta ρ fun x ρ1 => asLst x fun xs => Q xs ρ1
def dItT (Ta : DT) : DTA := fun ρ Q => Ta ρ fun x ρ1 => asTup x fun xs => Q xs ρ1
theorem di_list (h : DE X e Ta) : DI X tg e (dItL Ta) := pi_imp (pi_list h) fun σ H R q => by
  obtain ⟨G, F, ρ, Q, r, q, k⟩ := q
  refine ⟨G, F, ρ, _, r, q, fun v x ρ1 F1 H1 e1 r1 d1 q1 => ?_⟩
  obtain ⟨xs, rfl, q1⟩ := asLst_of q1
  obtain ⟨a, vs, rfl, h1, h2⟩ := dp_lst d1
  exact ⟨a, rfl, ⟨vs, r1.fh.seq h1⟩, k xs ρ1 F1 H1 _ e1 r1 (it_list h1 h2) q1⟩
theorem di_tup (h : DE X e Ta) : DI X tg e (dItT Ta) := pi_imp (pi_tup h) fun σ H R q => by
  obtain ⟨G, F, ρ, Q, r, q, k⟩ := q
  refine ⟨G, F, ρ, _, r, q, fun v x ρ1 F1 H1 e1 r1 d1 q1 => ?_⟩
  obtain ⟨xs, rfl, q1⟩ := asTup_of q1
  obtain ⟨a, vs, rfl, h1, h2⟩ := dp_tup d1
  exact ⟨a, rfl, ⟨vs, seqT r1.fh h1⟩, k xs ρ1 F1 H1 _ e1 r1 (it_tup h1 h2) q1⟩
def Rng (i : Int) : Prop := -(2 ^ 62) ≤ i ∧ i < 2 ^ 62
def dRng1 (Tr : DTA) : DTA := fun ρ Q => Tr ρ fun xs ρ1 => match xs with
  | [.int j] => Rng j ∧ Q (rangeD 0 j.toNat) ρ1
  | _ => False
def dRng2 (Tr : DTA) : DTA := fun ρ Q => Tr ρ fun xs ρ1 => match xs with
  | [.int i, .int j] => (Rng i ∧ Rng j) ∧ Q (rangeD i (j - i).toNat) ρ1
  | _ => False
theorem di_range1 {a : Expr} (hg : Gl X "range") (hm : X.mg "range" = none) (ha : DA X [a] Tr) (hs : starEach [a] X.env = [(false, eval a X.env)] := by rfl) : DI X tg (.Call (.Name "range" p) [a] [] pos) (dRng1 Tr) :=
  pi_imp (pi_range1 hg hm ha hs) fun σ H R q => by
    obtain ⟨G, F, ρ, Q, r, q, k⟩ := q
    refine ⟨G, F, ρ, _, r, q, fun vs xs ρ1 F1 H1 e1 r1 d1 q1 => ?_⟩
    split at q1
    · rename_i j
      cases d1 with
      | cons d1 d2 =>
        cases d2
        cases dp_int d1
        exact ⟨j, rfl, q1.1.1, q1.1.2, k _ ρ1 F1 H1 _ e1 r1 it_range q1.2⟩
    · exact q1.elim
theorem di_range2 {a b : Expr} (hg : Gl X "range") (hm : X.mg "range" = none) (ha : DA X [a, b] Tr) (hs : starEach [a, b] X.env = [(false, eval a X.env), (false, eval b X.env)] := by rfl) (hs2 : starEach [b] X.env = [(false, eval b X.env)] := by rfl) :
    DI X tg (.Call (.Name "range" p) [a, b] [] pos) (dRng2 Tr) :=
  pi_imp (pi_range2 hg hm ha hs hs2) fun σ H R q => by
    obtain ⟨G, F, ρ, Q, r, q, k⟩ := q
    refine ⟨G, F, ρ, _, r, q, fun vs xs ρ1 F1 H1 e1 r1 d1 q1 => ?_⟩
    split at q1
    · rename_i i j
      cases d1 with
      | cons d1 d2 =>
        cases d2 with
        | cons d2 d3 =>
          cases d3
          cases dp_int d1
          cases dp_int d2
          exact ⟨i, j, rfl, ⟨q1.1.1.1, q1.1.1.2, q1.1.2.1, q1.1.2.2⟩, k _ ρ1 F1 H1 _ e1 r1 it_range q1.2⟩
    · exact q1.elim
def pairD (xs ys : List PyData) : List PyData := (List.zip xs ys).map fun p => .tuple [p.1, p.2]
/-- zip of two lists, or of two tuples -/
def dZip (Tr : DTA) : DTA := fun ρ Q => Tr ρ fun xs ρ1 => match xs with
  | [.list xs, .list ys] => Q (pairD xs ys) ρ1
  | [.tuple xs, .tuple ys] => Q (pairD xs ys) ρ1
  | _ => False
theorem di_zip (hg : Gl X "zip") (hm : X.mg "zip" = none) (ha : DA X [e, e2] Tr) (hs : starEach [e, e2] X.env = (false, eval e X.env) :: starEach [e2] X.env := by rfl) (hpl : (backTo pos (starEach [e2] X.env)).any (·.1) = false := by rfl) :
    DI X (.Tuple elts kk tpos) (.Call (.Name "zip" p) [e, e2] [] pos) (dZip Tr) :=
  pi_imp (RZ.pi_zipA hg hm ha hs hpl) fun σ H R q => by
    obtain ⟨G, F, ρ, Q, r, q, k⟩ := q
    refine ⟨G, F, ρ, _, r, q, fun vs xs ρ1 F1 H1 e1 r1 d1 q1 => ?_⟩
    split at q1
    · rename_i xs ys
      cases d1 with
      | cons d1 d2 =>
        cases d2 with
        | cons d2 d3 =>
          cases d3
          obtain ⟨a, ws, rfl, h1, h2⟩ := dp_lst d1
          obtain ⟨b, us, rfl, h3, h4⟩ := dp_lst d2
          refine ⟨a, b, ws, us, rfl, .inl ⟨r1.fh.seq h1, r1.fh.seq h3, k _ ρ1 F1 H1 _ e1 r1 (it_pair rfl h2 h4 (fun i H x y e g1 g2 => ⟨ws, us, x, y, e.seq h1, e.seq h3, g1, g2⟩) (fun i H e hi => ⟨ws, us, e.seq h1, e.seq h3, hi⟩) fun i H v H' e y => ?_) q1⟩⟩
          obtain ⟨T, x, y, rfl, hT, rfl, f1, f2⟩ := y
          exact ⟨T, x, y, rfl, hT, rfl, fun z hz => Option.some.inj ((f1 _ (e.seq h1)).symm.trans hz), fun z hz => Option.some.inj ((f2 _ (e.seq h3)).symm.trans hz)⟩
    · rename_i xs ys
      cases d1 with
      | cons d1 d2 =>
        cases d2 with
        | cons d2 d3 =>
          cases d3
          obtain ⟨a, ws, rfl, h1, h2⟩ := dp_tup d1
          obtain ⟨b, us, rfl, h3, h4⟩ := dp_tup d2
          refine ⟨a, b, ws, us, rfl, .inr ⟨seqT r1.fh h1, seqT r1.fh h3, k _ ρ1 F1 H1 _ e1 r1 (it_pair rfl h2 h4 (fun i H x y e g1 g2 => ⟨ws, us, x, y, seqT e h1, seqT e h3, g1, g2⟩) (fun i H e hi => ⟨ws, us, seqT e h1, seqT e h3, hi⟩) fun i H v H' e y => ?_) q1⟩⟩
          obtain ⟨T, x, y, rfl, hT, rfl, f1, f2⟩ := y
          exact ⟨T, x, y, rfl, hT, rfl, fun z hz => Option.some.inj ((f1 _ (seqT e h1)).symm.trans hz), fun z hz => Option.some.inj ((f2 _ (seqT e h3)).symm.trans hz)⟩
    · exact q1.elim
end

/-! ### for, while -/
def forD (TG : DTG) (TB : DTS) (D : DEnds) : List PyData → List Sl → Prop
  | [], ρ => D.nx ρ
  | x :: xs, ρ => TG x ρ fun ρ2 => TB { nx := forD TG TB D xs, rt := D.rt, bk := D.nx, ct := forD TG TB D xs, ro := D.ro } ρ2
def dFor (TI : DTA) (TG : DTG) (TB : DTS) : DTS := fun D ρ => TI ρ fun items ρ1 => forD TG TB D items ρ1
def whileN (TC : DTT) (TB : DTS) (D : DEnds) : Nat → List Sl → Prop
  | 0, _ => False
  | n + 1, ρ => TC ρ fun b ρ1 => IfD b (TB { nx := whileN TC TB D n, rt := D.rt, bk := D.nx, ct := whileN TC TB D n, ro := D.ro } ρ1) (D.nx ρ1)
def dWhile (TC : DTT) (TB : DTS) : DTS := fun D ρ => ∃ n, whileN TC TB D n ρ
section
variable {X : Cx} {tg iter c : Expr} {body : List Stmt} {pos : Pos} {TI : DTA} {TG : DTG} {TB : DTS} {TC : DTT}
theorem ds_for (hp : PassesOwn (model X.prog X.w) X.A X.env X.xe) (hc : X.calm = true) (hi : DI X tg iter TI) (hg : DG X tg TG) (hb : DSs X body TB) (hs : ∀ x, foldedSetIterable iter X.env x = pure x := by intro _; rfl) :
    DS X (.For tg iter body [] pos) (dFor TI TG TB) := ps_imp (ps_for hp hc hi hg hb hs) fun E σ H q => by
  obtain ⟨G, F, ρ, D, r, q, l⟩ := q
  refine ⟨G, F, ρ, _, r, q, fun items ρ1 F1 H1 J e1 r1 it q1 => ?_⟩
  refine ⟨fun i m σ H => ∃ F2 ρ2, Same F1 F2 ∧ Rep X.K G F2 H σ ρ2 ∧ i ≤ items.length ∧ m = items.length - i ∧ forD TG TB D (items.drop i) ρ2, ⟨items.length, F1, ρ1, Same.refl _, r1, Nat.zero_le _, rfl, q1⟩, ?_⟩
  rintro i m σ2 H2 ⟨F2, ρ2, e2, r2, hi, rfl, q2⟩
  by_cases hlt : i < items.length
  · rw [List.drop_eq_getElem_cons hlt] at q2
    refine .inr ⟨it.go i H2 (e2.trans r2.fh) hlt, fun σ' H' => ∃ F' ρ', Same F1 F' ∧ Rep X.K G F' H' σ' ρ' ∧ forD TG TB D (items.drop (i + 1)) ρ', fun σ' H' ⟨F', ρ', e', r', q'⟩ => ⟨items.length - (i + 1), by omega, F', ρ', e', r', hlt, rfl, q'⟩, fun x H3 y => ?_⟩
    obtain ⟨F3, a1, a2, a3, a4, d3⟩ := it.yld i H2 x H3 F2 items[i] e2 r2.fh (List.getElem?_eq_getElem hlt) y
    have r3 := r2.grow a1 a3 a2 a4
    refine ⟨G, F3, ρ2, items[i], _, r3, d3, q2, fun σ4 ρ4 F4 H4 e4 r4 q4 => ?_⟩
    have e14 := e2.trans (a1.trans e4)
    have le := (l.mono e1).mono e14
    exact ⟨G, F4, ρ4, _, r4, q4, fun σ5 ρ5 F5 H5 e5 r5 q5 => ⟨F5, ρ5, e14.trans e5, r5, q5⟩, le.rt, le.nx, (fun σ5 ρ5 F5 H5 e5 r5 q5 => ⟨F5, ρ5, e14.trans e5, r5, q5⟩), le.ro⟩
  · have e : i = items.length := by omega
    subst e
    rw [List.drop_length] at q2
    exact .inl ⟨it.stop H2 (e2.trans r2.fh), l.nx σ2 ρ2 F2 H2 (e1.trans e2) r2 q2⟩
theorem ds_while (hp : PassesOwn (model X.prog X.w) X.A X.env X.xe) (hc : DB X c TC) (hb : DSs X body TB) : DS X (.While c body [] pos) (dWhile TC TB) := ps_imp (ps_while hp hc hb) fun E σ H q => by
  obtain ⟨G, F, ρ, D, r, ⟨n, q⟩, l⟩ := q
  refine ⟨fun m σ H => ∃ F2 ρ2, Same F F2 ∧ Rep X.K G F2 H σ ρ2 ∧ whileN TC TB D m ρ2, ⟨n, F, ρ, Same.refl _, r, q⟩, ?_⟩
  rintro m σ2 H2 ⟨F2, ρ2, e2, r2, q2⟩
  cases m with
  | zero => exact q2.elim
  | succ m =>
    refine ⟨G, F2, ρ2, _, r2, q2, fun b ρ3 F3 H3 e3 r3 q3 => ?_⟩
    have e13 := e2.trans e3
    have le := l.mono e13
    cases b with
    | true => exact ⟨fun σ' H' => ∃ F' ρ', Same F F' ∧ Rep X.K G F' H' σ' ρ' ∧ whileN TC TB D m ρ', fun σ' H' ⟨F', ρ', e', r', q'⟩ => ⟨m, Nat.lt_succ_self _, F', ρ', e', r', q'⟩, G, F3, ρ3, _, r3, q3.tt,
        fun σ5 ρ5 F5 H5 e5 r5 q5 => ⟨F5, ρ5, e13.trans e5, r5, q5⟩, le.rt, le.nx, (fun σ5 ρ5 F5 H5 e5 r5 q5 => ⟨F5, ρ5, e13.trans e5, r5, q5⟩), le.ro⟩
    | false => exact le.nx σ2 ρ3 F3 H3 (Same.refl _) r3 q3.ff
end
end DL

namespace DL
open PySem PySem.Spec PyProof.Rows L2

/-! ### comprehensions -/
def wipeD (ρ : List Sl) : List Nat → List Sl
  | [] => ρ
  | v :: vs => (wipeD ρ vs).set v .un
def unw (ρ ρ4 : List Sl) : List Nat → List Sl
  | [] => ρ4
  | v :: vs => (unw ρ ρ4 vs).set v (ρ[v]?.getD .un)
def bare : Sl → Bool
  | .o _ _ => false
  | _ => true
def clr (ρ : List Sl) (vs : List Nat) : Bool := vs.all fun v => bare (ρ[v]?.getD .un)
theorem bare_foot {s : Sl} (h : bare s = true) : foot s = [] := by
  cases s with
  | o a ob => cases h
  | _ => rfl
section
variable {K : PySem.W.Frag} {G F F' H H' : Hp} {σ σ2 : L2.St} {ρ ρ4 : List Sl}
theorem look_wipe {j : Nat} : ∀ {vs : List Nat}, look (wipe σ vs) j = if j ∈ vs then none else look σ j
  | [] => by simp [wipe]
  | v :: vs => by
    have ih := look_wipe (j := j) (vs := vs)
    unfold wipe
    by_cases e : v = j
    · subst e
      rw [if_pos (List.mem_cons_self ..)]
      unfold look
      by_cases hl : v < (wipe σ vs).length
      · rw [List.getElem?_set_self hl]
      · rw [List.getElem?_eq_none (by rw [List.length_set]; omega)]
    · have : look ((wipe σ vs).set v none) j = look (wipe σ vs) j := by
        unfold look
        rw [List.getElem?_set_ne e]
      rw [this, ih]
      by_cases hm : j ∈ vs
      · rw [if_pos hm, if_pos (List.mem_cons_of_mem _ hm)]
      · rw [if_neg hm, if_neg (fun q => (List.mem_cons.mp q).elim (fun z => e z.symm) hm)]
theorem wipe_set {i : Nat} {x : Option V} : ∀ {vs : List Nat}, i ∈ vs → wipe (σ.set i x) vs = wipe σ vs
  | [], h => by cases h
  | v :: vs, h => by
    unfold wipe
    by_cases hm : i ∈ vs
    · rw [wipe_set hm]
    · have e : i = v := by
        rcases List.mem_cons.mp h with e | e
        · exact e
        · exact absurd e hm
      subst e
      have key : ∀ {ws : List Nat} {τ : L2.St}, i ∉ ws → wipe (τ.set i x) ws = (wipe τ ws).set i x := by
        intro ws
        induction ws with
        | nil => intro τ _; rfl
        | cons w ws ih =>
          intro τ hw
          unfold wipe
          rw [ih (fun q => hw (List.mem_cons_of_mem _ q)), List.set_comm _ _ (by intro q; subst q; exact hw (List.mem_cons_self ..))]
      rw [key hm, List.set_set]
theorem wipe_wipe : ∀ {vs : List Nat}, wipe (wipe σ vs) vs = wipe σ vs := by
  have key : ∀ (vs ws : List Nat), (∀ v ∈ vs, v ∈ ws) → wipe (wipe σ vs) ws = wipe σ ws := by
    intro vs
    induction vs with
    | nil => intro ws _; rfl
    | cons v vs ih =>
      intro ws h
      show wipe ((wipe σ vs).set v none) ws = _
      rw [wipe_set (h v (List.mem_cons_self ..)), ih ws fun u hu => h u (List.mem_cons_of_mem _ hu)]
  intro vs
  exact key vs vs fun _ h => h
theorem wipeD_length : ∀ (vs : List Nat), (wipeD ρ vs).length = ρ.length
  | [] => rfl
  | v :: vs => by unfold wipeD; rw [List.length_set, wipeD_length vs]
theorem wipeD_get {j : Nat} {s : Sl} : ∀ {vs : List Nat}, (wipeD ρ vs)[j]? = some s → s = .un ∨ (ρ[j]? = some s ∧ j ∉ vs)
  | [], h => .inr ⟨h, by simp⟩
  | v :: vs, h => by
    unfold wipeD at h
    by_cases e : v = j
    · subst e
      by_cases hl : v < (wipeD ρ vs).length
      · rw [List.getElem?_set_self hl] at h
        exact .inl (Option.some.inj h).symm
      · rw [List.getElem?_eq_none (by rw [List.length_set]; omega)] at h
        cases h
    · rw [List.getElem?_set_ne e] at h
      rcases wipeD_get h with q | ⟨q, hn⟩
      · exact .inl q
      · exact .inr ⟨q, fun z => (List.mem_cons.mp z).elim (fun z => e z.symm) hn⟩
theorem feet_wipeD : ∀ (vs : List Nat), (feet (wipeD ρ vs)).Sublist (feet ρ)
  | [] => List.Sublist.refl _
  | v :: vs => (feet_set_sub rfl).trans (feet_wipeD vs)
theorem Rep.wipe (R : Rep K G F H σ ρ) (vs : List Nat) : Rep K G F H (wipe σ vs) (wipeD ρ vs) where
  fh := R.fh
  gh := R.gh
  fg := R.fg
  len := by rw [wipeD_length, wipe_length]; exact R.len
  sl := fun j s e => by
    rcases wipeD_get e with q | ⟨q, hn⟩
    · rw [q]; trivial
    · rw [look_wipe, if_neg hn]
      exact R.sl j s q
  nd := R.nd.sublist (feet_wipeD vs)
  ap := fun a ha => R.ap a ((feet_wipeD vs).subset ha)
theorem unw_length : ∀ (vs : List Nat), (unw ρ ρ4 vs).length = ρ4.length
  | [] => rfl
  | v :: vs => by unfold unw; rw [List.length_set, unw_length vs]
theorem unw_get {j : Nat} {s : Sl} : ∀ {vs : List Nat}, (unw ρ ρ4 vs)[j]? = some s → (j ∈ vs ∧ s = ρ[j]?.getD .un) ∨ (ρ4[j]? = some s ∧ j ∉ vs)
  | [], h => .inr ⟨h, by simp⟩
  | v :: vs, h => by
    unfold unw at h
    by_cases e : v = j
    · subst e
      by_cases hl : v < (unw ρ ρ4 vs).length
      · rw [List.getElem?_set_self hl] at h
        exact .inl ⟨List.mem_cons_self .., (Option.some.inj h).symm⟩
      · rw [List.getElem?_eq_none (by rw [List.length_set]; omega)] at h
        cases h
    · rw [List.getElem?_set_ne e] at h
      rcases unw_get h with ⟨q1, q2⟩ | ⟨q, hn⟩
      · exact .inl ⟨List.mem_cons_of_mem _ q1, q2⟩
      · exact .inr ⟨q, fun z => (List.mem_cons.mp z).elim (fun z => e z.symm) hn⟩
theorem feet_unw : ∀ (vs : List Nat), clr ρ vs = true → (feet (unw ρ ρ4 vs)).Sublist (feet ρ4)
  | [], _ => List.Sublist.refl _
  | v :: vs, h => by
    unfold clr at h
    rw [List.all_cons, Bool.and_eq_true] at h
    exact (feet_set_sub (bare_foot h.1)).trans (feet_unw vs h.2)
/-- the block's own slots as they were -/
theorem Rep.unwipe (R : Rep K G F' H' σ2 ρ4) (R0 : Rep K G F H σ ρ) (e : Same F F') {vs : List Nat} (hw : L2.wipe σ2 vs = L2.wipe σ vs) (hc : clr ρ vs = true) : Rep K G F' H' σ (unw ρ ρ4 vs) where
  fh := R.fh
  gh := R.gh
  fg := R.fg
  len := by
    have h1 := congrArg List.length hw
    rw [wipe_length, wipe_length] at h1
    rw [unw_length, R.len, h1]
  sl := fun j s q => by
    rcases unw_get q with ⟨hj, rfl⟩ | ⟨q, hn⟩
    · cases z : ρ[j]? with
      | none => trivial
      | some t =>
        have hb : bare t = true := by
          have := List.all_eq_true.mp hc j hj
          rw [z] at this
          exact this
        have h0 := R0.sl j t z
        refine slOk_mono e (fun b hb' => ?_) h0
        rw [show foot ((some t).getD .un) = foot t from rfl, bare_foot hb] at hb'
        cases hb'
    · have h1 : look σ2 j = look σ j := by
        have a := look_wipe (σ := σ2) (j := j) (vs := vs)
        have b := look_wipe (σ := σ) (j := j) (vs := vs)
        rw [if_neg hn] at a b
        rw [← a, ← b, hw]
      rw [← h1]
      exact R.sl j s q
  nd := R.nd.sublist (feet_unw vs hc)
  ap := fun a ha => R.ap a ((feet_unw vs hc).subset ha)
/-- a foreign object: laid, changed, frozen -/
theorem Rep.inG (R : Rep K G F H σ ρ) {p : Addr} {o : HO} (hp : H p = none) : Rep K (upd G p o) F (upd H p o) σ ρ where
  fh := fun b u e => by rw [upd_ne (fun z => by rw [z, R.fresh hp] at e; cases e)]; exact R.fh b u e
  gh := fun b u e => by
    by_cases q : b = p
    · subst q; rw [upd_same] at e ⊢; exact e
    · rw [upd_ne q] at e ⊢; exact R.gh b u e
  fg := fun b hb => by
    rw [upd_ne (fun z => hb (by rw [z]; exact R.fresh hp))]
    exact R.fg b hb
  len := R.len
  sl := fun i s e => slOk_mono (Same.refl _) (fun b hb o ho => by rw [upd_ne (ne_of_none ho hp)]; exact ho) (R.sl i s e)
  nd := R.nd
  ap := fun a ha => ⟨(R.ap a ha).1, by rw [upd_ne (by intro z; subst z; exact R.notFoot hp ha)]; exact (R.ap a ha).2⟩
theorem Rep.reG {p : Addr} {o o' : HO} (R : Rep K (upd G p o) F H σ ρ) : Rep K (upd G p o') F (upd H p o') σ ρ := by
  have hF : F p = none := by
    cases q : F p with
    | none => rfl
    | some u => have := R.fg p (by rw [q]; simp); rw [upd_same] at this; cases this
  have nf : ∀ a ∈ feet ρ, a ≠ p := fun a ha z => by
    have := (R.ap a ha).2
    rw [z, upd_same] at this; cases this
  refine ⟨fun b u e => ?_, fun b u e => ?_, fun b hb => ?_, R.len, fun i s e => slOk_mono (Same.refl _) (fun b hb o ho => ?_) (R.sl i s e), R.nd, fun a ha => ⟨(R.ap a ha).1, ?_⟩⟩
  · rw [upd_ne (fun z => by rw [z, hF] at e; cases e)]; exact R.fh b u e
  · by_cases q : b = p
    · subst q; rw [upd_same] at e ⊢; exact e
    · rw [upd_ne q] at e ⊢; exact R.gh b u (by rw [upd_ne q]; exact e)
  · have ne : b ≠ p := fun z => hb (by rw [z]; exact hF)
    rw [upd_ne ne]
    have := R.fg b hb
    rw [upd_ne ne] at this
    exact this
  · rw [upd_ne (nf b (mem_feet e hb))]; exact ho
  · have := (R.ap a ha).2
    rw [upd_ne (nf a ha)] at this ⊢
    exact this
theorem Rep.outG {p : Addr} {o : HO} (R : Rep K (upd G p o) F H σ ρ) (hG : G p = none) : Rep K G (upd F p o) H σ ρ ∧ Same F (upd F p o) := by
  have hF : F p = none := by
    cases q : F p with
    | none => rfl
    | some u => have := R.fg p (by rw [q]; simp); rw [upd_same] at this; cases this
  have nf : ∀ a ∈ feet ρ, a ≠ p := fun a ha z => by
    have := (R.ap a ha).2
    rw [z, upd_same] at this; cases this
  have e1 := same_new (o := o) hF
  refine ⟨⟨fun b u e => ?_, fun b u e => ?_, fun b hb => ?_, R.len, fun i s e => slOk_mono e1 (fun b hb o ho => ho) (R.sl i s e), R.nd, fun a ha => ⟨?_, ?_⟩⟩, e1⟩
  · by_cases q : b = p
    · subst q; rw [upd_same] at e; cases e; exact R.gh b o upd_same
    · rw [upd_ne q] at e; exact R.fh b u e
  · exact R.gh b u (by rw [upd_ne (fun z => by rw [z, hG] at e; cases e)]; exact e)
  · by_cases q : b = p
    · subst q; exact hG
    · rw [upd_ne q] at hb
      have := R.fg b hb
      rw [upd_ne q] at this
      exact this
  · rw [upd_ne (nf a ha)]; exact (R.ap a ha).1
  · have := (R.ap a ha).2
    rw [upd_ne (nf a ha)] at this
    exact this
end

/-- targets within a block: only the block's own slots change -/
def cW (K : PySem.W.Frag) (vs : List Nat) (T : DTG) : TG := fun v σ H R => ∃ G F ρ d Q, Rep K G F H σ ρ ∧ Dp K F v d ∧ T d ρ Q ∧ ∀ σ' ρ' F' H', Same F F' → Rep K G F' H' σ' ρ' → L2.wipe σ' vs = L2.wipe σ vs → Q ρ' → R σ' H'
def cWs (K : PySem.W.Frag) (vs : List Nat) (T : DTGs) : TGs := fun us σ H R => ∃ G F ρ ds Q, Rep K G F H σ ρ ∧ DpAll K F us ds ∧ T ds ρ Q ∧ ∀ σ' ρ' F' H', Same F F' → Rep K G F' H' σ' ρ' → L2.wipe σ' vs = L2.wipe σ vs → Q ρ' → R σ' H'
section
variable {X : Cx} {vs : List Nat} {e : Expr} {es : List Expr} {pos : Pos}
theorem dw_name {i : Nat} {x : Str} (h : PG X (.Name x pos) (gName i)) (hi : i ∈ vs) : PG X (.Name x pos) (cW X.K vs (dgName i)) := pg_imp h fun v σ H R q => by
  obtain ⟨G, F, ρ, d, Q, r, dv, q, k⟩ := q
  exact k _ _ F H (Same.refl _) (r.putD dv) (wipe_set hi) q
theorem dws_nil : PGs X [] (cWs X.K vs dgNil) := pgs_imp pgs_nil fun us σ H R q => by
  obtain ⟨G, F, ρ, ds, Q, r, dv, q, k⟩ := q
  unfold dgNil at q
  split at q
  · cases dv
    exact ⟨rfl, k _ _ F H (Same.refl _) r rfl q⟩
  · exact q.elim
theorem dws_cons {T : DTG} {U : DTGs} (h1 : PG X e (cW X.K vs T)) (h2 : PGs X es (cWs X.K vs U)) (hs : (assignEach (e :: es) X.env).map (·.2) = assign e X.env :: (assignEach es X.env).map (·.2) := by rfl) : PGs X (e :: es) (cWs X.K vs (dgCons T U)) :=
  pgs_imp (pgs_cons h1 h2 hs) fun us σ H R q => by
    obtain ⟨G, F, ρ, ds, Q, r, dv, q, k⟩ := q
    unfold dgCons at q
    split at q
    · cases dv with
      | cons d1 d2 =>
        refine ⟨_, _, rfl, G, F, ρ, _, _, r, d1, q, fun σ1 ρ1 F1 H1 e1 r1 w1 q1 => ?_⟩
        exact ⟨G, F1, ρ1, _, _, r1, dpa_mono e1 _ _ d2, q1, fun σ2 ρ2 F2 H2 e2 r2 w2 q2 => k σ2 ρ2 F2 H2 (e1.trans e2) r2 (w2.trans w1) q2⟩
    · exact q.elim
theorem dw_tup {k n : Nat} {U : DTGs} (hc : X.calm = true) (h : PGs X es (cWs X.K vs U)) (hn : (assignEach es X.env).length = n := by rfl) (hst : (assignEach es X.env).findIdx? (·.1) = none := by rfl) : PG X (.Tuple es k pos) (cW X.K vs (dgTup n U)) :=
  pg_imp (pg_tup hc h hn hst) fun v σ H R q => by
    obtain ⟨G, F, ρ, d, Q, r, dv, q, k⟩ := q
    obtain ⟨xs, rfl, hl, q⟩ := asTup_of q
    obtain ⟨a, ws, rfl, h1, h2⟩ := dp_tup dv
    exact ⟨a, ws, rfl, seqT r.fh h1, (dpa_len h2).trans hl, G, F, ρ, xs, Q, r, h2, q, k⟩
end
def dYes : DTT := fun ρ Q => Q true ρ
theorem pts_imp {X : Cx} {ifs : List Expr} {t t' : TT} (h : PTs X ifs t) (k : ∀ σ H R, t' σ H R → t σ H R) : PTs X ifs t' := ⟨fun pins s σ H Q I q => h.run pins s σ H Q I (k σ H Q q)⟩
theorem dts_nil {X : Cx} : PTs X [] (cB X.K dYes) := pts_imp pts_nil fun σ H R q => by
  obtain ⟨G, F, ρ, Q, r, q, k⟩ := q
  exact k true ρ F H (Same.refl _) r q
theorem dts_one {X : Cx} {c : Expr} {T : DTT} (h : DB X c T) : PTs X [c] (cB X.K T) := pts_one h

def turnD (vs : List Nat) (TG : DTG) (TT : DTT) (Te : DT) (ρ : List Sl) (x : PyData) (kk : Option PyData → List Sl → Prop) : Prop :=
  TG x (wipeD ρ vs) fun ρ2 => TT ρ2 fun b ρ3 => IfD b (Te ρ3 fun y ρ4 => kk (some y) (unw ρ ρ4 vs)) (kk none (unw ρ ρ3 vs))
def compD (vs : List Nat) (TG : DTG) (TT : DTT) (Te : DT) : List PyData → List Sl → (List PyData → List Sl → Prop) → Prop
  | [], ρ, k => k [] ρ
  | x :: xs, ρ, k => clr ρ vs = true ∧ turnD vs TG TT Te ρ x fun o ρ' => compD vs TG TT Te xs ρ' fun ys ρ'' => k (o.toList ++ ys) ρ''
def dLc (vs : List Nat) (TI : DTA) (TG : DTG) (TT : DTT) (Te : DT) : DT := fun ρ Q => TI ρ fun items ρ1 => items.length ≤ sizeLine ∧ compD vs TG TT Te items ρ1 fun ys ρ' => Q (.list ys) ρ'
theorem cT_lc {K : PySem.W.Frag} {vs : List Nat} {TI : DTA} {TG : DTG} {TT : DTT} {Te : DT} {σ : L2.St} {H : Hp} {R : VK} (q : cT K (dLc vs TI TG TT Te) σ H R) : tLc (cI K TI) (cW K vs TG) (cB K TT) (cT K Te) vs σ H R := by
  obtain ⟨G, F, ρ, Q, r, q, k⟩ := q
  refine ⟨G, F, ρ, _, r, q, fun items ρ1 F1 H1 J e1 r1 it q1 => fun D hD => ?_⟩
  obtain ⟨hsz, q1⟩ := q1
  have hG := r1.freshG hD
  refine ⟨fun i m H => ∃ F2 ρ2 acc accV, Same F1 F2 ∧ Rep K (upd G D (.lst accV)) F2 H σ ρ2 ∧ DpAll K F2 accV acc ∧ acc.length ≤ i ∧ i ≤ items.length ∧ m = items.length - i ∧ compD vs TG TT Te (items.drop i) ρ2 fun ys ρ' => Q (.list (acc ++ ys)) ρ',
    ⟨items.length, F1, ρ1, [], [], Same.refl _, r1.inG hD, .nil, Nat.zero_le _, Nat.zero_le _, rfl, q1⟩, ?_⟩
  rintro i m H2 ⟨F2, ρ2, acc, accV, e2, r2, dacc, hacc, hi, rfl, q2⟩
  by_cases hlt : i < items.length
  · rw [List.drop_eq_getElem_cons hlt] at q2
    obtain ⟨hclr, q2⟩ := q2
    refine .inr ⟨it.go i H2 (e2.trans r2.fh) hlt, fun H' => ∃ F' ρ' acc' accV', Same F1 F' ∧ Rep K (upd G D (.lst accV')) F' H' σ ρ' ∧ DpAll K F' accV' acc' ∧ acc'.length ≤ i + 1 ∧ compD vs TG TT Te (items.drop (i + 1)) ρ' fun ys ρ'' => Q (.list (acc' ++ ys)) ρ'',
      fun H' ⟨F', ρ', acc', accV', e', r', d', l', q'⟩ => ⟨items.length - (i + 1), by omega, F', ρ', acc', accV', e', r', d', l', hlt, rfl, q'⟩, fun x H3 y => ?_⟩
    obtain ⟨F3, a1, a2, a3, a4, d3⟩ := it.yld i H2 x H3 F2 items[i] e2 r2.fh (List.getElem?_eq_getElem hlt) y
    have r3 := r2.grow a1 a3 a2 a4
    refine ⟨_, F3, _, items[i], _, r3.wipe vs, d3, q2, fun σ4 ρ4 F4 H4 e4 r4 w4 q4 => ?_⟩
    rw [wipe_wipe] at w4
    refine ⟨w4, _, F4, ρ4, _, r4, q4, fun b ρ5 F5 H5 e5 r5 q5 => ?_⟩
    have e35 := e4.trans e5
    cases b with
    | true =>
      have q5 := q5.tt
      show cT K Te σ4 H5 _
      refine ⟨_, F5, ρ5, _, r5, q5, fun u z ρ6 F6 H6 e6 r6 d6 q6 => ?_⟩
      have e36 := e35.trans e6
      refine ⟨accV, r6.gh D _ upd_same, ?_, ?_⟩
      · rw [dpa_len dacc]
        omega
      · refine ⟨F6, _, acc ++ [z], accV ++ [u], (e2.trans a1).trans e36, (r6.unwipe r3 e36 w4 hclr).reG, dpa_app (dpa_mono (a1.trans e36) _ _ dacc) (.cons d6 .nil), by simp; omega, ?_⟩
        simpa using q6
    | false =>
      have q5 := q5.ff
      exact ⟨F5, _, acc, accV, (e2.trans a1).trans e35, r5.unwipe r3 e35 w4 hclr, dpa_mono (a1.trans e35) _ _ dacc, by omega, by simpa using q5⟩
  · have e : i = items.length := by omega
    subst e
    rw [List.drop_length] at q2
    obtain ⟨r9, e9⟩ := r2.outG hG
    refine .inl ⟨it.stop H2 (e2.trans r2.fh), k _ _ ρ2 _ H2 (e1.trans (e2.trans e9)) r9 (.lst (SqL.of upd_same) (dpa_mono e9 _ _ dacc)) ?_⟩
    simpa [compD] using q2
section
variable {X : Cx} {elt tg iter : Expr} {ifs : List Expr} {scope : Scope} {own : List (Str × Nat)} {pos spos py : Pos} {TI : DTA} {TG : DTG} {TT : DTT} {Te : DT}
theorem de_lc (hc : X.calm = true) (hN : X.N.Nodup) (hi : DI X tg iter TI) (ok : BlkOk X.N X.env.scope scope own)
    (hg : ∀ (s : Shared) (H : Hp) (C : Addr) (cl : List (Str × Addr)) (fp : List Addr), PG (X.blk s H scope (compEnvC scope cl C X.env) fp) tg (cW X.K (own.map (·.2)) TG))
    (ht : ∀ (s : Shared) (H : Hp) (C : Addr) (cl : List (Str × Addr)) (fp : List Addr), PTs (X.blk s H scope (compEnvC scope cl C X.env) fp) ifs (cB X.K TT))
    (he : ∀ (s : Shared) (H : Hp) (C : Addr) (cl : List (Str × Addr)) (fp : List Addr), DE (X.blk s H scope (compEnvC scope cl C X.env) fp) elt Te) (hs : ∀ x, foldedSetIterable iter X.env x = pure x := by intro _; rfl) :
    DE X (.ListComp elt [⟨tg, iter, ifs, 0⟩] scope pos) (dLc (own.map (·.2)) TI TG TT Te) := pe_imp (pe_lc hc hN hi ok hg ht he hs) fun σ H R q => cT_lc q
/-- name = [.. for ..] -/
theorem ds_setLc {i : Nat} {y : Str} (hc : X.calm = true) (hN : X.N.Nodup) (hy : X.N[i]? = some y) (hyl : X.env.scope.names.lookup y = some .local)
    (hsw : swapsWith (.ListComp elt [⟨tg, iter, ifs, 0⟩] scope pos) (some (.Name y py)) spos.line X.env = pure true) (hi : DI X tg iter TI) (ok : BlkOk X.N X.env.scope scope own)
    (hg : ∀ (s : Shared) (H : Hp) (C : Addr) (cl : List (Str × Addr)) (fp : List Addr), PG (X.blk s H scope (compEnvC scope cl C X.env) fp) tg (cW X.K (own.map (·.2)) TG))
    (ht : ∀ (s : Shared) (H : Hp) (C : Addr) (cl : List (Str × Addr)) (fp : List Addr), PTs (X.blk s H scope (compEnvC scope cl C X.env) fp) ifs (cB X.K TT))
    (he : ∀ (s : Shared) (H : Hp) (C : Addr) (cl : List (Str × Addr)) (fp : List Addr), DE (X.blk s H scope (compEnvC scope cl C X.env) fp) elt Te) (hs : ∀ x, foldedSetIterable iter X.env x = pure x := by intro _; rfl) :
    DS X (.Assign [.Name y py] (.ListComp elt [⟨tg, iter, ifs, 0⟩] scope pos) spos) (dAsg (dLc (own.map (·.2)) TI TG TT Te) (dgName i)) :=
  ps_imp (ps_setLc hc hN hy hyl hsw hi ok hg ht he hs) fun E σ H q => by
    obtain ⟨G, F, ρ, D, r, q, l⟩ := q
    exact cT_lc ⟨G, F, ρ, _, r, q, fun v x ρ1 F1 H1 e1 r1 d1 q1 => l.nx _ _ F1 H1 e1 (r1.putD d1) q1⟩
end

/-! ### a def's promise -/
structure RepH (K : PySem.W.Frag) (G F H : Hp) (ρ : List Sl) : Prop where
  fh : Same F H
  gh : Same G H
  fg : ∀ a, F a ≠ none → G a = none
  nd : (feet ρ).Nodup
  ap : ∀ a ∈ feet ρ, F a = none ∧ G a = none
  ob : ∀ a ob, Sl.o a ob ∈ ρ → ObOk K F H a ob
abbrev DTF := List Sl → (PyData → Prop) → Prop
/-- a promise by slots; what comes back is data -/
def spD (K : PySem.W.Frag) (n : Nat) (T : DTF) : Sp := fun vs H Q _ => vs.length = n ∧ ∃ G F as Qd, Rep K G F H (vs.map some) as ∧ T as Qd ∧
  ∀ v d F' H', Same F F' → RepH K G F' H' [] → Dp K F' v d → Qd d → Q v H'
/-- .. the first argument is lent -/
abbrev DTB := Ob → List PyData → (PyData → Ob → Prop) → Prop
def spB (K : PySem.W.Frag) (n : Nat) (T : DTB) : Sp := fun vs H Q _ => vs.length = n ∧ ∃ G F a ob xs Qd, Rep K G F H (vs.map some) (.o a ob :: List.map Sl.d xs) ∧ T ob xs Qd ∧
  ∀ v d ob' F' H', Same F F' → RepH K G F' H' [.o a ob'] → Dp K F' v d → Qd d ob' → Q v H'
theorem Rep.heapOf {K : PySem.W.Frag} {G F H : Hp} {σ : L2.St} {ρ : List Sl} (R : Rep K G F H σ ρ) (n : Nat) : RepH K G F H (ρ.take n) where
  fh := R.fh
  gh := R.gh
  fg := R.fg
  nd := by
    have := R.nd
    rw [← List.take_append_drop n ρ, feet_append] at this
    exact (List.nodup_append.mp this).1
  ap := fun a ha => R.ap a (by rw [← List.take_append_drop n ρ, feet_append]; exact List.mem_append_left _ ha)
  ob := fun a ob h => by
    obtain ⟨i, hi⟩ := List.getElem?_of_mem (List.mem_of_mem_take h)
    exact (R.sl i _ hi).2
theorem Rep.heap0 {K : PySem.W.Frag} {G F H : Hp} {σ : L2.St} {ρ : List Sl} (R : Rep K G F H σ ρ) : RepH K G F H [] := by
  have := R.heapOf 0
  rwa [List.take_zero] at this
theorem Rep.heap1 {K : PySem.W.Frag} {G F H : Hp} {σ : L2.St} {s : Sl} {ρ : List Sl} (R : Rep K G F H σ (s :: ρ)) : RepH K G F H [s] := R.heapOf 1
theorem feet_un (m : Nat) : feet (List.replicate m .un) = [] := by
  induction m with
  | zero => rfl
  | succ m ih => rw [List.replicate_succ, feet_cons, ih]; rfl
theorem Rep.start {K : PySem.W.Frag} {G F H : Hp} {σ : L2.St} {ρ : List Sl} (R : Rep K G F H σ ρ) (m : Nat) : Rep K G F H (σ ++ List.replicate m none) (ρ ++ List.replicate m .un) where
  fh := R.fh
  gh := R.gh
  fg := R.fg
  len := by simp [R.len]
  sl := fun i s e => by
    by_cases hi : i < ρ.length
    · rw [List.getElem?_append_left hi] at e
      rw [look_app_l (by rw [← R.len]; exact hi)]
      exact R.sl i s e
    · rw [List.getElem?_append_right (by omega), List.getElem?_replicate] at e
      split at e
      · cases e; trivial
      · cases e
  nd := by rw [feet_append, feet_un, List.append_nil]; exact R.nd
  ap := fun a ha => R.ap a (by rw [feet_append, feet_un, List.append_nil] at ha; exact ha)
section
variable {P : Program} {w : World} {K : PySem.W.Frag} {mg : Str → Option Value} {base : Heap}
/-- a def keeps its promise, by its body -/
theorem ok_def {x qual : Str} {st : Stmt} {f : Addr} {fd : FuncData} {N ps : List Str} {k : Nat} {T : DTF} {TB : DTS} (F : Fun K x qual st f fd) (S : FnScope N ps (defScope st))
    (hb : ∀ (cdv : Value) (A : Around) (outer : List Env) (s : Shared) (H : Hp) (E : XK), Room k (A.deeper (envOfC qual (defScope st) s.heap.objs.size f cdv)) →
      DSs (cxOf CX0 P w K mg base N qual (defScope st) f cdv A outer s H E).nox (defBody st) TB)
    (hT : ∀ as Q, as.length = ps.length → T as Q → TB { nx := fun _ => Q .none, rt := fun d _ => Q d } (as ++ List.replicate (N.length - ps.length) .un)) :
    FnOk P w K mg base CX0 (k + 1) f fd ps (spD K ps.length T) := by
  refine F.ok S (fun vs H Q E h => h.1) (fun cdv A outer s H vs Q E hr h => ?_)
  obtain ⟨hl, G, Fz, as, Qd, r, q, kk⟩ := h
  refine ⟨_, hb cdv A outer s H E hr, G, Fz, as ++ List.replicate (N.length - ps.length) .un, _, ?_, hT as Qd (by rw [r.len, List.length_map, hl]) q, ⟨?_, ?_, ?_, ?_, ?_⟩⟩
  · unfold L2.start
    rw [hl]
    exact r.start _
  · intro σ ρ F' H' e r' h'
    exact kk .non .none F' H' e r'.heap0 .non h'
  · intro v d σ ρ F' H' e r' dv h'
    exact kk v d F' H' e r'.heap0 dv h'
  · intro σ ρ F' H' e r' h'
    exact h'.elim
  · intro σ ρ F' H' e r' h'
    exact h'.elim
  · intro p ob σ ρ F' H' e r' hl h'
    exact h'.elim
def endB (a : Addr) (Q : Ob → Prop) : List Sl → Prop
  | .o b ob :: _ => b = a ∧ Q ob
  | _ => False
theorem endB_of {a : Addr} {Q : Ob → Prop} {ρ : List Sl} (h : endB a Q ρ) : ∃ ob r, ρ = .o a ob :: r ∧ Q ob := by
  unfold endB at h
  split at h
  · obtain ⟨rfl, h⟩ := h
    exact ⟨_, _, rfl, h⟩
  · exact h.elim
theorem ok_bor {x qual : Str} {st : Stmt} {f : Addr} {fd : FuncData} {N ps : List Str} {k : Nat} {T : DTB} {TB : DTS} (F : Fun K x qual st f fd) (S : FnScope N ps (defScope st))
    (hb : ∀ (cdv : Value) (A : Around) (outer : List Env) (s : Shared) (H : Hp) (E : XK), Room k (A.deeper (envOfC qual (defScope st) s.heap.objs.size f cdv)) →
      DSs (cxOf CX0 P w K mg base N qual (defScope st) f cdv A outer s H E).nox (defBody st) TB)
    (hT : ∀ a ob xs Q, xs.length + 1 = ps.length → T ob xs Q → TB { nx := endB a (Q .none), rt := fun d => endB a (Q d) } (.o a ob :: List.map Sl.d xs ++ List.replicate (N.length - ps.length) .un)) :
    FnOk P w K mg base CX0 (k + 1) f fd ps (spB K ps.length T) := by
  refine F.ok S (fun vs H Q E h => h.1) (fun cdv A outer s H vs Q E hr h => ?_)
  obtain ⟨hl, G, Fz, a, ob, xs, Qd, r, q, kk⟩ := h
  refine ⟨_, hb cdv A outer s H E hr, G, Fz, (.o a ob :: List.map Sl.d xs) ++ List.replicate (N.length - ps.length) .un, _, ?_, hT a ob xs Qd (by have := r.len; simp at this; omega) q, ⟨?_, ?_, ?_, ?_, ?_⟩⟩
  · unfold L2.start
    rw [hl]
    exact r.start _
  · intro σ ρ F' H' e r' h'
    obtain ⟨ob', rr, rfl, h2⟩ := endB_of h'
    exact kk .non .none ob' F' H' e r'.heap1 .non h2
  · intro v d σ ρ F' H' e r' dv h'
    obtain ⟨ob', rr, rfl, h2⟩ := endB_of h'
    exact kk v d ob' F' H' e r'.heap1 dv h2
  · intro σ ρ F' H' e r' h'
    exact h'.elim
  · intro σ ρ F' H' e r' h'
    exact h'.elim
  · intro p ob σ ρ F' H' e r' hl h'
    exact h'.elim
end
/-- a promise about data alone -/
def allD : List Sl → Option (List PyData)
  | [] => some []
  | .d x :: r => match allD r with
    | some xs => some (x :: xs)
    | none => none
  | _ :: _ => none
abbrev DTP := List PyData → (PyData → Prop) → Prop
def pureT (T : DTP) : DTF := fun as Q => match allD as with
  | some xs => T xs Q
  | none => False
theorem allD_map : ∀ xs : List PyData, allD (xs.map .d) = some xs
  | [] => rfl
  | x :: xs => by simp [allD, allD_map xs]
theorem allD_inv : ∀ {as : List Sl} {xs : List PyData}, allD as = some xs → as = xs.map .d
  | [], _, h => by cases h; rfl
  | .d x :: r, xs, h => by
    unfold allD at h
    split at h
    · rename_i ys hy
      cases h
      rw [allD_inv hy]
      rfl
    · cases h
  | .un :: _, _, h => by cases h
  | .raw _ :: _, _, h => by cases h
  | .o _ _ :: _, _, h => by cases h
theorem feet_data (xs : List PyData) : feet (xs.map .d) = [] := by
  induction xs with
  | nil => rfl
  | cons x xs ih => rw [List.map_cons, feet_cons, ih]; rfl
/-- what is not frozen, as a caller leaves it to a callee -/
def others (F H : Hp) : Hp := fun b => match F b with
  | none => H b
  | some _ => none
theorem Rep.toData {K : PySem.W.Frag} {G F H : Hp} {σ : L2.St} {ρ : List Sl} (R : Rep K G F H σ ρ) {vs : List V} {xs : List PyData} (d : DpAll K F vs xs) : Rep K (others F H) F H (vs.map some) (xs.map .d) where
  fh := R.fh
  gh := fun b o e => by
    unfold others at e
    split at e
    · exact e
    · cases e
  fg := fun a h => by
    unfold others
    split
    · rename_i q; exact absurd q h
    · rfl
  len := by simp [dpa_len d]
  sl := fun i s e => by
    rw [List.getElem?_map] at e
    cases q : xs[i]? with
    | none => rw [q] at e; cases e
    | some x =>
      rw [q] at e
      cases e
      obtain ⟨v, h1, h2⟩ := dpa_get d q
      exact ⟨v, look_of (by rw [List.getElem?_map, h1]; rfl), h2⟩
  nd := by rw [feet_data]; exact List.nodup_nil
  ap := fun a ha => by rw [feet_data] at ha; cases ha
theorem Rep.fromCall {K : PySem.W.Frag} {G F H F' H' : Hp} {σ : L2.St} {ρ as' : List Sl} (R : Rep K G F H σ ρ) (e : Same F F') (h : RepH K (others F H) F' H' as') : Rep K G F' H' σ ρ := by
  refine R.grow e (fun b o hb => ?_) h.fh (fun a h1 h2 => ?_)
  · cases q : F b with
    | none => exact h.gh b o (by unfold others; rw [q]; exact hb)
    | some u =>
      have := R.fh b u q
      rw [hb] at this
      cases this
      exact h.fh b o (e b o q)
  · have := h.fg a h1
    unfold others at this
    rw [h2] at this
    exact this
def dCall (T : DTP) (Tr : DTA) : DT := fun ρ Q => Tr ρ fun xs ρ1 => T xs fun d => Q d ρ1
section
variable {X : Cx} {k n : Nat} {f : Addr} {fd : FuncData} {ps : List Str} {x : Str} {p pos : Pos} {e : Expr} {es : List Expr} {T : DTP} {Tr : DTA}
theorem de_call (F : FnOk X.prog X.w X.K X.mg X.base CX0 k f fd ps (spD X.K n (pureT T))) (hr : Room k X.A) (hg : Gl X x) (hm : X.mg x = some (.ref f)) (hk : PySem.W.keepIn X.K (.ref f) = true) (hb : Binds X.K fd ps [])
    (ha : DA X (e :: es) Tr) (hn : ∀ xs Q, T xs Q → xs.length = n)
    (hdb : (x == ("__debug__" : Str)) = false := by decide) (he : starEach (e :: es) X.env = (false, eval e X.env) :: starEach es X.env := by rfl) (hpl : (backTo pos (starEach es X.env)).any (·.1) = false := by rfl) :
    DE X (.Call (.Name x p) (e :: es) [] pos) (dCall T Tr) := pe_imp (pe_call F hr hg hm hk hb .nil pass0 ha hdb he hpl) fun σ H R q => by
  obtain ⟨G, F, ρ, Q, r, q, k⟩ := q
  refine ⟨G, F, ρ, _, r, q, fun vs xs ρ1 F1 H1 e1 r1 d1 q1 => ?_⟩
  refine ⟨by rw [List.append_nil, dpa_len d1]; exact hn _ _ q1, others F1 H1, F1, xs.map .d, _, by rw [List.append_nil]; exact r1.toData d1, ?_, fun v d F' H' e' h' dv qd => k v d ρ1 F' H' (e1.trans e') (r1.fromCall e' h') dv qd⟩
  show pureT T (xs.map .d) _
  unfold pureT
  rw [allD_map]
  exact q1
end
end DL

namespace DL
open PySem PySem.Spec PyProof.Rows L2

/-- a def of the module, by name, as callers need it -/
structure Cl (P : Program) (w : World) (K : PySem.W.Frag) (mg : Str → Option Value) (base : Heap) (k : Nat) (x : Str) (n : Nat) (T : DTP) : Prop where
  ex : ∃ (f : Addr) (fd : FuncData) (ps : List Str), FnOk P w K mg base CX0 k f fd ps (spD K n (pureT T)) ∧ mg x = some (.ref f) ∧ PySem.W.keepIn K (.ref f) = true ∧ Binds K fd ps []
  len : ∀ xs Q, T xs Q → xs.length = n
/-- a module's constant -/
def Kc (K : PySem.W.Frag) (mg : Str → Option Value) (x : Str) (d : PyData) : Prop := ∃ (v : V) (u : Value), mg x = some u ∧ RelV v u ∧ ∀ F, Dp K F v d
section
variable {X : Cx} {k j n : Nat} {x : Str} {p pos : Pos} {e : Expr} {es : List Expr} {T : DTP} {Tr : DTA} {d : PyData}
theorem de_callC (c : Cl X.prog X.w X.K X.mg X.base k x n T) (hr : Room j X.A) (hkj : k ≤ j) (hg : Gl X x) (ha : DA X (e :: es) Tr)
    (hdb : (x == ("__debug__" : Str)) = false := by decide) (he : starEach (e :: es) X.env = (false, eval e X.env) :: starEach es X.env := by rfl) (hpl : (backTo pos (starEach es X.env)).any (·.1) = false := by rfl) :
    DE X (.Call (.Name x p) (e :: es) [] pos) (dCall T Tr) := by
  obtain ⟨f, fd, ps, F, hm, hk, hb⟩ := c.ex
  exact de_call F (hr.mono hkj) hg hm hk hb ha c.len hdb he hpl
theorem de_kc (c : Kc X.K X.mg x d) (hg : Gl X x) (hd : (x == ("__debug__" : Str)) = false := by decide) : DE X (.Name x pos) (dC d) := by
  obtain ⟨v, u, hm, r, hF⟩ := c
  exact de_const (pe_glob hg hm r hd) hF
/-! ### built-in functions by values -/
def dCB (o : List PyData → (PyData → Prop) → Prop) (Tr : DTA) : DT := fun ρ Q => Tr ρ fun xs ρ1 => o xs fun z => Q z ρ1
theorem cT_cb {K : PySem.W.Frag} {r : List V → Hp → VK → Prop} {o : List PyData → (PyData → Prop) → Prop} (od : CallD K r o) {σ : L2.St} {H : Hp} {R : VK} (q : cT K (dCB o Tr) σ H R) : tCB r (cA K Tr) σ H R := by
  obtain ⟨G, F, ρ, Q, r0, q, k⟩ := q
  exact ⟨G, F, ρ, _, r0, q, fun vs xs ρ1 F1 H1 e1 r1 d1 q1 => od G F1 H1 σ ρ1 vs xs _ R r1 d1 q1 fun w z F' H' e' r' d' q' => k w z ρ1 F' H' (e1.trans e') r' d' q'⟩
theorem de_blt {id : String} {r : List V → Hp → VK → Prop} {o : List PyData → (PyData → Prop) → Prop} (hc : CallR X (.builtin id) r) (od : CallD X.K r o) (hg : Gl X x) (hm : X.mg x = none) (hv : bootBuiltins x = some (.builtin id)) (ha : DA X (e :: es) Tr)
    (hn : x ≠ "__name__" := by decide) (hdb : (x == ("__debug__" : Str)) = false := by decide) (he : starEach (e :: es) X.env = (false, eval e X.env) :: starEach es X.env := by rfl) (hpl : (backTo pos (starEach es X.env)).any (·.1) = false := by rfl) :
    DE X (.Call (.Name x p) (e :: es) [] pos) (dCB o Tr) := pe_imp (pe_callB hc hg hm hv ha hn hdb he hpl) fun σ H R q => cT_cb od q
theorem de_bty {id : String} {r : List V → Hp → VK → Prop} {o : List PyData → (PyData → Prop) → Prop} (hc : CallR X (.type id) r) (od : CallD X.K r o) (hg : Gl X x) (hm : X.mg x = none) (hv : bootBuiltins x = some (.type id)) (ha : DA X (e :: es) Tr)
    (hn : x ≠ "__name__" := by decide) (hdb : (x == ("__debug__" : Str)) = false := by decide) (he : starEach (e :: es) X.env = (false, eval e X.env) :: starEach es X.env := by rfl) (hpl : (backTo pos (starEach es X.env)).any (·.1) = false := by rfl) :
    DE X (.Call (.Name x p) (e :: es) [] pos) (dCB o Tr) := pe_imp (pe_callTy hc hg hm hv ha hn hdb he hpl) fun σ H R q => cT_cb od q
end

section
variable {X : Cx} {p pos : Pos} {e : Expr} {es : List Expr} {Ta : DT} {Tr : DTA}
/-! len, abs, min, max, int -/
def oLen : List PyData → (PyData → Prop) → Prop := fun xs k => match xs with
  | [.list ys] => k (.int ys.length)
  | [.tuple ys] => k (.int ys.length)
  | _ => False
theorem od_len {K : PySem.W.Frag} : CallD K (fun xs H Q => ∃ p ys, xs = [.ref p] ∧ (SqL K H p ys ∨ SqT K H p ys) ∧ Q (.int ys.length) H) oLen := by
  intro G F H σ ρ vs xs Q R r d q k
  unfold oLen at q
  split at q
  · cases d with
    | cons d1 d2 =>
      cases d2
      obtain ⟨a, ws, rfl, h1, h2⟩ := dp_lst d1
      exact ⟨a, ws, rfl, .inl (r.fh.seq h1), k _ _ F H (Same.refl _) r (by rw [dpa_len h2]; exact .int _) q⟩
  · cases d with
    | cons d1 d2 =>
      cases d2
      obtain ⟨a, ws, rfl, h1, h2⟩ := dp_tup d1
      exact ⟨a, ws, rfl, .inr (seqT r.fh h1), k _ _ F H (Same.refl _) r (by rw [dpa_len h2]; exact .int _) q⟩
  · exact q.elim
def oAbs : List PyData → (PyData → Prop) → Prop := fun xs k => match xs with
  | [.int i] => k (.int (if i < 0 then -i else i))
  | _ => False
theorem od_abs {K : PySem.W.Frag} : CallD K (fun xs H Q => ∃ i, xs = [.int i] ∧ Q (.int (if i < 0 then -i else i)) H) oAbs := by
  intro G F H σ ρ vs xs Q R r d q k
  unfold oAbs at q
  split at q
  · rename_i i
    cases d with
    | cons d1 d2 =>
      cases d2
      cases dp_int d1
      exact ⟨i, rfl, k _ _ F H (Same.refl _) r (.int _) q⟩
  · exact q.elim
def oInt2 (g : Int → Int → Int) : List PyData → (PyData → Prop) → Prop := fun xs k => match xs with
  | [.int i, .int j] => k (.int (g i j))
  | _ => False
theorem od_int2 {K : PySem.W.Frag} {g : Int → Int → Int} : CallD K (fun xs H Q => ∃ i j, xs = [.int i, .int j] ∧ Q (.int (g i j)) H) (oInt2 g) := by
  intro G F H σ ρ vs xs Q R r d q k
  unfold oInt2 at q
  split at q
  · rename_i i j
    cases d with
    | cons d1 d2 =>
      cases d2 with
      | cons d2 d3 =>
        cases d3
        cases dp_int d1
        cases dp_int d2
        exact ⟨i, j, rfl, k _ _ F H (Same.refl _) r (.int _) q⟩
  · exact q.elim
def oInt : List PyData → (PyData → Prop) → Prop := fun xs k => match xs with
  | [.int i] => k (.int i)
  | _ => False
theorem od_int {K : PySem.W.Frag} : CallD K (fun xs H Q => (∃ i, xs = [.int i] ∧ Q (.int i) H) ∨ ∃ k, xs = [.bl k] ∧ Q (.int (if k then 1 else 0)) H) oInt := by
  intro G F H σ ρ vs xs Q R r d q k
  unfold oInt at q
  split at q
  · rename_i i
    cases d with
    | cons d1 d2 =>
      cases d2
      cases dp_int d1
      exact .inl ⟨i, rfl, k _ _ F H (Same.refl _) r (.int _) q⟩
  · exact q.elim
/-- tuple(x), list(x) of lists and tuples -/
def oTuple : List PyData → (PyData → Prop) → Prop := fun xs k => match xs with
  | [.list ys] => k (.tuple ys)
  | [.tuple ys] => k (.tuple ys)
  | _ => False
theorem od_tuple {K : PySem.W.Frag} : CallD K (fun xs H Q => ∃ p ys, xs = [.ref p] ∧ ((SqL K H p ys ∧ ∀ l, H l = none → Q (.ref l) (upd H l (.tup ys))) ∨ (SqT K H p ys ∧ Q (.ref p) H))) oTuple := by
  intro G F H σ ρ vs xs Q R r d q k
  unfold oTuple at q
  split at q
  · cases d with
    | cons d1 d2 =>
      cases d2
      obtain ⟨a, ws, rfl, h1, h2⟩ := dp_lst d1
      refine ⟨a, ws, rfl, .inl ⟨r.fh.seq h1, fun l hl => ?_⟩⟩
      have hF := r.fresh hl
      exact k _ _ _ _ (same_new hF) (r.new hl) (.tup (SqT.of upd_same) (dpa_mono (same_new hF) _ _ h2)) q
  · cases d with
    | cons d1 d2 =>
      cases d2
      obtain ⟨a, ws, rfl, h1, h2⟩ := dp_tup d1
      exact ⟨a, ws, rfl, .inr ⟨seqT r.fh h1, k _ _ F H (Same.refl _) r (.tup h1 h2) q⟩⟩
  · exact q.elim
def oList : List PyData → (PyData → Prop) → Prop := fun xs k => match xs with
  | [.list ys] => k (.list ys)
  | [.tuple ys] => k (.list ys)
  | _ => False
theorem od_list {K : PySem.W.Frag} : CallD K (fun xs H Q => ∃ p ys, xs = [.ref p] ∧ (SqL K H p ys ∨ SqT K H p ys) ∧ ∀ l, H l = none → Q (.ref l) (upd H l (.lst ys))) oList := by
  intro G F H σ ρ vs xs Q R r d q k
  unfold oList at q
  split at q
  · cases d with
    | cons d1 d2 =>
      cases d2
      obtain ⟨a, ws, rfl, h1, h2⟩ := dp_lst d1
      refine ⟨a, ws, rfl, .inl (r.fh.seq h1), fun l hl => ?_⟩
      have hF := r.fresh hl
      exact k _ _ _ _ (same_new hF) (r.new hl) (.lst (SqL.of upd_same) (dpa_mono (same_new hF) _ _ h2)) q
  · cases d with
    | cons d1 d2 =>
      cases d2
      obtain ⟨a, ws, rfl, h1, h2⟩ := dp_tup d1
      refine ⟨a, ws, rfl, .inr (seqT r.fh h1), fun l hl => ?_⟩
      have hF := r.fresh hl
      exact k _ _ _ _ (same_new hF) (r.new hl) (.lst (SqL.of upd_same) (dpa_mono (same_new hF) _ _ h2)) q
  · exact q.elim
/-! intsD and truths of a list -/
def intsD : List PyData → Option (List Int)
  | [] => some []
  | .int i :: r => match intsD r with
    | some is => some (i :: is)
    | none => none
  | _ :: _ => none
def boolsD : List PyData → Option (List Bool)
  | [] => some []
  | .bool i :: r => match boolsD r with
    | some is => some (i :: is)
    | none => none
  | _ :: _ => none
theorem ints_map : ∀ is : List Int, intsD (is.map .int) = some is
  | [] => rfl
  | i :: is => by simp [intsD, ints_map is]
theorem bools_map : ∀ is : List Bool, boolsD (is.map .bool) = some is
  | [] => rfl
  | i :: is => by simp [boolsD, bools_map is]
theorem ints_dp {K : PySem.W.Frag} {F : Hp} : ∀ {vs : List V} {xs : List PyData} {is : List Int}, intsD xs = some is → DpAll K F vs xs → vs = is.map V.int
  | _, [], _, h, d => by cases h; cases d; rfl
  | _, .int i :: r, _, h, d => by
    unfold intsD at h
    split at h
    · rename_i js hj
      cases h
      cases d with
      | cons d1 d2 => rw [dp_int d1, ints_dp hj d2]; rfl
    · cases h
  | _, .none :: _, _, h, _ => by cases h
  | _, .bool _ :: _, _, h, _ => by cases h
  | _, .str _ :: _, _, h, _ => by cases h
  | _, .list _ :: _, _, h, _ => by cases h
  | _, .tuple _ :: _, _, h, _ => by cases h
  | _, .dict _ :: _, _, h, _ => by cases h
theorem bools_dp {K : PySem.W.Frag} {F : Hp} : ∀ {vs : List V} {xs : List PyData} {is : List Bool}, boolsD xs = some is → DpAll K F vs xs → vs = is.map V.bl
  | _, [], _, h, d => by cases h; cases d; rfl
  | _, .bool i :: r, _, h, d => by
    unfold boolsD at h
    split at h
    · rename_i js hj
      cases h
      cases d with
      | cons d1 d2 => rw [dp_bool d1, bools_dp hj d2]; rfl
    · cases h
  | _, .none :: _, _, h, _ => by cases h
  | _, .int _ :: _, _, h, _ => by cases h
  | _, .str _ :: _, _, h, _ => by cases h
  | _, .list _ :: _, _, h, _ => by cases h
  | _, .tuple _ :: _, _, h, _ => by cases h
  | _, .dict _ :: _, _, h, _ => by cases h
def oBools (g : List Bool → Bool) : List PyData → (PyData → Prop) → Prop := fun xs k => match xs with
  | [.list ys] => match boolsD ys with
    | some bs => k (.bool (g bs))
    | none => False
  | _ => False
theorem od_bools {K : PySem.W.Frag} {g : List Bool → Bool} : CallD K (fun vs H Q => ∃ (a : Addr) (bs : List Bool), vs = [V.ref a] ∧ SqL K H a (bs.map V.bl) ∧ Q (.bl (g bs)) H) (oBools g) := by
  intro G F H σ ρ vs xs Q R r d q k
  unfold oBools at q
  split at q
  · split at q
    · rename_i bs hb
      cases d with
      | cons d1 d2 =>
        cases d2
        obtain ⟨a, ws, rfl, h1, h2⟩ := dp_lst d1
        rw [bools_dp hb h2] at h1
        exact ⟨a, bs, rfl, r.fh.seq h1, k _ _ F H (Same.refl _) r (.bl _) q⟩
    · exact q.elim
  · exact q.elim
/-- sum of a list or a tuple of intsD -/
def rSumA (K : PySem.W.Frag) : List V → Hp → VK → Prop := fun vs H Q => ∃ (a : Addr) (ns : List Int), vs = [V.ref a] ∧ (SqL K H a (ns.map V.int) ∨ SqT K H a (ns.map V.int)) ∧ Q (.int ns.sum) H
theorem sum_tup {prog : Program} {w : World} {A : Around} {E : Value → Shared → Prop} {s : Shared} {l : Addr} {its : List Value} {ns : List Int} {Q : Value → Shared → Prop} (hh : A.handled = none) (hl : s.heap.IsTuple l its.toArray) (hi : IntsAre its ns)
    (h : ∀ h' tk t', (∀ b o, s.heap.get? b = some o → h'.get? b = some o) → Q (.int ns.sum t') { s with heap := h', toks := tk }) : wpAny (model prog w) A (call (.builtin "sum") [.ref l]) Q E s := by
  obtain ⟨xs, ex⟩ := hi.allInts.items
  have hn : numsOf (intItems xs).toList = ns := by
    rw [← ex]
    exact hi.numsOf
  rw [nums_intItems] at hn
  rw [ex] at hl
  have hlt : l < s.heap.objs.size := by
    obtain ⟨o, ho, _⟩ := hl
    exact Heap.lt_size ho
  have hI : (s.heap.push { cls := .type "tuple_iterator", data := .fields #[.ref l, .int 0 0] }).IsTuple l (intItems xs) := hl.push _
  refine call_sum_walkG (wpAny_pyIter_tuple hl ?_)
  refine ⟨_, _, _, _, _, _, numAt xs, rfl, Walks.tuple (A := A.in1) hh _ l (Nat.ne_of_lt hlt) (intItems xs), ⟨⟨_, Heap.get?_push_size _ rfl, rfl, rfl⟩, hI⟩, ?_, (fun _ _ => intItems_at), fun h' tk t' hk => ?_⟩
  · intro b hb
    have e' : b = s.heap.objs.size ∨ b = l := by simpa using hb
    show b < (s.heap.push _).objs.size
    rw [Heap.size_push]
    rcases e' with z | z
    · rw [z]; exact Nat.lt_succ_self _
    · rw [z]; exact Nat.lt_succ_of_lt hlt
  · have hk' : ∀ b o, s.heap.get? b = some o → h'.get? b = some o := fun b o q => hk b o (fun z => by
      have e' : b = s.heap.objs.size := by simpa using z
      exact absurd (Heap.lt_size q) (by rw [e']; exact Nat.lt_irrefl _)) (Heap.get?_push_of_some _ q)
    have := h h' tk t' hk'
    rw [← hn] at this
    rw [preSum_eq, List.take_of_length_le (by simp [intItems])]
    exact this
theorem cr_sumA (hc : X.calm = true) : CallR X (.builtin "sum") (rSumA X.K) := by
  intro pins s σ H vs us Q I r h
  obtain ⟨a, ns, rfl, hs | hs, q⟩ := h
  · exact cr_sum hc pins s σ H _ us Q I r ⟨a, ns, rfl, hs, q⟩
  · obtain ⟨its, rv, hl, _⟩ := I.tuple hs
    obtain ⟨u, rfl, ru⟩ : ∃ u, us = [u] ∧ RelV (.ref a) u := by
      cases r with
      | cons r1 r2 => cases r2; exact ⟨_, rfl, r1⟩
    cases ru
    exact sum_tup (I.ok.hd hc) (show s.heap.IsTuple a its.toArray from hl) (intsAre_of rv) fun h' tk t' hk => ⟨.int _, H, I.kept hk, ⟨_, rfl⟩, q⟩
def oSum : List PyData → (PyData → Prop) → Prop := fun xs k => match xs with
  | [.list ys] => match intsD ys with
    | some is => k (.int is.sum)
    | none => False
  | [.tuple ys] => match intsD ys with
    | some is => k (.int is.sum)
    | none => False
  | _ => False
theorem od_sum {K : PySem.W.Frag} : CallD K (rSumA K) oSum := by
  intro G F H σ ρ vs xs Q R r d q k
  unfold oSum at q
  split at q
  · split at q
    · rename_i is hb
      cases d with
      | cons d1 d2 =>
        cases d2
        obtain ⟨a, ws, rfl, h1, h2⟩ := dp_lst d1
        rw [ints_dp hb h2] at h1
        exact ⟨a, is, rfl, .inl (r.fh.seq h1), k _ _ F H (Same.refl _) r (.int _) q⟩
    · exact q.elim
  · split at q
    · rename_i is hb
      cases d with
      | cons d1 d2 =>
        cases d2
        obtain ⟨a, ws, rfl, h1, h2⟩ := dp_tup d1
        rw [ints_dp hb h2] at h1
        exact ⟨a, is, rfl, .inr (seqT r.fh h1), k _ _ F H (Same.refl _) r (.int _) q⟩
    · exact q.elim
  · exact q.elim
/-! isinstance(x, T), T a built-in type -/
def tyN : PyData → String
  | .none => "NoneType"
  | .bool _ => "bool"
  | .int _ => "int"
  | .str _ => "str"
  | .list _ => "list"
  | .tuple _ => "tuple"
  | .dict _ => "dict"
theorem tyX_dp {K : PySem.W.Frag} {H : Hp} {v : V} {x : PyData} (h : Dp K H v x) : TyX K H v (.type (tyN x)) := by
  cases h with
  | non => exact .base .non
  | bl b => exact .base (.bl b)
  | int i => exact .base (.int i)
  | str z => exact .base (.str z)
  | lst h _ =>
    rcases h with (h | ⟨o, h⟩) | ⟨o, its, n, h1, h2, _⟩
    · exact .base (.lst h)
    · exact .base (.frz h)
    · exact .kList h1 h2
  | tup h _ =>
    rcases h with (h | ⟨o, h⟩) | ⟨o, its, n, h1, h2, _⟩
    · exact .base (.tup h)
    · exact .fTuple h
    · exact .kTuple h1 h2
def isIntB : PyData → Bool
  | .int _ => true
  | .bool _ => true
  | _ => false
def isBoolB : PyData → Bool
  | .bool _ => true
  | _ => false
def isTupB : PyData → Bool
  | .tuple _ => true
  | _ => false
def isStrB : PyData → Bool
  | .str _ => true
  | _ => false
def dIsi (f : PyData → Bool) (Ta : DT) : DT := fun ρ Q => Ta ρ fun x ρ1 => Q (.bool (f x)) ρ1
/-- which types a class takes -/
def Kits (n : String) (f : PyData → Bool) : Prop := kitB "NoneType" n = some (f .none) ∧ kitB "bool" n = some (f (.bool true)) ∧ kitB "int" n = some (f (.int 0)) ∧ kitB "str" n = some (f (.str ⟨#[]⟩)) ∧ kitB "list" n = some (f (.list [])) ∧ kitB "tuple" n = some (f (.tuple []))
theorem kits_int : Kits "int" isIntB := by refine ⟨?_, ?_, ?_, ?_, ?_, ?_⟩ <;> decide +kernel
theorem kits_bool : Kits "bool" isBoolB := by refine ⟨?_, ?_, ?_, ?_, ?_, ?_⟩ <;> decide +kernel
theorem kits_tuple : Kits "tuple" isTupB := by refine ⟨?_, ?_, ?_, ?_, ?_, ?_⟩ <;> decide +kernel
theorem kits_str : Kits "str" isStrB := by refine ⟨?_, ?_, ?_, ?_, ?_, ?_⟩ <;> decide +kernel
theorem de_isi {n : String} {f : PyData → Bool} {e2 : Expr} (kf : Kits n f) (hf : ∀ (x : PyData), f x = f (match x with | .none => .none | .bool _ => .bool true | .int _ => .int 0 | .str _ => .str ⟨#[]⟩ | .list _ => .list [] | .tuple _ => .tuple [] | .dict _ => x))
    (hg : Gl X "isinstance") (hm : X.mg "isinstance" = none) (he : DE X e Ta) (ht : PE X e2 (tC (.ty n)))
    (hs : starEach [e, e2] X.env = (false, eval e X.env) :: starEach [e2] X.env := by rfl) (hs2 : starEach [e2] X.env = (false, eval e2 X.env) :: starEach [] X.env := by rfl) (hpl : (backTo pos (starEach [e2] X.env)).any (·.1) = false := by rfl) :
    DE X (.Call (.Name "isinstance" p) [e, e2] [] pos) (dIsi f Ta) :=
  pe_imp (pe_callB call_isi hg hm PyProof.Rows.boot_isinstance (pa_cons he (pa_cons ht pa_nil hs2) hs) (by decide) (by decide) hs hpl) fun σ H R q => by
    obtain ⟨G, F, ρ, Q, r, q, k⟩ := q
    refine ⟨G, F, ρ, _, r, q, fun v x ρ1 F1 H1 e1 r1 d1 q1 => ?_⟩
    obtain ⟨k1, k2, k3, k4, k5, k6⟩ := kf
    have hk : kitB (tyN x) n = some (f x) := by
      rw [hf x]
      cases d1 <;> assumption
    exact ⟨v, .ty n, _, _, f x, rfl, .ty n, tyX_dp (dp_mono r1.fh _ _ d1), kit_ty hk, k _ _ ρ1 F1 H1 e1 r1 (.bl _) q1⟩
end

/-! ### enumerate of a list, of a tuple -/
open Builtin in
theorem meets_enumT (l : Addr) (items : Array Value) : Meets (Builtin.«enumerate.__new__» ⟨[.type "enumerate", .ref l], []⟩) (fun _ R s => s.heap.IsTuple l items ∧
      R (.ok (.ret (.ref (s.heap.push { cls := .type "tuple_iterator", data := .fields #[.ref l, .int 0 0] }).objs.size)))
        { s with heap := (s.heap.push { cls := .type "tuple_iterator", data := .fields #[.ref l, .int 0 0] }).push { cls := .type "enumerate", data := .fields #[.none, .bool false, .ref s.heap.objs.size, rawInt 0, .none, .none] } }) :=
  .of_wp fun prog w A R s h => by
    obtain ⟨hp, g, d, tk, os⟩ := s
    obtain ⟨hT, h⟩ := h
    have hsub := sub_enumerate
    obtain ⟨o, ho, hc, n, hd⟩ := id hT
    have hT' : Heap.IsTuple (Shared.heap ⟨hp, g, d, tk, os⟩) l items := hT
    wp_walk using wpAny_pyIter_tuple hT'
    refine wpAny_stack_any fun st => wpAny_pure ?_
    split
    · rename_i c _ _ _ _ _
      cases (c == Value.type "enumerate")
      · wp_walk using wpAny_pyIter_tuple hT'
        exact ⟨_, rfl, h⟩
      · wp_walk using wpAny_pyIter_tuple hT'
        exact ⟨_, rfl, h⟩
    · wp_walk using wpAny_pyIter_tuple hT'
      exact ⟨_, rfl, h⟩
end DL

namespace DL
open PySem PySem.Spec PyProof.Rows L2

section
variable {prog : Program} {w : World} {A : Around} {E : Value → Shared → Prop} {s : Shared}
theorem call_enumT {l : Addr} {items : Array Value} {Q : Value → Shared → Prop} (hT : s.heap.IsTuple l items)
    (h : ∀ h', IsEnum h' (s.heap.objs.size + 1) s.heap.objs.size 0 .none → h'.IsTupleIter s.heap.objs.size l 0 → (∀ b o, s.heap.get? b = some o → h'.get? b = some o) → Q (.ref (s.heap.objs.size + 1)) { s with heap := h' }) :
    wpAny (model prog w) A (call (.type "enumerate") [.ref l]) Q E s := by
  refine callType_new F.called_enumerate (by decide) (F.typeCall_enumerate_1 _) (F.newCall_enumerate_1 _) (fun obj => F.args_object_init_2 obj _) F.entry_enumerate_new (meets_enumT l items) ⟨hT, ?_⟩
  have hz : (s.heap.push { cls := .type "tuple_iterator", data := .fields #[.ref l, .int 0 0] }).objs.size = s.heap.objs.size + 1 := Heap.size_push ..
  show _ ∧ _
  rw [hz]
  have he : IsEnum ((s.heap.push { cls := .type "tuple_iterator", data := .fields #[.ref l, .int 0 0] }).push { cls := .type "enumerate", data := .fields #[.none, .bool false, .ref s.heap.objs.size, rawInt 0, .none, .none] })
      (s.heap.objs.size + 1) s.heap.objs.size 0 .none := by
    have q := Heap.get?_push_size (s.heap.push { cls := .type "tuple_iterator", data := .fields #[.ref l, .int 0 0] }) (o := { cls := .type "enumerate", data := .fields #[.none, .bool false, .ref s.heap.objs.size, rawInt 0, .none, .none] }) rfl
    rw [hz] at q
    exact q
  exact ⟨⟨_, he, rfl⟩, h _ he ⟨_, Heap.get?_push_of_some _ (Heap.get?_push_size _ rfl), rfl, rfl⟩ fun b o x => Heap.get?_push_of_some _ (Heap.get?_push_of_some _ x)⟩
end

/-- the tuple at a, each item in a new pair -/
def IteT (K : PySem.W.Frag) (a : Addr) : It :=
  ⟨fun i H => ∃ (xs : List V) (x : V), SqT K H a xs ∧ xs[i]? = some x, fun i H v H' => ∃ T x, v = .ref T ∧ H T = none ∧ H' = upd H T (.tup [.int (i : Nat), x]) ∧ ∀ xs, SqT K H a xs → xs[i]? = some x, fun i H => ∃ xs : List V, SqT K H a xs ∧ xs.length = i⟩
theorem turn_enumT {P : Program} {w : World} {K : PySem.W.Frag} {elts : List Expr} {kk : Nat} {tpos : Pos} (a e it : Addr) :
    Turn P w K (.Tuple elts kk tpos) (IteT K a) [e, it] e (fun i h => (∃ old, IsEnum h e it (0 + (i : Int)) old) ∧ h.IsTupleIter it a i ∧ e ≠ it ∧ e ≠ a ∧ it ≠ a) where
  mem := by simp
  obj := fun i h st b hb => by
    obtain ⟨⟨old, he⟩, ⟨o, ho, hc, hd⟩, _⟩ := st
    have e' : b = e ∨ b = it := by simpa using hb
    rcases e' with z | z
    · rw [z]; exact ⟨_, he, fun v q => nomatch q⟩
    · rw [z]; exact ⟨o, ho, fun v q => by rw [hd] at q; cases q⟩
  keep := fun i h h' st k => by
    obtain ⟨⟨old, he⟩, hi, hne⟩ := st
    exact ⟨⟨old, k e (by simp) _ he⟩, hi.at fun o q => k it (by simp) o q, hne⟩
  item := by
    intro X hP hw hK hc i pins s σ H E I hf st hg
    subst hP hw hK
    obtain ⟨⟨old, he⟩, hit, hne, hea, hia⟩ := st
    obtain ⟨xs, x, hq, hx⟩ := hg
    obtain ⟨its, rv, p, hz⟩ := I.tuple hq
    obtain ⟨u, hu, ru⟩ := rv.get hx
    have p' : s.heap.IsTuple a its.toArray := p
    have hil : i < its.toArray.size := by
      rw [List.size_toArray]
      exact (List.getElem?_eq_some_iff.mp hu).1
    have W := GoesN.enumFrom (prog := X.prog) (w := X.w) (A := X.A) (elts := elts) (x1 := kk) (pos := tpos) 0 (Draws.tuple (prog := X.prog) (w := X.w) (A := X.A.in1) (I.ok.hd hc) it a (Ne.symm hia) its.toArray) e hne (by simp [hne, hea]) (by simp)
    refine W.goes i s (fun v s₂ => ∃ x H', Inv X pins σ H' s₂ ∧ RelV x v ∧ (IteT X.K a).yld i H x H' ∧ _ ∧ ∀ b ∈ [e, it], H' b = none) E hil ⟨⟨old, he⟩, hit, p'⟩ fun v h' tk hY hst hk htk => ?_
    obtain ⟨T, t, y, rfl, hT, hy, hTup⟩ := hY
    have ey : y = u := by
      have hu' : its.toArray[i]? = some u := by simpa using hu
      rw [hu'] at hy
      exact (Option.some.inj hy).symm
    subst ey
    have new : ObjOk X.prog X.w (upd H T (.tup [.int (i : Nat), x])) h' T (.tup [.int (i : Nat), x]) := by
      refine ⟨by show 2 ≤ sizeLine; decide, [.int (0 + (i : Int)) t, y], .cons ⟨t, by rw [Int.zero_add]⟩ (.cons ru .nil), ?_⟩
      exact hTup
    have I1 : Inv X pins σ (upd H T (.tup [.int (i : Nat), x])) { s with heap := h', toks := tk } := I.turnedNew (ch := [e, it]) hk hf hT new
    refine ⟨.ref T, _, I1, rfl, ⟨T, x, rfl, I.hok.fresh hT, rfl, fun ys hy => by rw [I.tuple_inj hy hq]; exact hx⟩, ⟨hst.1, hst.2.1, hne, hea, hia⟩, fun b hb => ?_⟩
    have hb' : b < s.heap.objs.size := by
      have e' : b = e ∨ b = it := by simpa using hb
      rcases e' with z | z
      · rw [z]; exact Heap.lt_size he
      · rw [z]
        obtain ⟨_, q, _⟩ := hit
        exact Heap.lt_size q
    rw [upd_ne (Nat.ne_of_lt (Nat.lt_of_lt_of_le hb' hT))]
    exact (hf b hb).1
  done := by
    intro X hP hw hK hc i pins s σ H E I hf st hg
    subst hP hw hK
    obtain ⟨⟨old, he⟩, hit, hne, hea, hia⟩ := st
    obtain ⟨xs, hq, hx⟩ := hg
    obtain ⟨its, rv, p, hz⟩ := I.tuple hq
    have p' : s.heap.IsTuple a its.toArray := p
    have hl : i = its.toArray.size := by rw [List.size_toArray, ← rv.length, hx]
    subst hl
    have W := GoesN.enumFrom (prog := X.prog) (w := X.w) (A := X.A) (elts := elts) (x1 := kk) (pos := tpos) 0 (Draws.tuple (prog := X.prog) (w := X.w) (A := X.A.in1) (I.ok.hd hc) it a (Ne.symm hia) its.toArray) e hne (by simp [hne, hea]) (by simp)
    exact W.stops s (fun s1 => Inv X pins σ H s1) E ⟨⟨old, he⟩, hit, p'⟩ fun h' tk hk htk => I.turnedL (t' := tk) (ch := [e, it]) hk hf
  self := fun A i s Q E st h => by
    obtain ⟨⟨_, he⟩, _⟩ := st
    exact wpAny_pyIter_enum he h

def iEnumT (K : PySem.W.Frag) (ta : TA) : TI := fun σ H R => ta σ H fun vs H1 => ∃ a xs, vs = [.ref a] ∧ ((SqL K H1 a xs ∧ R (Ite K a) H1) ∨ (SqT K H1 a xs ∧ R (IteT K a) H1))
theorem pi_enumA {X : Cx} {e : Expr} {ta : TA} {p pos tpos : Pos} {elts : List Expr} {kk : Nat} (hg : Gl X "enumerate") (hm : X.mg "enumerate" = none) (ha : PA X [e] ta) (hs : starEach [e] X.env = [(false, eval e X.env)] := by rfl) :
    PI X (.Tuple elts kk tpos) (.Call (.Name "enumerate" p) [e] [] pos) (iEnumT X.K ta) := by
  refine ⟨fun pins s σ H R I h => ?_⟩
  refine Call_ (ld_blt I hg hm boot_enumerate (PyProof.Rows.callWith_type1 (thn (ha.run pos pins s σ H _ I h) fun us s1 ⟨vs, H1, I1, r1, q1⟩ => ?_) hs rfl))
  obtain ⟨a, xs, ex, q1⟩ := q1
  subst ex
  cases r1 with
  | cons r rr =>
    cases rr
    cases r
    have fresh2 : ∀ c, c ∈ [s1.heap.objs.size + 1, s1.heap.objs.size] → FpOk X pins H1 c := fun c hcm => by
      have e' : c = s1.heap.objs.size + 1 ∨ c = s1.heap.objs.size := by simpa using hcm
      have hle : s1.heap.objs.size ≤ c := by
        rcases e' with z | z
        · rw [z]; exact Nat.le_add_right _ _
        · rw [z]; exact Nat.le_refl _
      exact I1.fpOk hle (I1.hok.fresh hle)
    rcases q1 with ⟨hq, q⟩ | ⟨hq, q⟩
    · obtain ⟨its, rv, p', hz⟩ := I1.list hq
      refine call_enumerate_list p'.isList fun h' he hit hsz hk => wpAny_pyIter_enum he ?_
      have I2 : Inv X pins σ H1 { s1 with heap := h' } := I1.kept (t' := s1.toks) hk
      exact ⟨s1.heap.objs.size + 1, [s1.heap.objs.size + 1, s1.heap.objs.size], _, _, H1, rfl, I2, turn_enum a (s1.heap.objs.size + 1) s1.heap.objs.size, ⟨⟨.none, he⟩, hit, Nat.succ_ne_self _⟩, fresh2, q⟩
    · obtain ⟨its, rv, p', hz⟩ := I1.tuple hq
      have hT : s1.heap.IsTuple a its.toArray := p'
      have hlt : a < s1.heap.objs.size := by
        obtain ⟨o, ho, _⟩ := hT
        exact Heap.lt_size ho
      refine call_enumT hT fun h' he hit hk => wpAny_pyIter_enum he ?_
      have I2 : Inv X pins σ H1 { s1 with heap := h' } := I1.kept (t' := s1.toks) hk
      exact ⟨s1.heap.objs.size + 1, [s1.heap.objs.size + 1, s1.heap.objs.size], _, _, H1, rfl, I2, turn_enumT a (s1.heap.objs.size + 1) s1.heap.objs.size,
        ⟨⟨.none, he⟩, hit, Nat.succ_ne_self _, Nat.ne_of_gt (Nat.lt_succ_of_lt hlt), Nat.ne_of_gt hlt⟩, fresh2, q⟩
def numD (xs : List PyData) : List PyData := pairD (rangeD 0 xs.length) xs
def dEnum (Tr : DTA) : DTA := fun ρ Q => Tr ρ fun xs ρ1 => match xs with
  | [.list xs] => Q (numD xs) ρ1
  | [.tuple xs] => Q (numD xs) ρ1
  | _ => False
theorem range_dp {K : PySem.W.Frag} {F : Hp} (n : Nat) : DpAll K F ((List.range n).map fun (i : Nat) => V.int (i : Int)) (rangeD 0 n) := by
  unfold rangeD
  generalize List.range n = l
  induction l with
  | nil => exact .nil
  | cons a l ih =>
    refine .cons ?_ ih
    show Dp K F (V.int (a : Int)) (PyData.int (0 + (a : Int)))
    rw [Int.zero_add]
    exact .int _
section
variable {X : Cx} {tg e e2 e3 : Expr} {Tr : DTA} {p pos tpos : Pos} {elts : List Expr} {kk : Nat}
theorem di_enum (hg : Gl X "enumerate") (hm : X.mg "enumerate" = none) (ha : DA X [e] Tr) (hs : starEach [e] X.env = [(false, eval e X.env)] := by rfl) : DI X (.Tuple elts kk tpos) (.Call (.Name "enumerate" p) [e] [] pos) (dEnum Tr) :=
  pi_imp (pi_enumA hg hm ha hs) fun σ H R q => by
    obtain ⟨G, F, ρ, Q, r, q, k⟩ := q
    refine ⟨G, F, ρ, _, r, q, fun vs xs ρ1 F1 H1 e1 r1 d1 q1 => ?_⟩
    split at q1
    · rename_i xs
      cases d1 with
      | cons d1 d2 =>
        cases d2
        obtain ⟨a, ws, rfl, h1, h2⟩ := dp_lst d1
        refine ⟨a, ws, rfl, .inl ⟨r1.fh.seq h1, k _ ρ1 F1 H1 _ e1 r1 (it_pair rfl (range_dp xs.length) h2 (fun i H x y e g1 g2 => ⟨ws, y, e.seq h1, g2⟩) (fun i H e hi => ⟨ws, e.seq h1, ?_⟩) fun i H v H' e y => ?_) q1⟩⟩
        · have := dpa_len h2
          rw [List.length_map, List.length_range] at hi
          omega
        · obtain ⟨T, x, rfl, hT, rfl, f⟩ := y
          refine ⟨T, .int (i : Nat), x, rfl, hT, rfl, fun z hz => ?_, fun z hz => Option.some.inj ((f _ (e.seq h1)).symm.trans hz)⟩
          rw [List.getElem?_map] at hz
          cases q : (List.range xs.length)[i]? with
          | none => rw [q] at hz; cases hz
          | some j =>
            rw [q] at hz
            obtain ⟨h3, h4⟩ := List.getElem?_eq_some_iff.mp q
            rw [List.getElem_range] at h4
            subst h4
            exact Option.some.inj hz
    · rename_i xs
      cases d1 with
      | cons d1 d2 =>
        cases d2
        obtain ⟨a, ws, rfl, h1, h2⟩ := dp_tup d1
        have hw := dpa_len h2
        refine ⟨a, ws, rfl, .inr ⟨seqT r1.fh h1, k _ ρ1 F1 H1 _ e1 r1 { go := fun i H e hi => ?_, stop := fun H e => ?_, yld := fun i H v H' Fc d e1 e2 hd y => ?_ } q1⟩⟩
        · have hi' : i < ws.length := by
            simp [numD, pairD, rangeD] at hi
            omega
          exact ⟨ws, ws[i], seqT e h1, List.getElem?_eq_getElem hi'⟩
        · refine ⟨ws, seqT e h1, ?_⟩
          simp [numD, pairD, rangeD, hw]
        · have J0 : ItOk X.K F1 { go := fun _ _ => True, stop := fun _ _ => True, yld := (IteT X.K a).yld } (numD xs) := it_pair rfl (range_dp xs.length) h2 (fun _ _ _ _ _ _ _ => trivial) (fun _ _ _ _ => trivial) fun i H v H' e y => by
            obtain ⟨T, x, rfl, hT, rfl, f⟩ := y
            refine ⟨T, .int (i : Nat), x, rfl, hT, rfl, fun z hz => ?_, fun z hz => Option.some.inj ((f _ (seqT e h1)).symm.trans hz)⟩
            rw [List.getElem?_map] at hz
            cases q : (List.range xs.length)[i]? with
            | none => rw [q] at hz; cases hz
            | some j =>
              rw [q] at hz
              obtain ⟨h3, h4⟩ := List.getElem?_eq_some_iff.mp q
              rw [List.getElem_range] at h4
              subst h4
              exact Option.some.inj hz
          exact J0.yld i H v H' Fc d e1 e2 hd y
    · exact q1.elim
end
end DL

set_option maxHeartbeats 4000000
namespace DL
open PySem PySem.Spec PyProof.Rows L2
/-- tuple * 1, () * k: the tuple itself -/
theorem tuple_mul_self (l : Addr) (items : Array Value) (n : Nat) (dd : Option Addr) (sl : Array (Option Value)) (x : Int) (u : Tok) (c0 : (decide (x < -(2 ^ 63)) || decide (x ≥ 2 ^ 63)) = false) (c1 : (items.isEmpty || x == 1) = true) :
    Meets (Builtin.«tuple.__mul__» ⟨[.ref l, .int x u], []⟩) (fun _ R s => s.heap.get? l = some { cls := .type "tuple", dict := dd, data := .seq items n, slots := sl } ∧ R (.ok (.ret (Value.ref l))) s) :=
  .of_wp fun prog w A R s h => by
    obtain ⟨hp, g, d, tk, os⟩ := s
    obtain ⟨hl, h⟩ := h
    have f1 := AutoSeq1.idx_int
    wp_walk using AutoSeq1.wpAny_loadPart' hl
    repeat (first
      | (refine wpAny_ite_false (decide_eq_false (by rw [c0]; exact Bool.false_ne_true)) ?_; wp_walk using AutoSeq1.wpAny_loadPart' hl)
      | (refine wpAny_ite_true (decide_eq_true c1) ?_; wp_walk using AutoSeq1.wpAny_loadPart' hl))
    exact ⟨_, rfl, h⟩
/-- tuple * k, k below 1: the empty tuple -/
theorem tuple_mul_none (l : Addr) (items : Array Value) (n : Nat) (dd : Option Addr) (sl : Array (Option Value)) (x : Int) (u : Tok) (c0 : (decide (x < -(2 ^ 63)) || decide (x ≥ 2 ^ 63)) = false) (c1 : (items.isEmpty || x == 1) = false) (c2 : (decide (x ≤ 0) || items.isEmpty) = true) :
    Meets (Builtin.«tuple.__mul__» ⟨[.ref l, .int x u], []⟩) (fun _ R s => s.heap.get? l = some { cls := .type "tuple", dict := dd, data := .seq items n, slots := sl } ∧
      R (.ok (.ret (Value.ref s.heap.objs.size))) { s with heap := s.heap.push { cls := Value.type "tuple", data := Data.seq #[] }, toks := s.toks }) :=
  .of_wp fun prog w A R s h => by
    obtain ⟨hp, g, d, tk, os⟩ := s
    obtain ⟨hl, h⟩ := h
    have f1 := AutoSeq1.idx_int
    wp_walk using AutoSeq1.wpAny_loadPart' hl
    repeat (first
      | (refine wpAny_ite_false (decide_eq_false (by rw [c0]; exact Bool.false_ne_true)) ?_; wp_walk using AutoSeq1.wpAny_loadPart' hl)
      | (refine wpAny_ite_false (decide_eq_false (by rw [c1]; exact Bool.false_ne_true)) ?_; wp_walk using AutoSeq1.wpAny_loadPart' hl)
      | (refine wpAny_ite_true (decide_eq_true c2) ?_; wp_walk using AutoSeq1.wpAny_loadPart' hl))
    exact ⟨_, rfl, h⟩
def rRepA (K : PySem.W.Frag) : R2 := fun x y H Q => ∃ l k xs, x = .ref l ∧ y = .int k ∧ SqT K H l xs ∧ -1000 ≤ k ∧ k ≤ 1000 ∧ xs.length ≤ 1000 ∧
  ((xs = [] ∨ k = 1) → Q (.ref l) H) ∧ (¬ (xs = [] ∨ k = 1) → ∀ p, H p = none → Q (.ref p) (upd H p (.tup (List.replicate k.toNat xs).flatten)))
section
variable {X : Cx}
theorem op_repA : OpR X (binaryOp .Mult) (rRepA X.K) := by
  intro pins s σ H x y v u Q I rx ry h
  obtain ⟨l, k, xs, rfl, rfl, hT, h0, h1, hz, q1, q2⟩ := h
  by_cases hs : xs = [] ∨ k = 1
  · cases rx
    obtain ⟨t, rfl⟩ := ry
    obtain ⟨its, r, ⟨⟨cls, dd, data, sl⟩, ho, hc, n, hd⟩, hss⟩ := I.tuple hT
    simp only at hc hd
    subst hc hd
    have hle : its.length = xs.length := r.length.symm
    have c0 : (decide (k < -(2 ^ 63)) || decide (k ≥ 2 ^ 63)) = false := by
      rw [decide_eq_false (by omega), decide_eq_false (by omega)]
      rfl
    have c1 : (its.toArray.isEmpty || k == 1) = true := by
      rcases hs with e | e
      · have : its = [] := List.eq_nil_of_length_eq_zero (by rw [hle, e]; rfl)
        subst this
        rfl
      · subst e
        simp
    refine wpAny_binaryOp_repeat_ref (T := "tuple") (U := "int") (by decide) ⟨_, ho, rfl⟩ (fun s' => typeIs_int s' k t) noFill_tuple_mul F.fills_int_mul F.slot_int_rmul repeat_tuple F.slot_int_index.lookup
      (call_meets F.slot_int_rmul (typeIs_int s k t) F.entry_int_rmul (F.args_int_rmul_2 _ _) (int_rmul_tuple k t l its.toArray n dd sl)
        ⟨ho, rfl, ⟨_, ho, rfl⟩, call_meets F.slot_tuple_mul ⟨_, ho, rfl⟩ F.entry_tuple_mul (F.args_tuple_mul_2 _ _) (tuple_mul_self l its.toArray n dd sl k t c0 c1) ⟨ho, ?_⟩⟩)
    exact ⟨.ref l, H, I, rfl, q1 hs⟩
  · have q3 := q2 hs
    by_cases h2 : 2 ≤ k
    · exact op_repT pins s σ H _ _ v u Q I rx ry ⟨l, k, xs, rfl, rfl, hT, fun e => hs (.inl e), h2, h1, hz, q3⟩
    · cases rx
      obtain ⟨t, rfl⟩ := ry
      obtain ⟨its, r, ⟨⟨cls, dd, data, sl⟩, ho, hc, n, hd⟩, hss⟩ := I.tuple hT
      simp only at hc hd
      subst hc hd
      have hle : its.length = xs.length := r.length.symm
      have hk0 : k ≤ 0 := by
        have : k ≠ 1 := fun e => hs (.inr e)
        omega
      have hn : its ≠ [] := fun e => hs (.inl (List.eq_nil_of_length_eq_zero (by rw [← hle, e]; rfl)))
      have hi : its.toArray.isEmpty = false := by
        cases its with
        | nil => exact absurd rfl hn
        | cons a b => rfl
      have c0 : (decide (k < -(2 ^ 63)) || decide (k ≥ 2 ^ 63)) = false := by
        rw [decide_eq_false (by omega), decide_eq_false (by omega)]
        rfl
      have c1 : (its.toArray.isEmpty || k == 1) = false := by
        rw [hi, Bool.false_or]
        exact beq_eq_false_iff_ne.mpr (by omega)
      have c2 : (decide (k ≤ 0) || its.toArray.isEmpty) = true := by
        rw [decide_eq_true hk0]
        rfl
      refine wpAny_binaryOp_repeat_ref (T := "tuple") (U := "int") (by decide) ⟨_, ho, rfl⟩ (fun s' => typeIs_int s' k t) noFill_tuple_mul F.fills_int_mul F.slot_int_rmul repeat_tuple F.slot_int_index.lookup
        (call_meets F.slot_int_rmul (typeIs_int s k t) F.entry_int_rmul (F.args_int_rmul_2 _ _) (int_rmul_tuple k t l its.toArray n dd sl)
          ⟨ho, rfl, ⟨_, ho, rfl⟩, call_meets F.slot_tuple_mul ⟨_, ho, rfl⟩ F.entry_tuple_mul (F.args_tuple_mul_2 _ _) (tuple_mul_none l its.toArray n dd sl k t c0 c1 c2) ⟨ho, ?_⟩⟩)
      have ek : k.toNat = 0 := by omega
      rw [ek] at q3
      refine ⟨.ref s.heap.objs.size, _, I.laid (t' := s.toks) (o := .tup []) (fun b ob q => Heap.get?_push_of_some _ q) (Nat.le_refl _) ?_, rfl, q3 _ (I.hok.fresh (Nat.le_refl _))⟩
      exact ⟨Nat.zero_le _, [], .nil, IsTup.new _ _⟩
end
/-! ### + and * of ints and tuples -/
def oAdd (x y : PyData) (k : PyData → Prop) : Prop := match x, y with
  | .int i, .int j => k (.int (i + j))
  | .tuple xs, .tuple ys => xs.length + ys.length ≤ sizeLine ∧ k (.tuple (xs ++ ys))
  | _, _ => False
def oMul (x y : PyData) (k : PyData → Prop) : Prop := match x, y with
  | .int i, .int j => CMulW i j ∧ k (.int (i * j))
  | .tuple xs, .int j => (-1000 ≤ j ∧ j ≤ 1000 ∧ xs.length ≤ 1000) ∧ k (.tuple (List.replicate j.toNat xs).flatten)
  | _, _ => False
theorem dpa_rep {K : PySem.W.Frag} {F : Hp} {vs : List V} {xs : List PyData} (d : DpAll K F vs xs) : ∀ n, DpAll K F (List.replicate n vs).flatten (List.replicate n xs).flatten
  | 0 => .nil
  | n + 1 => by
    rw [List.replicate_succ, List.replicate_succ, List.flatten_cons, List.flatten_cons]
    exact dpa_app d (dpa_rep d n)
theorem rep_nil {α : Type} (n : Nat) : (List.replicate n ([] : List α)).flatten = [] := by
  induction n with
  | zero => rfl
  | succ n ih => rw [List.replicate_succ, List.flatten_cons, ih]; rfl
section
variable {K : PySem.W.Frag}
theorem od_add : OpD K (fun x y H Q => rI0 (fun i j => .int (i + j)) x y H Q ∨ rCatA K x y H Q) oAdd := by
  intro G F H σ ρ v u x y Q R r dv du q k
  unfold oAdd at q
  split at q
  · rename_i i j
    cases dp_int dv
    cases dp_int du
    exact .inl ⟨i, j, rfl, rfl, k _ _ F H (Same.refl _) r (.int _) q⟩
  · rename_i xs ys
    obtain ⟨a, vs, rfl, h1, h2⟩ := dp_tup dv
    obtain ⟨b, ws, rfl, h3, h4⟩ := dp_tup du
    obtain ⟨hz, q⟩ := q
    refine .inr ⟨a, b, vs, ws, rfl, rfl, seqT r.fh h1, seqT r.fh h3, by rw [dpa_len h2, dpa_len h4]; exact hz, fun e => ?_, fun _ e => ?_, fun _ _ p hp => ?_⟩
    · subst e
      cases h2
      exact k _ _ F H (Same.refl _) r (.tup h3 h4) q
    · subst e
      cases h4
      rw [List.append_nil] at q
      exact k _ _ F H (Same.refl _) r (.tup h1 h2) q
    · have hF := r.fresh hp
      have e := same_new (o := HO.tup (vs ++ ws)) hF
      exact k _ _ _ _ e (r.new hp) (.tup (SqT.of upd_same) (dpa_app (dpa_mono e _ _ h2) (dpa_mono e _ _ h4))) q
  · exact q.elim
theorem od_mul : OpD K (fun x y H Q => rI CMulW (fun i j => .int (i * j)) x y H Q ∨ rRepA K x y H Q) oMul := by
  intro G F H σ ρ v u x y Q R r dv du q k
  unfold oMul at q
  split at q
  · rename_i i j
    cases dp_int dv
    cases dp_int du
    exact .inl ⟨i, j, rfl, rfl, q.1, k _ _ F H (Same.refl _) r (.int _) q.2⟩
  · rename_i xs j
    obtain ⟨a, vs, rfl, h1, h2⟩ := dp_tup dv
    cases dp_int du
    obtain ⟨⟨ha, hb, hc⟩, q⟩ := q
    refine .inr ⟨a, j, vs, rfl, rfl, seqT r.fh h1, ha, hb, by rw [dpa_len h2]; exact hc, fun e => ?_, fun _ p hp => ?_⟩
    · refine k _ _ F H (Same.refl _) r (.tup h1 h2) ?_
      rcases e with e | e
      · subst e
        cases h2
        rw [rep_nil] at q
        exact q
      · subst e
        simpa using q
    · have hF := r.fresh hp
      have e := same_new (o := HO.tup (List.replicate j.toNat vs).flatten) hF
      exact k _ _ _ _ e (r.new hp) (.tup (SqT.of upd_same) (dpa_rep (dpa_mono e _ _ h2) _)) q
  · exact q.elim
end
section
variable {X : Cx} {a b : Expr} {pos : Pos} {Ta Tb : DT}
theorem de_addA (ha : DE X a Ta) (hb : DE X b Tb) : DE X (.BinOp a .Add b pos) (dOp oAdd Ta Tb) := de_op (OpR.or op_add op_catA) od_add ha hb
theorem de_mulA (ha : DE X a Ta) (hb : DE X b Tb) : DE X (.BinOp a .Mult b pos) (dOp oMul Ta Tb) := de_op (OpR.or op_mulW op_repA) od_mul ha hb
end
end DL

set_option maxHeartbeats 2000000
namespace DL
open PySem PySem.Spec PyProof.Rows L2

/-! ### looking at own objects: all of them frozen for one expression -/
def frz1 : Sl → Sl
  | .o _ (.lst xs) => .d (.list xs)
  | .o a (.ins C dx fs) => .fz a (.ins C dx fs)
  | .o _ (.rws bs) => .d (.list (bs.map fun b => .list b.2))
  | .o a (.dct kvs) => .fz a (.dct kvs)
  | s => s
def frzAll (ρ : List Sl) : List Sl := ρ.map frz1
mutual
def noLst : PyData → Bool
  | .list _ => false
  | .dict _ => false
  | .tuple ds => noLsts ds
  | _ => true
def noLsts : List PyData → Bool
  | [] => true
  | d :: ds => noLst d && noLsts ds
end
open Classical in
noncomputable def inF (ρ : List Sl) (F H : Hp) : Hp := fun b => if b ∈ feet ρ then H b else F b
open Classical in
noncomputable def offF (ρ : List Sl) (F : Hp) : Hp := fun b => if b ∈ feet ρ then none else F b
theorem frz1_foot (s : Sl) : foot (frz1 s) = [] := by
  cases s with
  | o a ob => cases ob <;> rfl
  | un => rfl
  | raw v => rfl
  | d x => rfl
  | fz a ob => rfl
theorem frzAll_feet (ρ : List Sl) : feet (frzAll ρ) = [] := by
  induction ρ with
  | nil => rfl
  | cons s ρ ih => 
    show feet (frz1 s :: frzAll ρ) = []
    rw [feet_cons, frz1_foot, ih]
    rfl
/-- what stands at an own object's place -/
def Held (o : HO) : Prop := match o with
  | .lst _ => True
  | .ins _ _ _ => True
  | .dT _ => True
  | _ => False
section
variable {K : PySem.W.Frag} {G F H F' H' : Hp} {σ : L2.St} {ρ : List Sl}
theorem flds_held : ∀ {vfs : List (Str × V)} {fs : List (Str × Fd)} {a : Addr}, Flds K F H vfs fs → a ∈ footF fs → ∃ o, H a = some o ∧ Held o
  | [], [], _, _, ha => by cases ha
  | (n, v) :: r, (m, .d x) :: s, _, h, ha => flds_held h.2.2 ha
  | (n, v) :: r, (m, .own b xs) :: s, a, h, ha => by
    obtain ⟨h1, h2, ⟨us, h3, h4⟩, h5⟩ := h
    rcases List.mem_cons.mp ha with e | ha
    · exact ⟨.lst us, e ▸ h3, trivial⟩
    · exact flds_held h5 ha
  | [], _ :: _, _, h, _ => h.elim
  | _ :: _, [], _, h, _ => by
    revert h
    simp [Flds]
theorem slOk_held {s : Option V} {t : Sl} {a : Addr} (h : SlOk K F H s t) (ha : a ∈ foot t) : ∃ o, H a = some o ∧ Held o := by
  cases t with
  | un => cases ha
  | raw v => cases ha
  | d x => cases ha
  | fz b ob => cases ha
  | o b ob =>
    cases ob with
    | lst xs =>
      obtain ⟨_, vs, h1, _⟩ := h
      rcases List.mem_cons.mp ha with e | ha
      · exact ⟨.lst vs, e ▸ h1, trivial⟩
      · cases ha
    | ins C dx fs =>
      obtain ⟨_, vfs, h1, h2⟩ := h
      rcases List.mem_cons.mp ha with e | ha
      · exact ⟨.ins C dx vfs, e ▸ h1, trivial⟩
      · exact flds_held h2 ha
    | rws bs =>
      obtain ⟨_, h1, h2⟩ := h
      rcases List.mem_cons.mp ha with e | ha
      · exact ⟨.lst _, e ▸ h1, trivial⟩
      · obtain ⟨c, hc, rfl⟩ := List.mem_map.mp ha
        obtain ⟨us, h3, _⟩ := h2 c hc
        exact ⟨.lst us, h3, trivial⟩
    | dct kvs =>
      obtain ⟨_, vs, h1, _⟩ := h
      rcases List.mem_cons.mp ha with e | ha
      · exact ⟨.dT _, e ▸ h1, trivial⟩
      · cases ha
theorem Rep.held (R : Rep K G F H σ ρ) {a : Addr} (ha : a ∈ feet ρ) : ∃ o, H a = some o ∧ Held o := by
  obtain ⟨s, hs, ha⟩ := List.mem_flatMap.mp ha
  obtain ⟨i, hi⟩ := List.getElem?_of_mem hs
  exact slOk_held (R.sl i s hi) ha
theorem Rep.inF_same (R : Rep K G F H σ ρ) : Same F (inF ρ F H) := fun b o e => by
  unfold inF
  split
  · rename_i h
    rw [(R.ap b h).1] at e; cases e
  · exact e
theorem inF_at {b : Addr} (h : b ∈ feet ρ) : inF ρ F H b = H b := by
  unfold inF
  rw [if_pos h]
theorem offF_at {b : Addr} (h : b ∈ feet ρ) : offF ρ F b = none := by
  unfold offF
  rw [if_pos h]
theorem offF_off {b : Addr} (h : b ∉ feet ρ) : offF ρ F b = F b := by
  unfold offF
  rw [if_neg h]
theorem dpa_rws {K : PySem.W.Frag} {F : Hp} : ∀ {bs : List (Addr × List PyData)}, (∀ b ∈ bs, ∃ us, F b.1 = some (.lst us) ∧ DpAll K F us b.2) → DpAll K F (bs.map fun b => V.ref b.1) (bs.map fun b => .list b.2)
  | [], _ => .nil
  | b :: bs, h => by
    obtain ⟨us, h1, h2⟩ := h b (List.mem_cons_self ..)
    exact .cons (.lst (SqL.of h1) h2) (dpa_rws fun c hc => h c (List.mem_cons_of_mem _ hc))
theorem Rep.lookAll (R : Rep K G F H σ ρ) : Rep K G (inF ρ F H) H σ (frzAll ρ) where
  fh := fun b o e => by
    unfold inF at e
    split at e
    · exact e
    · exact R.fh b o e
  gh := R.gh
  fg := fun a h => by
    by_cases q : a ∈ feet ρ
    · exact (R.ap a q).2
    · unfold inF at h
      rw [if_neg q] at h
      exact R.fg a h
  len := by
    unfold frzAll
    rw [List.length_map]
    exact R.len
  sl := fun i s e => by
    unfold frzAll at e
    rw [List.getElem?_map] at e
    cases q : ρ[i]? with
    | none => rw [q] at e; cases e
    | some t =>
      rw [q] at e
      cases e
      have h := slOk_mono (R.inF_same) (fun b _ o ho => ho) (R.sl i t q)
      have hm : ∀ b ∈ foot t, inF ρ F H b = H b := fun b hb => inF_at (mem_feet q hb)
      cases t with
      | un => trivial
      | raw v => exact h
      | d x => exact h
      | fz a ob => exact h
      | o a ob =>
        cases ob with
        | lst xs =>
          obtain ⟨h1, vs, h2, h3⟩ := h
          exact ⟨.ref a, h1, .lst (SqL.of ((hm a (List.mem_cons_self ..)).trans h2)) h3⟩
        | ins C dx fs => exact ⟨h.1, obOk_mono (Same.refl _) (fun b hb o ho => (hm b hb).trans ho) h.2⟩
        | dct kvs => exact ⟨h.1, obOk_mono (Same.refl _) (fun b hb o ho => (hm b hb).trans ho) h.2⟩
        | rws bs =>
          obtain ⟨h1, h2, h3⟩ := h
          refine ⟨.ref a, h1, .lst (SqL.of ((hm a (List.mem_cons_self ..)).trans h2)) (dpa_rws fun b hb => ?_)⟩
          obtain ⟨us, h4, h5⟩ := h3 b hb
          exact ⟨us, (hm b.1 (List.mem_cons_of_mem _ (List.mem_map_of_mem hb))).trans h4, h5⟩
  nd := by rw [frzAll_feet]; exact List.nodup_nil
  ap := fun a ha => by rw [frzAll_feet] at ha; cases ha
theorem Rep.offF_same (R : Rep K G F H σ ρ) (e : Same (inF ρ F H) F') : Same F (offF ρ F') := fun b o q => by
  have hb : b ∉ feet ρ := fun h => by rw [(R.ap b h).1] at q; cases q
  rw [offF_off hb]
  exact e b o (R.inF_same b o q)
theorem Rep.lookEnd {ρ' : List Sl} (R : Rep K G F H σ ρ) (e : Same (inF ρ F H) F') (R' : Rep K G F' H' σ ρ') : Rep K G (offF ρ F') H' σ ρ where
  fh := fun b o q => by
    unfold offF at q
    split at q
    · cases q
    · exact R'.fh b o q
  gh := R'.gh
  fg := fun b hb => R'.fg b fun h => hb (by
    unfold offF
    split
    · rfl
    · exact h)
  len := R.len
  sl := fun i s q => slOk_mono (R.offF_same e) (fun b hb o ho => R'.fh b o (e b o ((inF_at (mem_feet q hb)).trans ho))) (R.sl i s q)
  nd := R.nd
  ap := fun a ha => ⟨offF_at ha, (R.ap a ha).2⟩
theorem seqT_off {a : Addr} {xs : List V} (hd : ∀ b ∈ feet ρ, ∃ o, F b = some o ∧ Held o) (h : SqT K F a xs) : SqT K (offF ρ F) a xs := by
  rcases h with (h | ⟨o, h⟩) | h
  · have hb : a ∉ feet ρ := fun q => by
      obtain ⟨o, h1, h2⟩ := hd a q
      rw [h] at h1; cases h1
      exact h2
    exact .inl (.inl ((offF_off hb).trans h))
  · have hb : a ∉ feet ρ := fun q => by
      obtain ⟨o', h1, h2⟩ := hd a q
      rw [h] at h1; cases h1
      exact h2
    exact .inl (.inr ⟨o, (offF_off hb).trans h⟩)
  · exact .inr h
mutual
theorem dp_off (hd : ∀ b ∈ feet ρ, ∃ o, F b = some o ∧ Held o) : ∀ (d : PyData) (v : V), noLst d = true → Dp K F v d → Dp K (offF ρ F) v d
  | .none, _, _, h => by cases h; exact .non
  | .bool b, _, _, h => by cases h; exact .bl _
  | .int i, _, _, h => by cases h; exact .int _
  | .str x, _, _, h => by cases h; exact .str _
  | .list ds, _, n, h => by cases n
  | .tuple ds, _, n, h => by
    cases h with
    | tup hs ha => exact .tup (seqT_off hd hs) (dpa_off hd ds _ n ha)
  | .dict _, _, _, h => by cases h
theorem dpa_off (hd : ∀ b ∈ feet ρ, ∃ o, F b = some o ∧ Held o) : ∀ (ds : List PyData) (vs : List V), noLsts ds = true → DpAll K F vs ds → DpAll K (offF ρ F) vs ds
  | [], _, _, h => by cases h; exact .nil
  | d :: ds, _, n, h => by
    cases h with
    | cons h1 h2 =>
      unfold noLsts at n
      rw [Bool.and_eq_true] at n
      exact .cons (dp_off hd d _ n.1 h1) (dpa_off hd ds _ n.2 h2)
end
end
def dBor (T : DT) : DT := fun ρ Q => T (frzAll ρ) fun d _ => noLst d = true ∧ Q d ρ
def dBorT (T : DTT) : DTT := fun ρ Q => T (frzAll ρ) fun b _ => Q b ρ
section
variable {X : Cx} {e c : Expr} {T : DT} {TT : DTT}
theorem de_bor (h : DE X e T) : DE X e (dBor T) := pe_imp h fun σ H R q => by
  obtain ⟨G, F, ρ, Q, r, q, k⟩ := q
  refine ⟨G, _, _, _, r.lookAll, q, fun v d ρ' F' H' e1 r1 d1 q1 => ?_⟩
  have hd : ∀ b ∈ feet ρ, ∃ o, F' b = some o ∧ Held o := fun b hb => by
    obtain ⟨o, h1, h2⟩ := r.held hb
    exact ⟨o, e1 b o ((inF_at hb).trans h1), h2⟩
  exact k v d ρ _ H' (r.offF_same e1) (r.lookEnd e1 r1) (dp_off hd d v q1.1 d1) q1.2
theorem db_bor (h : DB X c TT) : DB X c (dBorT TT) := pt_imp h fun σ H R q => by
  obtain ⟨G, F, ρ, Q, r, q, k⟩ := q
  refine ⟨G, _, _, _, r.lookAll, q, fun b ρ' F' H' e1 r1 q1 => ?_⟩
  exact k b ρ _ H' (r.offF_same e1) (r.lookEnd e1 r1) q1
end
end DL

namespace DL
open PySem PySem.Spec PyProof.Rows L2

/-! ### new objects, rows of new values -/
abbrev DTN := List Sl → (Ob → List Sl → Prop) → Prop
abbrev DTM := List Sl → (List Sl → List Sl → Prop) → Prop
def cN (K : PySem.W.Frag) (T : DTN) : TE := fun σ H R => ∃ G F ρ Q, Rep K G F H σ ρ ∧ T ρ Q ∧
  ∀ p ob ρ' F' H', Same F F' → Rep K G F' H' (σ ++ [some (.ref p)]) (ρ' ++ [.o p ob]) → ρ'.length = σ.length → Q ob ρ' → R (.ref p) H'
def cM (K : PySem.W.Frag) (T : DTM) : TA := fun σ H R => ∃ G F ρ Q, Rep K G F H σ ρ ∧ T ρ Q ∧
  ∀ vs ss ρ' F' H', Same F F' → Rep K G F' H' (σ ++ vs.map some) (ρ' ++ ss) → ρ'.length = σ.length → Q ss ρ' → R vs H'
abbrev DN (X : Cx) (e : Expr) (T : DTN) : Prop := PE X e (cN X.K T)
abbrev DM (X : Cx) (es : List Expr) (T : DTM) : Prop := PA X es (cM X.K T)
section
variable {K : PySem.W.Frag} {G F F' H H' : Hp} {σ : L2.St} {ρ : List Sl}
theorem getElem?_app_last {α : Type} (a : List α) (x : α) : (a ++ [x])[a.length]? = some x := by
  rw [List.getElem?_append_right (Nat.le_refl _)]
  simp
/-- a new own list, behind -/
theorem Rep.appOwn (R : Rep K G F H σ ρ) {p : Addr} (hp : H p = none) {vs : List V} {xs : List PyData} (d : DpAll K F vs xs) : Rep K G F (upd H p (.lst vs)) (σ ++ [some (.ref p)]) (ρ ++ [.o p (.lst xs)]) := by
  have R1 := R.start 1
  have R2 := R1.putOwn (i := ρ.length) hp d
  have e1 : (σ ++ List.replicate 1 none).set ρ.length (some (V.ref p)) = σ ++ [some (.ref p)] := by
    rw [R.len, List.set_append_right _ _ (Nat.le_refl _)]
    simp
  have e2 : (ρ ++ List.replicate 1 Sl.un).set ρ.length (.o p (.lst xs)) = ρ ++ [.o p (.lst xs)] := by
    rw [List.set_append_right _ _ (Nat.le_refl _)]
    simp
  rw [e1, e2] at R2
  exact R2
theorem Rep.frzLast {p : Addr} {xs : List PyData} (R : Rep K G F H (σ ++ [some (.ref p)]) (ρ ++ [.o p (.lst xs)])) (hl : ρ.length = σ.length) : ∃ F', Same F F' ∧ Rep K G F' H σ ρ ∧ Dp K F' (.ref p) (.list xs) := by
  have h := getElem?_app_last ρ (.o p (.lst xs))
  obtain ⟨l1, vs, hv, dv⟩ := R.sl _ _ h
  have R1 := R.freeze h hv dv
  have e2 : (ρ ++ [Sl.o p (.lst xs)]).set ρ.length (.d (.list xs)) = ρ ++ [.d (.list xs)] := by
    rw [List.set_append_right _ _ (Nat.le_refl _)]
    simp
  rw [e2] at R1
  have e1 := same_new (o := HO.lst vs) (notTup_of_foot R h (List.mem_cons_self ..)).1
  exact ⟨_, e1, R1.drop hl, .lst (SqL.of upd_same) (dpa_mono e1 _ _ dv)⟩
/-- a row of slots is cut in -/
theorem feet_mid (a b c : List Sl) : feet (a ++ b ++ c) = feet a ++ feet b ++ feet c := by rw [feet_append, feet_append]
theorem Rep.insS {v : V} {s : Sl} {vs : L2.St} {ss : List Sl} (R : Rep K G F H (σ ++ vs) (ρ ++ ss)) (hl : ρ.length = σ.length) (h : SlOk K F H (some v) s) (n1 : (foot s).Nodup) (n2 : ∀ a ∈ foot s, a ∉ feet (ρ ++ ss)) (ap : ∀ a ∈ foot s, F a = none ∧ G a = none) :
    Rep K G F H (σ ++ some v :: vs) (ρ ++ s :: ss) := by
  have hf : ∀ a, a ∈ feet (ρ ++ s :: ss) → a ∈ foot s ∨ a ∈ feet (ρ ++ ss) := fun a ha => by
    rw [feet_append, feet_cons] at ha
    rw [feet_append]
    rcases List.mem_append.mp ha with q | q
    · exact .inr (List.mem_append_left _ q)
    · rcases List.mem_append.mp q with q | q
      · exact .inl q
      · exact .inr (List.mem_append_right _ q)
  refine ⟨R.fh, R.gh, R.fg, ?_, fun i t e => ?_, ?_, fun a ha => ?_⟩
  · have := R.len
    simp only [List.length_append, List.length_cons] at this ⊢
    omega
  · by_cases hi : i < ρ.length
    · rw [List.getElem?_append_left hi] at e
      have h' := R.sl i t (by rw [List.getElem?_append_left hi]; exact e)
      rw [look_app_l (by omega)] at h' ⊢
      exact h'
    · rw [List.getElem?_append_right (by omega)] at e
      rw [look_app_r (by omega)]
      cases q : i - ρ.length with
      | zero =>
        rw [q] at e
        have et : s = t := by simpa using e
        subst et
        have : i - σ.length = 0 := by omega
        rw [this]
        exact h
      | succ m =>
        rw [q, List.getElem?_cons_succ] at e
        have h' := R.sl (ρ.length + m) t (by rw [List.getElem?_append_right (by omega), Nat.add_sub_cancel_left]; exact e)
        rw [look_app_r (by omega)] at h'
        have e1 : ρ.length + m - σ.length = m := by omega
        have e2 : i - σ.length = m + 1 := by omega
        rw [e1] at h'
        rw [e2]
        exact h'
  · have nd := R.nd
    rw [feet_append] at nd
    rw [feet_append, feet_cons]
    rw [List.nodup_append] at nd ⊢
    refine ⟨nd.1, List.nodup_append.mpr ⟨n1, nd.2.1, fun x hx y hy e => ?_⟩, fun x hx y hy e => ?_⟩
    · subst e
      exact n2 x hx (by rw [feet_append]; exact List.mem_append_right _ hy)
    · subst e
      rcases List.mem_append.mp hy with q | q
      · exact n2 x q (by rw [feet_append]; exact List.mem_append_left _ hx)
      · exact nd.2.2 x hx x q rfl
  · rcases hf a ha with q | q
    · exact ap a q
    · exact R.ap a q
/-- an object behind is hidden for a while -/
def hidG (fs : List Addr) (G H : Hp) : Hp := fun b => if b ∈ fs then H b else G b
theorem hidG_at {fs : List Addr} {b : Addr} (h : b ∈ fs) : hidG fs G H b = H b := by unfold hidG; rw [if_pos h]
theorem hidG_off {fs : List Addr} {b : Addr} (h : b ∉ fs) : hidG fs G H b = G b := by unfold hidG; rw [if_neg h]
theorem feet_one (s : Sl) : feet [s] = foot s := by
  rw [feet_cons]
  exact List.append_nil _
theorem Rep.hide {v : Option V} {s : Sl} (R : Rep K G F H (σ ++ [v]) (ρ ++ [s])) (hl : ρ.length = σ.length) : Rep K (hidG (foot s) G H) F H σ ρ := by
  have R1 := R.drop hl
  have hs : ∀ b ∈ foot s, b ∈ feet (ρ ++ [s]) := fun b hb => by
    rw [feet_append, feet_one]
    exact List.mem_append_right _ hb
  refine ⟨R.fh, fun b o e => ?_, fun b hb => ?_, R1.len, R1.sl, R1.nd, fun a ha => ⟨(R1.ap a ha).1, ?_⟩⟩
  · by_cases q : b ∈ foot s
    · rw [hidG_at q] at e; exact e
    · rw [hidG_off q] at e; exact R.gh b o e
  · have q : b ∉ foot s := fun q => hb (R.ap b (hs b q)).1
    rw [hidG_off q]
    exact R.fg b hb
  · have nd := R.nd
    rw [feet_append, feet_one] at nd
    have q : a ∉ foot s := fun q => (List.nodup_append.mp nd).2.2 a ha a q rfl
    rw [hidG_off q]
    exact (R1.ap a ha).2
theorem Rep.unhide {v : V} {s : Sl} {ρ2 ss : List Sl} {vs : L2.St} {F2 H2 : Hp} (R : Rep K G F H (σ ++ [some v]) (ρ ++ [s])) (hl : ρ.length = σ.length) (e : Same F F2) (R2 : Rep K (hidG (foot s) G H) F2 H2 (σ ++ vs) (ρ2 ++ ss)) (hl2 : ρ2.length = σ.length) :
    Rep K G F2 H2 (σ ++ some v :: vs) (ρ2 ++ s :: ss) := by
  have hm : ∀ {a : Addr}, a ∈ foot s → a ∈ feet (ρ ++ [s]) := fun h => mem_feet (getElem?_app_last ρ s) h
  have there : ∀ b ∈ foot s, ∃ o, hidG (foot s) G H b = some o ∧ H b = some o := fun b hb => by
    obtain ⟨o, ho⟩ := R.there (hm hb)
    exact ⟨o, (hidG_at hb).trans ho, ho⟩
  have hF2 : ∀ b ∈ foot s, F2 b = none := fun b hb => by
    obtain ⟨o, h1, _⟩ := there b hb
    cases q : F2 b with
    | none => rfl
    | some u =>
      have := R2.fg b (by rw [q]; simp)
      rw [h1] at this; cases this
  have gOf : ∀ b, hidG (foot s) G H b = none → G b = none := fun b hb => by
    have q : b ∉ foot s := fun q => by
      obtain ⟨o, h1, _⟩ := there b q
      rw [hb] at h1; cases h1
    rw [hidG_off q] at hb
    exact hb
  have R3 : Rep K G F2 H2 (σ ++ vs) (ρ2 ++ ss) := by
    refine ⟨R2.fh, fun b o q => ?_, fun b hb => gOf b (R2.fg b hb), R2.len, R2.sl, R2.nd, fun a ha => ⟨(R2.ap a ha).1, gOf a (R2.ap a ha).2⟩⟩
    have hb : b ∉ foot s := fun h => by
      have := (R.ap b (hm h)).2
      rw [this] at q; cases q
    exact R2.gh b o ((hidG_off hb).trans q)
  have hs := R.sl _ _ (getElem?_app_last ρ s)
  rw [look_app_r (by omega), hl, Nat.sub_self] at hs
  have nds : (foot s).Nodup := by
    have nd := R.nd
    rw [feet_append, feet_one] at nd
    exact (List.nodup_append.mp nd).2.1
  refine R3.insS hl2 (slOk_mono e (fun b hb o ho => R2.gh b o ((hidG_at hb).trans ho)) hs) nds (fun a ha hb => ?_) fun a ha => ⟨hF2 a ha, (R.ap a (hm ha)).2⟩
  obtain ⟨o, h1, _⟩ := there a ha
  have := (R2.ap a hb).2
  rw [h1] at this; cases this
end

section
variable {X : Cx} {e : Expr} {es : List Expr} {pos : Pos} {Ta : DT} {Tn : DTN} {Tr : DTA} {U : DTM} {kk : Nat}
def dnLst (Tr : DTA) : DTN := fun ρ Q => Tr ρ fun xs ρ1 => xs.length ≤ sizeLine ∧ Q (.lst xs) ρ1
theorem dn_lst (h : DA X es Tr) : DN X (.List es pos) (dnLst Tr) := pe_imp (pe_lst h) fun σ H R q => by
  obtain ⟨G, F, ρ, Q, r, q, k⟩ := q
  refine ⟨G, F, ρ, _, r, q, fun vs xs ρ1 F1 H1 e1 r1 d1 q1 => ⟨by rw [dpa_len d1]; exact q1.1, fun p hp => ?_⟩⟩
  exact k p _ ρ1 F1 _ e1 (r1.appOwn hp d1) r1.len q1.2
/-- a new list, frozen -/
def dFz (Tn : DTN) : DT := fun ρ Q => Tn ρ fun ob ρ1 => match ob with
  | .lst xs => Q (.list xs) ρ1
  | _ => False
theorem de_ofN (h : DN X e Tn) : DE X e (dFz Tn) := pe_imp h fun σ H R q => by
  obtain ⟨G, F, ρ, Q, r, q, k⟩ := q
  refine ⟨G, F, ρ, _, r, q, fun p ob ρ1 F1 H1 e1 r1 l1 q1 => ?_⟩
  split at q1
  · obtain ⟨F2, e2, r2, d2⟩ := r1.frzLast l1
    exact k _ _ ρ1 F2 H1 (e1.trans e2) r2 d2 q1
  · exact q1.elim
/-- name = a new object -/
def dSetN (i : Nat) (Tn : DTN) : DTS := fun D ρ => Tn ρ fun ob ρ1 => ∀ p, D.nx (ρ1.set i (.o p ob))
theorem ds_setN {i : Nat} {x : Str} {pos' : Pos} (hN : X.N.Nodup) (hi : X.N[i]? = some x) (hx : Loc X.env.scope x) (he : DN X e Tn) (hs : swapsWith e (some (.Name x pos')) pos.line X.env = pure false := by rfl)
    (hf : X.fn x = true ∨ X.env.scope.names.lookup x = some .local := by first | exact .inl rfl | exact .inr rfl | assumption) : DS X (.Assign [.Name x pos'] e pos) (dSetN i Tn) :=
  ps_imp (L2.ps_set hN hi hx he hs hf) fun E σ H q => by
    obtain ⟨G, F, ρ, D, r, q, l⟩ := q
    refine ⟨G, F, ρ, _, r, q, fun p ob ρ1 F1 H1 e1 r1 l1 q1 => ?_⟩
    have r2 := r1.place (i := i) l1
    rw [List.append_nil, List.append_nil] at r2
    exact l.nx _ _ F1 H1 e1 r2 (q1 p)
def dmNil : DTM := fun ρ Q => Q [] ρ
def dmDat (Ta : DT) (U : DTM) : DTM := fun ρ Q => Ta ρ fun x ρ1 => U ρ1 fun ss ρ2 => Q (.d x :: ss) ρ2
def dmNew (Tn : DTN) (U : DTM) : DTM := fun ρ Q => Tn ρ fun ob ρ1 => U ρ1 fun ss ρ2 => ∀ p, Q (.o p ob :: ss) ρ2
theorem dm_nil : DM X [] dmNil := pa_imp pa_nil fun σ H R q => by
  obtain ⟨G, F, ρ, Q, r, q, k⟩ := q
  exact k [] [] ρ F H (Same.refl _) (by simpa using r) r.len q
theorem dm_dat (h : DE X e Ta) (hr : DM X es U) (hs : starEach (e :: es) X.env = (false, eval e X.env) :: starEach es X.env := by rfl) : DM X (e :: es) (dmDat Ta U) := pa_imp (pa_cons h hr hs) fun σ H R q => by
  obtain ⟨G, F, ρ, Q, r, q, k⟩ := q
  refine ⟨G, F, ρ, _, r, q, fun v x ρ1 F1 H1 e1 r1 d1 q1 => ⟨G, F1, ρ1, _, r1, q1, fun vs ss ρ2 F2 H2 e2 r2 l2 q2 => ?_⟩⟩
  refine k (v :: vs) (.d x :: ss) ρ2 F2 H2 (e1.trans e2) ?_ l2 q2
  exact r2.insS l2 ⟨v, rfl, dp_mono e2 _ _ d1⟩ List.nodup_nil (fun a ha => nomatch ha) fun a ha => nomatch ha
theorem dm_new (h : DN X e Tn) (hr : DM X es U) (hs : starEach (e :: es) X.env = (false, eval e X.env) :: starEach es X.env := by rfl) : DM X (e :: es) (dmNew Tn U) := pa_imp (pa_cons h hr hs) fun σ H R q => by
  obtain ⟨G, F, ρ, Q, r, q, k⟩ := q
  refine ⟨G, F, ρ, _, r, q, fun p ob ρ1 F1 H1 e1 r1 l1 q1 => ⟨_, F1, ρ1, _, r1.hide l1, q1, fun vs ss ρ2 F2 H2 e2 r2 l2 q2 => ?_⟩⟩
  exact k (.ref p :: vs) (.o p ob :: ss) ρ2 F2 H2 (e1.trans e2) (r1.unhide l1 e2 r2 l2) l2 (q2 p)
/-! several names at once -/
def gNms : List Nat → TGs
  | [] => gNil
  | k :: ks => gCons (gName k) (gNms ks)
def putAll : List Nat → List Sl → List Sl → List Sl
  | k :: ks, s :: ss, ρ => putAll ks ss (ρ.set k s)
  | _, _, ρ => ρ
def setAll : List Nat → List V → L2.St → L2.St
  | k :: ks, v :: vs, σ => setAll ks vs (σ.set k (some v))
  | _, _, σ => σ
theorem gNms_run : ∀ {ks : List Nat} {vs : List V} {σ : L2.St} {H : Hp} {R : L2.St → Hp → Prop}, vs.length = ks.length → R (setAll ks vs σ) H → gNms ks vs σ H R
  | [], [], _, _, _, _, h => ⟨rfl, h⟩
  | k :: ks, v :: vs, _, _, _, hl, h => ⟨v, vs, rfl, gNms_run (by simpa using hl) h⟩
  | [], _ :: _, _, _, _, hl, _ => by cases hl
  | _ :: _, [], _, _, _, hl, _ => by cases hl
theorem Rep.places {K : PySem.W.Frag} {G F H : Hp} : ∀ {ks : List Nat} {vs : List V} {ss : List Sl} {σ : L2.St} {ρ : List Sl}, Rep K G F H (σ ++ vs.map some) (ρ ++ ss) → ρ.length = σ.length → vs.length = ks.length → Rep K G F H (setAll ks vs σ) (putAll ks ss ρ)
  | [], [], [], _, _, r, _, _ => by simpa only [setAll, putAll, List.map_nil, List.append_nil] using r
  | [], [], _ :: _, _, _, r, hl, _ => by
    have := r.len
    simp at this
    omega
  | k :: ks, v :: vs, s :: ss, σ, ρ, r, hl, hv => by
    have r1 := Rep.place (i := k) (σ2 := vs.map some) r hl
    exact Rep.places (ks := ks) (vs := vs) (ss := ss) (σ := σ.set k (some v)) (ρ := ρ.set k s) r1 (by simpa using hl) (by simpa using hv)
  | k :: ks, v :: vs, [], σ, ρ, r, hl, _ => by
    have := r.len
    simp at this
    omega
  | _ :: _, [], _, _, _, _, _, hl => by cases hl
  | [], _ :: _, _, _, _, _, _, hl => by cases hl
def dParN (ks : List Nat) (U : DTM) : DTS := fun D ρ => U ρ fun ss ρ1 => D.nx (putAll ks ss ρ1)
theorem ds_parN {ks : List Nat} {ts : List Expr} {kt k2 : Nat} {pt pt2 : Pos} (hc : X.calm = true) (hm : DM X es U) (hg : PGs X ts (gNms ks)) (hl : es.length = ks.length)
    (hn : (assignEach ts X.env).length = ks.length := by rfl) (hst : (assignEach ts X.env).findIdx? (·.1) = none := by rfl)
    (hs : swapsWithSole [.Tuple ts kt pt] (.Tuple es k2 pt2) pos.line X.env = pure false := by rfl) (hw : swappedStores [.Tuple ts kt pt] (.Tuple es k2 pt2) X.env = pure none := by rfl)
    (h1 : (assignEach [.Tuple ts kt pt] X.env).map (·.2) = [assign (.Tuple ts kt pt) X.env] := by rfl) : DS X (.Assign [.Tuple ts kt pt] (.Tuple es k2 pt2) pos) (fun D ρ => U ρ fun ss ρ1 => (ss.length = ks.length ∧ ss.length ≤ sizeLine) ∧ D.nx (putAll ks ss ρ1)) :=
  ps_imp (ps_asg (pe_tup hm) (pg_tup hc hg hn hst) hs hw h1) fun E σ H q => by
    obtain ⟨G, F, ρ, D, r, q, l⟩ := q
    refine ⟨G, F, ρ, _, r, q, fun vs ss ρ1 F1 H1 e1 r1 l1 q1 => ?_⟩
    have hv : vs.length = ss.length := by
      have := r1.len
      simp only [List.length_append, List.length_map] at this
      omega
    refine ⟨by rw [hv]; exact q1.1.2, fun p hp => ⟨p, vs, rfl, SqT.of upd_same, hv.trans q1.1.1, gNms_run (hv.trans q1.1.1) ?_⟩⟩
    have r2 : Rep X.K G F1 (upd H1 p (.tup vs)) (σ ++ vs.map some) (ρ1 ++ ss) := r1.newOwn hp
    exact l.nx _ _ F1 _ e1 (r2.places l1 (hv.trans q1.1.1)) q1.2
/-- two names, by swapped stores -/
def dPar (ks : List Nat) (U : DTM) : DTS := fun D ρ => U ρ fun ss ρ1 => ss.length = ks.length ∧ D.nx (putAll ks ss ρ1)
theorem ds_par {i j : Nat} {x y : Str} {a b : Expr} {px py pt : Pos} {kt k2 pt2} (hc : X.calm = true) (hN : X.N.Nodup) (hi : X.N[i]? = some x) (hj : X.N[j]? = some y) (hij : i ≠ j)
    (hx : X.env.scope.names.lookup x = some .local) (hy : X.env.scope.names.lookup y = some .local) (ha : DM X [a, b] U)
    (hw : swappedStores [.Tuple [.Name x px, .Name y py] kt pt] (.Tuple [a, b] k2 pt2) X.env = pure (some [x, y]))
    (hs : swapsWithSole [.Tuple [.Name x px, .Name y py] kt pt] (.Tuple [a, b] k2 pt2) pos.line X.env = pure false := by rfl) :
    DS X (.Assign [.Tuple [.Name x px, .Name y py] kt pt] (.Tuple [a, b] k2 pt2) pos) (dPar [i, j] U) :=
  ps_imp (L2.ps_par hc hN hi hj hij hx hy ha hw hs) fun E σ H q => by
    obtain ⟨G, F, ρ, D, r, q, l⟩ := q
    refine ⟨G, F, ρ, _, r, q, fun vs ss ρ1 F1 H1 e1 r1 l1 q1 => ?_⟩
    have hv : vs.length = ss.length := by
      have := r1.len
      simp only [List.length_append, List.length_map] at this
      omega
    have h2 : vs.length = 2 := hv.trans q1.1
    match vs, h2 with
    | [v, w], _ =>
      refine ⟨v, w, rfl, ?_⟩
      exact l.nx _ _ F1 H1 e1 (r1.places (ks := [i, j]) l1 rfl) q1.2
theorem ds_par3 {i j l : Nat} {x y z : Str} {a b c : Expr} {px py pz pt : Pos} {kt k2 pt2} (hc : X.calm = true) (hN : X.N.Nodup) (hi : X.N[i]? = some x) (hj : X.N[j]? = some y) (hl : X.N[l]? = some z) (hij : i ≠ j) (hil : i ≠ l) (hjl : j ≠ l)
    (hx : X.env.scope.names.lookup x = some .local) (hy : X.env.scope.names.lookup y = some .local) (hz : X.env.scope.names.lookup z = some .local) (ha : DM X [a, b, c] U)
    (hw : swappedStores [.Tuple [.Name x px, .Name y py, .Name z pz] kt pt] (.Tuple [a, b, c] k2 pt2) X.env = pure (some [x, y, z]))
    (hs : swapsWithSole [.Tuple [.Name x px, .Name y py, .Name z pz] kt pt] (.Tuple [a, b, c] k2 pt2) pos.line X.env = pure false := by rfl) :
    DS X (.Assign [.Tuple [.Name x px, .Name y py, .Name z pz] kt pt] (.Tuple [a, b, c] k2 pt2) pos) (dPar [i, j, l] U) :=
  ps_imp (L2.ps_par3 hc hN hi hj hl hij hil hjl hx hy hz ha hw hs) fun E σ H q => by
    obtain ⟨G, F, ρ, D, r, q, l⟩ := q
    refine ⟨G, F, ρ, _, r, q, fun vs ss ρ1 F1 H1 e1 r1 l1 q1 => ?_⟩
    have hv : vs.length = ss.length := by
      have := r1.len
      simp only [List.length_append, List.length_map] at this
      omega
    have h2 : vs.length = 3 := hv.trans q1.1
    match vs, h2 with
    | [v, w, u], _ =>
      refine ⟨v, w, u, rfl, ?_⟩
      exact l.nx _ _ F1 H1 e1 (r1.places (ks := [i, j, _]) l1 rfl) q1.2
end
end DL

namespace DL
open PySem PySem.Spec PyProof.Rows L2

/-! ### own[i] = e, own[i] op= e -/
inductive setAt (xs : List PyData) (i : Int) (x : PyData) (k : List PyData → Prop) : Prop
  | mk (j : Nat) (h1 : ixN xs.length i = some j) (h3 : k (xs.set j x))
theorem dpa_set {K : PySem.W.Frag} {F : Hp} {v : V} {x : PyData} (hx : Dp K F v x) : ∀ {vs : List V} {xs : List PyData} (j : Nat), DpAll K F vs xs → DpAll K F (vs.set j v) (xs.set j x)
  | _, _, _, .nil => .nil
  | _, _, 0, .cons _ t => .cons hx t
  | _, _, j + 1, .cons r t => .cons r (dpa_set hx j t)
section
variable {X : Cx} {e ie : Expr} {Te Ti : DT} {pos tpos npos : Pos} {x : Str}
theorem get_list : PGet X (rIxL X.K) := by
  intro pins s σ H x y v u Q I rx ry h
  obtain ⟨p, xs, i, z, rfl, rfl, hq, he, q⟩ := h
  cases rx
  obtain ⟨t, rfl⟩ := ry
  obtain ⟨its, r, pl, hz⟩ := I.list hq
  obtain ⟨j, h1, h2, h3, h4, h5⟩ := atI_get he
  obtain ⟨w, ew, rw'⟩ := r.get h2
  have hl := r.length
  have hn := line63
  by_cases h0 : 0 ≤ i
  · have hj : i.toNat = j := by
      rw [seqIndex_of h0 h5] at h1
      exact Option.some.inj h1
    exact wpAny_getItem_list pl.isList h0 (by omega) (by rw [hj]; simpa using ew) ⟨z, H, I, rw', q⟩
  · have hj : (i + (its.toArray.size : Int)).toNat = j := by
      rw [seqIndex_neg (by omega) h4] at h1
      rw [List.size_toArray, ← hl]
      exact Option.some.inj h1
    exact wpAny_getItem_list_neg pl.isList (by omega) (by rw [List.size_toArray] <;> omega) (by omega) (by rw [hj]; simpa using ew) ⟨z, H, I, rw', q⟩
def ownAt (ρ : List Sl) (i : Nat) (k : Addr → List PyData → Prop) : Prop := match ρ[i]? with
  | some (.o p (.lst xs)) => k p xs
  | _ => False
theorem ownAt_of {ρ : List Sl} {i : Nat} {k : Addr → List PyData → Prop} (h : ownAt ρ i k) : ∃ p xs, ρ[i]? = some (.o p (.lst xs)) ∧ k p xs := by
  unfold ownAt at h
  split at h
  · rename_i p xs e
    exact ⟨p, xs, e, h⟩
  · exact h.elim
theorem own_same {K : PySem.W.Frag} {G F H G' F' H' : Hp} {σ : L2.St} {ρ ρ' : List Sl} (r : Rep K G F H σ ρ) (r' : Rep K G' F' H' σ ρ') {i : Nat} {p p' : Addr} {ob ob' : Ob} (h : ρ[i]? = some (.o p ob)) (h' : ρ'[i]? = some (.o p' ob')) : p = p' := by
  have a := (r.sl i _ h).1
  have b := (r'.sl i _ h').1
  rw [a] at b
  injection b with b
  injection b
def dSetIx (i : Nat) (Ti Te : DT) : DTS := fun D ρ => Te ρ fun x ρ1 => ownAt ρ1 i fun _ _ => Ti ρ1 fun y ρ2 => asInt y fun k => ownAt ρ2 i fun p xs => setAt xs k x fun ys => D.nx (ρ2.set i (.o p (.lst ys)))
theorem ds_setIx (i : Nat) (hn : PE X (.Name x npos) (tVar i)) (hi : DE X ie Ti) (he : DE X e Te)
    (ha : ∀ v, assign (.Subscript (.Name x npos) ie tpos) X.env v = (do
      let ov ← holding [v] (eval (.Name x npos) X.env)
      let iv ← holding [v, ov] (eval ie X.env)
      standAt tpos
      holding [v, ov, iv] (setItem ov iv v)
      release [v, ov, iv] []) := by intro _; rfl)
    (hs : swapsWithSole [.Subscript (.Name x npos) ie tpos] e pos.line X.env = pure false := by rfl) (hw : swappedStores [.Subscript (.Name x npos) ie tpos] e X.env = pure none := by rfl)
    (h1 : (assignEach [.Subscript (.Name x npos) ie tpos] X.env).map (·.2) = [assign (.Subscript (.Name x npos) ie tpos) X.env] := by rfl) : DS X (.Assign [.Subscript (.Name x npos) ie tpos] e pos) (dSetIx i Ti Te) :=
  ps_imp (ps_asg he (pg_sub hn hi set_list ha) hs hw h1) fun E σ H q => by
    obtain ⟨G, F, ρ, D, r, q, l⟩ := q
    refine ⟨G, F, ρ, _, r, q, fun v z ρ1 F1 H1 e1 r1 d1 q1 => ?_⟩
    obtain ⟨p1, xs1, g1, q1⟩ := ownAt_of q1
    refine ⟨.ref p1, look_some (r1.sl i _ g1).1, G, F1, ρ1, _, r1, q1, fun u y ρ2 F2 H2 e2 r2 d2 q2 => ?_⟩
    obtain ⟨k, rfl, q2⟩ := asInt_of q2
    obtain ⟨p, xs, g2, q2⟩ := ownAt_of q2
    cases own_same r1 r2 g1 g2
    cases dp_int d2
    obtain ⟨_, vs, hv, dv⟩ := r2.sl i _ g2
    obtain ⟨j, hj, q2⟩ := q2
    · refine ⟨p1, vs, k, j, rfl, rfl, hv, by rw [dpa_len dv]; exact hj, ?_⟩
      exact l.nx _ _ F2 _ (e1.trans e2) (r2.write (ob' := .lst (xs.set j z)) g2 rfl upd_off ⟨_, upd_same, dpa_set (dp_mono e2 _ _ d1) j dv⟩) q2
def dAugIx (i : Nat) (Ti Te : DT) (o : PyData → PyData → (PyData → Prop) → Prop) : DTS := fun D ρ => ownAt ρ i fun _ _ => Ti ρ fun y ρ1 => asInt y fun k => ownAt ρ1 i fun _ xs => itemAt xs k fun old => Te ρ1 fun z ρ2 => o old z fun w => ownAt ρ2 i fun p ys => setAt ys k w fun zs => D.nx (ρ2.set i (.o p (.lst zs)))
theorem ds_augIx {op : Operator} {ti : TIp} {o : PyData → PyData → (PyData → Prop) → Prop} (i : Nat) (hn : PE X (.Name x npos) (tVar i)) (hi : DE X ie Ti) (he : DE X e Te) (ho : PIp X op ti) (od : OpD X.K ti o)
    (ha : ∀ ov iv new, augStore ie ov iv new = (do holding [new, ov, iv] (setItem ov iv new); release [new, ov, iv] []; pure .next) := by intros; rfl) : DS X (.AugAssign (.Subscript (.Name x npos) ie tpos) op e pos) (dAugIx i Ti Te o) :=
  ps_imp (ps_augS hn hi get_list he ho set_list ha) fun E σ H q => by
    obtain ⟨G, F, ρ, D, r, q, l⟩ := q
    obtain ⟨p0, xs0, g0, q⟩ := ownAt_of q
    refine ⟨.ref p0, look_some (r.sl i _ g0).1, G, F, ρ, _, r, q, fun u y ρ1 F1 H1 e1 r1 d1 q1 => ?_⟩
    obtain ⟨k, rfl, q1⟩ := asInt_of q1
    obtain ⟨p, xs, g1, q1⟩ := ownAt_of q1
    cases own_same r r1 g0 g1
    cases dp_int d1
    obtain ⟨_, vs, hv, dv⟩ := r1.sl i _ g1
    obtain ⟨old, hold, q1⟩ := itemAt_of q1
    · obtain ⟨w, h3, h4⟩ := atI_dpa dv hold
      refine ⟨p0, vs, k, w, rfl, rfl, SqL.of hv, h3, G, F1, ρ1, _, r1, q1, fun v2 z ρ2 F2 H2 e2 r2 d2 q2 => ?_⟩
      refine od G F2 H2 σ ρ2 w v2 old z _ _ r2 (dp_mono e2 _ _ h4) d2 q2 fun w3 z3 F3 H3 e3 r3 d3 q3 => ?_
      obtain ⟨p', ys, g2, q3⟩ := ownAt_of q3
      cases own_same r r3 g0 g2
      obtain ⟨_, vs2, hv2, dv2⟩ := r3.sl i _ g2
      obtain ⟨j, hj, q3⟩ := q3
      · refine ⟨p0, vs2, k, j, rfl, rfl, hv2, by rw [dpa_len dv2]; exact hj, ?_⟩
        exact l.nx _ _ F3 _ ((e1.trans e2).trans e3) (r3.write (ob' := .lst (ys.set j z3)) g2 rfl upd_off ⟨_, upd_same, dpa_set d3 j dv2⟩) q3
end

/-! ### calls that lend one object -/
def lent (fs : List Addr) (F H : Hp) : Hp := fun b => if b ∈ fs then none else others F H b
theorem lent_at {fs : List Addr} {F H : Hp} {b : Addr} (h : b ∈ fs) : lent fs F H b = none := by unfold lent; rw [if_pos h]
theorem lent_off {fs : List Addr} {F H : Hp} {b : Addr} (h : b ∉ fs) (hF : F b = none) : lent fs F H b = H b := by
  unfold lent others
  rw [if_neg h, hF]
section
variable {K : PySem.W.Frag} {G F H F' H' : Hp} {σ : L2.St} {ρ : List Sl}
theorem Rep.toBor (R : Rep K G F H σ ρ) {i : Nat} {a : Addr} {ob : Ob} (h : ρ[i]? = some (.o a ob)) {vs : List V} {xs : List PyData} (d : DpAll K F vs xs) : Rep K (lent (foot (.o a ob)) F H) F H ((V.ref a :: vs).map some) (.o a ob :: xs.map .d) where
  fh := R.fh
  gh := fun b o e => by
    unfold lent at e
    split at e
    · cases e
    · unfold others at e
      split at e
      · exact e
      · cases e
  fg := fun b hb => by
    unfold lent others
    split
    · rfl
    · split
      · rename_i q; exact absurd q hb
      · rfl
  len := by simp [dpa_len d]
  sl := fun j s e => by
    cases j with
    | zero =>
      have e' : Sl.o a ob = s := by simpa using e
      subst e'
      exact ⟨rfl, (R.sl i _ h).2⟩
    | succ j =>
      rw [List.getElem?_cons_succ, List.getElem?_map] at e
      cases q : xs[j]? with
      | none => rw [q] at e; cases e
      | some x =>
        rw [q] at e
        cases e
        obtain ⟨v, h1, h2⟩ := dpa_get d q
        exact ⟨v, look_of (by rw [List.map_cons, List.getElem?_cons_succ, List.getElem?_map, h1]; rfl), h2⟩
  nd := by
    rw [feet_cons, feet_data, List.append_nil]
    obtain ⟨u, v, e1, _, _⟩ := set_split ρ i _ (.o a ob) h
    have nd := R.nd
    rw [e1, feet_append, feet_cons] at nd
    exact (List.nodup_append.mp (List.nodup_append.mp nd).2.1).1
  ap := fun b hb => by
    rw [feet_cons, feet_data, List.append_nil] at hb
    exact ⟨(notTup_of_foot R h hb).1, lent_at hb⟩
theorem Rep.fromBor (R : Rep K G F H σ ρ) {i : Nat} {a : Addr} {ob ob' : Ob} (h : ρ[i]? = some (.o a ob)) (e : Same F F') (h2 : RepH K (lent (foot (.o a ob)) F H) F' H' [.o a ob']) : Rep K G F' H' σ (ρ.set i (.o a ob')) := by
  have hi : i < ρ.length := (List.getElem?_eq_some_iff.mp h).1
  have hfeet : feet [Sl.o a ob'] = foot (.o a ob') := by
    rw [feet_cons]
    exact List.append_nil _
  -- what is neither frozen nor lent is kept
  have keep : ∀ b o, F b = none → b ∉ foot (.o a ob) → H b = some o → lent (foot (.o a ob)) F H b = some o := fun b o h1 h3 h4 => (lent_off h3 h1).trans h4
  have kG : ∀ b o, G b = some o → lent (foot (.o a ob)) F H b = some o := fun b o hb => by
    refine keep b o ?_ (fun q => ?_) (R.gh b o hb)
    · cases q : F b with
      | none => rfl
      | some u =>
        have := R.fg b (by rw [q]; simp)
        rw [hb] at this; cases this
    · have := (notTup_of_foot R h q).2
      rw [hb] at this; cases this
  have kS : ∀ j t b, j ≠ i → ρ[j]? = some t → b ∈ foot t → ∃ o, H b = some o ∧ lent (foot (.o a ob)) F H b = some o := fun j t b hj ht hb => by
    obtain ⟨o, ho⟩ := R.there (mem_feet ht hb)
    exact ⟨o, ho, keep b o (notTup_of_foot R ht hb).1 (feet_apart R.nd hj ht h hb) ho⟩
  have other : ∀ b, b ∈ feet (ρ.set i (.o a ob')) → b ∈ foot (.o a ob') ∨ ∃ j t, j ≠ i ∧ ρ[j]? = some t ∧ b ∈ foot t := fun b hb => by
    obtain ⟨t, ht, hb⟩ := List.mem_flatMap.mp hb
    obtain ⟨j, hj⟩ := List.getElem?_of_mem ht
    by_cases q : j = i
    · subst q
      rw [List.getElem?_set_self hi] at hj
      cases hj
      exact .inl hb
    · rw [List.getElem?_set_ne (Ne.symm q)] at hj
      exact .inr ⟨j, t, q, hj, hb⟩
  refine ⟨h2.fh, fun b o hb => h2.gh b o (kG b o hb), fun b hb => ?_, by rw [List.length_set]; exact R.len, fun j t q => ?_, ?_, fun b hb => ?_⟩
  · cases q : G b with
    | none => rfl
    | some o =>
      have := h2.fg b hb
      rw [kG b o q] at this; cases this
  · by_cases hj : j = i
    · subst hj
      rw [List.getElem?_set_self hi] at q
      cases q
      exact ⟨(R.sl j _ h).1, h2.ob a ob' (List.mem_cons_self ..)⟩
    · rw [List.getElem?_set_ne (Ne.symm hj)] at q
      exact slOk_mono e (fun b hb o ho => by
        obtain ⟨o', h3, h4⟩ := kS j t b hj q hb
        rw [ho] at h3
        cases h3
        exact h2.gh b o h4) (R.sl j t q)
  · obtain ⟨u, v, e1, e2, e3⟩ := set_split ρ i _ (.o a ob') h
    have nd := R.nd
    rw [congrArg feet e1, feet_append, feet_cons, List.nodup_append, List.nodup_append] at nd
    have n2 := h2.nd
    rw [hfeet] at n2
    have far : ∀ b, b ∈ foot (.o a ob') → ∀ j t, j ≠ i → ρ[j]? = some t → b ∉ foot t := fun b hb j t hj ht hq => by
      obtain ⟨o, _, h4⟩ := kS j t b hj ht hq
      have := (h2.ap b (by rw [hfeet]; exact hb)).2
      rw [h4] at this; cases this
    rw [e2, feet_append, feet_cons, List.nodup_append, List.nodup_append]
    refine ⟨nd.1, ⟨n2, nd.2.1.2.1, fun x hx y hy q => ?_⟩, fun x hx y hy q => ?_⟩
    · subst q
      obtain ⟨t, ht, hy⟩ := List.mem_flatMap.mp hy
      obtain ⟨j, hj⟩ := List.getElem?_of_mem ht
      refine far x hx (i + 1 + j) t (by omega) ?_ hy
      rw [e1, List.getElem?_append_right (by omega)]
      have : i + 1 + j - u.length = j + 1 := by omega
      rw [this, List.getElem?_cons_succ]
      exact hj
    · subst q
      rcases List.mem_append.mp hy with hy | hy
      · obtain ⟨t, ht, hx⟩ := List.mem_flatMap.mp hx
        obtain ⟨j, hj⟩ := List.getElem?_of_mem ht
        have hjl : j < u.length := (List.getElem?_eq_some_iff.mp hj).1
        refine far x hy j t (by omega) ?_ hx
        rw [e1, List.getElem?_append_left hjl]
        exact hj
      · exact nd.2.2 x hx x (List.mem_append_right _ hy) rfl
  · rcases other b hb with q | ⟨j, t, hj, ht, hq⟩
    · have := h2.ap b (by rw [hfeet]; exact q)
      refine ⟨this.1, ?_⟩
      cases z : G b with
      | none => rfl
      | some o => rw [kG b o z] at this; cases this.2
    · obtain ⟨o, _, h4⟩ := kS j t b hj ht hq
      refine ⟨?_, (notTup_of_foot R ht hq).2⟩
      cases z : F' b with
      | none => rfl
      | some u =>
        have := h2.fg b (by rw [z]; simp)
        rw [h4] at this; cases this
end
/-- a def of the module whose first argument is lent -/
structure ClB (P : Program) (w : World) (K : PySem.W.Frag) (mg : Str → Option Value) (base : Heap) (k : Nat) (x : Str) (n : Nat) (T : DTB) : Prop where
  ex : ∃ (f : Addr) (fd : FuncData) (ps : List Str), FnOk P w K mg base CX0 k f fd ps (spB K n T) ∧ mg x = some (.ref f) ∧ PySem.W.keepIn K (.ref f) = true ∧ Binds K fd ps []
  len : ∀ ob xs Q, T ob xs Q → xs.length + 1 = n
def dCallB (i : Nat) (T : DTB) (Tr : DTA) : DT := fun ρ Q => match ρ[i]? with
  | some (.o _ _) => Tr ρ fun xs ρ1 => match ρ1[i]? with
    | some (.o a ob) => T ob xs fun d ob' => Q d (ρ1.set i (.o a ob'))
    | _ => False
  | _ => False
section
variable {X : Cx} {k j n : Nat} {x y : Str} {p pos npos : Pos} {es : List Expr} {T : DTB} {Tr : DTA}
theorem de_callB (i : Nat) (c : ClB X.prog X.w X.K X.mg X.base k x n T) (hr : Room j X.A) (hkj : k ≤ j) (hg : Gl X x) (hn : PE X (.Name y npos) (tVar i)) (ha : DA X es Tr)
    (hs : starEach (.Name y npos :: es) X.env = (false, eval (.Name y npos) X.env) :: starEach es X.env := by rfl)
    (hdb : (x == ("__debug__" : Str)) = false := by decide) (hpl : (backTo pos (starEach es X.env)).any (·.1) = false := by rfl) :
    DE X (.Call (.Name x p) (.Name y npos :: es) [] pos) (dCallB i T Tr) := by
  obtain ⟨f, fd, ps, F, hm, hk, hb⟩ := c.ex
  refine pe_imp (pe_call F (hr.mono hkj) hg hm hk hb .nil pass0 (pa_cons hn ha hs) hdb hs hpl) fun σ H R q => ?_
  obtain ⟨G, F, ρ, Q, r, q, kk⟩ := q
  unfold dCallB at q
  split at q
  · rename_i a0 ob0 g0
    refine ⟨.ref a0, look_some (r.sl i _ g0).1, G, F, ρ, _, r, q, fun vs xs ρ1 F1 H1 e1 r1 d1 q1 => ?_⟩
    split at q1
    · rename_i a ob g1
      cases own_same r r1 g0 g1
      exact ⟨by rw [List.append_nil, List.length_cons, dpa_len d1]; exact c.len _ _ _ q1, lent (foot (.o a0 ob)) F1 H1, F1, a0, ob, xs, _, by rw [List.append_nil]; exact r1.toBor g1 d1, q1,
        fun v d ob' F' H' e' h' dv qd => kk v d _ F' H' (e1.trans e') (r1.fromBor g1 e' h') dv qd⟩
    · exact q1.elim
  · exact q.elim
end
end DL

namespace DL
open PySem PySem.Spec PyProof.Rows L2

/-! ### fields of own instances -/
def fAt (f : Str) : List Str → Option Nat
  | [] => none
  | g :: r => if g = f then some 0 else match fAt f r with
    | some n => some (n + 1)
    | none => none
section
variable {K : PySem.W.Frag} {G F F' H H' : Hp} {σ : L2.St} {ρ : List Sl} {vfs : List (Str × V)} {fs : List (Str × Fd)} {f g : Str} {n : Nat} {v : V}
theorem flds_names : ∀ {vfs : List (Str × V)} {fs : List (Str × Fd)}, Flds K F H vfs fs → vfs.map (·.1) = fs.map (·.1)
  | [], [], _ => rfl
  | (n, v) :: r, (m, .d x) :: s, h => by
    rw [List.map_cons, List.map_cons, flds_names h.2.2, h.1]
  | (n, v) :: r, (m, .own b xs) :: s, h => by
    obtain ⟨h1, h2, h3, h5⟩ := h
    rw [List.map_cons, List.map_cons, flds_names h5, h1]
  | [], _ :: _, h => h.elim
  | _ :: _, [], h => by
    revert h
    simp [Flds]
theorem flds_getD : ∀ {vfs : List (Str × V)} {fs : List (Str × Fd)} {n : Nat} {g : Str} {x : PyData}, Flds K F H vfs fs → fs[n]? = some (g, .d x) → ∃ v, vfs[n]? = some (g, v) ∧ Dp K F v x
  | (n, v) :: r, (m, .d y) :: s, 0, g, x, h, e => by
    cases e
    exact ⟨v, by rw [h.1]; rfl, h.2.1⟩
  | (n, v) :: r, (m, .d y) :: s, k + 1, g, x, h, e => by
    obtain ⟨w, h1, h2⟩ := flds_getD (n := k) h.2.2 (by simpa using e)
    exact ⟨w, by simpa using h1, h2⟩
  | (n, v) :: r, (m, .own b xs) :: s, 0, g, x, h, e => by cases e
  | (n, v) :: r, (m, .own b xs) :: s, k + 1, g, x, h, e => by
    obtain ⟨_, _, _, h5⟩ := h
    obtain ⟨w, h1, h2⟩ := flds_getD (n := k) h5 (by simpa using e)
    exact ⟨w, by simpa using h1, h2⟩
  | [], [], _, _, _, _, e => by simp at e
  | [], _ :: _, _, _, _, h, _ => h.elim
  | _ :: _, [], _, _, _, _, e => by simp at e
theorem flds_getO : ∀ {vfs : List (Str × V)} {fs : List (Str × Fd)} {n : Nat} {g : Str} {b : Addr} {xs : List PyData}, Flds K F H vfs fs → fs[n]? = some (g, .own b xs) → vfs[n]? = some (g, .ref b) ∧ ∃ us, H b = some (.lst us) ∧ DpAll K F us xs
  | (n, v) :: r, (m, .d y) :: s, 0, g, b, xs, h, e => by cases e
  | (n, v) :: r, (m, .d y) :: s, k + 1, g, b, xs, h, e => by
    obtain ⟨h1, h2⟩ := flds_getO (n := k) h.2.2 (by simpa using e)
    exact ⟨by simpa using h1, h2⟩
  | (n, v) :: r, (m, .own c ys) :: s, 0, g, b, xs, h, e => by
    cases e
    obtain ⟨h1, h2, h3, _⟩ := h
    exact ⟨by rw [h1, h2]; rfl, h3⟩
  | (n, v) :: r, (m, .own c ys) :: s, k + 1, g, b, xs, h, e => by
    obtain ⟨_, _, _, h5⟩ := h
    obtain ⟨h1, h2⟩ := flds_getO (n := k) h5 (by simpa using e)
    exact ⟨by simpa using h1, h2⟩
  | [], [], _, _, _, _, _, e => by simp at e
  | [], _ :: _, _, _, _, _, h, _ => h.elim
  | _ :: _, [], _, _, _, _, _, e => by simp at e
theorem lookup_at : ∀ {vfs : List (Str × V)} {n : Nat}, fAt f (vfs.map (·.1)) = some n → vfs.lookup f = (vfs[n]?).map (·.2)
  | [], n, h => by cases h
  | (g, v) :: r, n, h => by
    rw [List.map_cons] at h
    unfold fAt at h
    by_cases q : g = f
    · rw [if_pos q] at h
      cases h
      subst q
      simp [List.lookup]
    · rw [if_neg q] at h
      split at h
      · rename_i m hm
        cases h
        have hb : (f == g) = false := beq_eq_false_iff_ne.mpr (Ne.symm q)
        simp only [List.lookup, hb, List.getElem?_cons_succ]
        exact lookup_at hm
      · cases h
theorem lookup_off : ∀ {vfs : List (Str × V)}, fAt f (vfs.map (·.1)) = none → vfs.lookup f = none
  | [], h => rfl
  | (g, v) :: r, h => by
    rw [List.map_cons] at h
    unfold fAt at h
    by_cases q : g = f
    · rw [if_pos q] at h
      cases h
    · rw [if_neg q] at h
      split at h
      · cases h
      · rename_i hm
        have hb : (f == g) = false := beq_eq_false_iff_ne.mpr (Ne.symm q)
        simp only [List.lookup, hb]
        exact lookup_off hm
theorem putF_off : ∀ {vfs : List (Str × V)}, fAt f (vfs.map (·.1)) = none → putF f v vfs = vfs ++ [(f, v)]
  | [], h => rfl
  | (g, w) :: r, h => by
    rw [List.map_cons] at h
    unfold fAt at h
    by_cases q : g = f
    · rw [if_pos q] at h
      cases h
    · rw [if_neg q] at h
      split at h
      · cases h
      · rename_i hm
        show (if g = f then _ else _) = _
        rw [if_neg q, putF_off hm]
        rfl
theorem footF_app : ∀ (a b : List (Str × Fd)), footF (a ++ b) = footF a ++ footF b
  | [], _ => rfl
  | (_, .d _) :: r, b => footF_app r b
  | (_, .own a _) :: r, b => by
    show a :: footF (r ++ b) = a :: footF r ++ footF b
    rw [footF_app r b]
    rfl
theorem flds_app : ∀ {vfs wfs : List (Str × V)} {fs gs : List (Str × Fd)}, Flds K F H vfs fs → Flds K F H wfs gs → Flds K F H (vfs ++ wfs) (fs ++ gs)
  | [], _, [], _, _, h => h
  | (n, v) :: r, _, (m, .d x) :: s, _, h, k => ⟨h.1, h.2.1, flds_app h.2.2 k⟩
  | (n, v) :: r, _, (m, .own b xs) :: s, _, h, k => by
    obtain ⟨h1, h2, h3, h5⟩ := h
    exact ⟨h1, h2, h3, flds_app h5 k⟩
  | [], _, _ :: _, _, h, _ => h.elim
  | _ :: _, _, [], _, h, _ => by
    revert h
    simp [Flds]
/-- the list of one field changes -/
theorem flds_setO {b : Addr} {xs ys : List PyData} {us : List V} (hH : ∀ c, c ≠ b → H' c = H c) (hb : H' b = some (.lst us)) (d : DpAll K F us ys) : ∀ {vfs : List (Str × V)} {fs : List (Str × Fd)} {n : Nat} {g : Str}, (footF fs).Nodup → Flds K F H vfs fs → fs[n]? = some (g, .own b xs) →
    Flds K F H' vfs (fs.set n (g, .own b ys)) ∧ footF (fs.set n (g, .own b ys)) = footF fs
  | (n, v) :: r, (m, .d y) :: s, 0, g, _, h, e => by cases e
  | (n, v) :: r, (m, .d y) :: s, k + 1, g, nd, h, e => by
    obtain ⟨h1, h2⟩ := flds_setO (vfs := r) (fs := s) (xs := xs) hH hb d (n := k) (g := g) nd h.2.2 (by simpa using e)
    exact ⟨⟨h.1, h.2.1, h1⟩, h2⟩
  | (n, v) :: r, (m, .own c zs) :: s, 0, g, nd, h, e => by
    cases e
    obtain ⟨h1, h2, _, h5⟩ := h
    have hn : b ∉ footF s := (List.nodup_cons.mp nd).1
    exact ⟨⟨h1, h2, ⟨us, hb, d⟩, flds_mono (Same.refl _) (fun c hc o ho => (hH c (fun q => hn (q ▸ hc))).trans ho) h5⟩, rfl⟩
  | (n, v) :: r, (m, .own c zs) :: s, k + 1, g, nd, h, e => by
    obtain ⟨h1, h2, ⟨ws, h3, h4⟩, h5⟩ := h
    have hn := List.nodup_cons.mp nd
    have e' : s[k]? = some (g, .own b xs) := by simpa using e
    obtain ⟨h6, h7⟩ := flds_setO (vfs := r) (fs := s) (xs := xs) hH hb d (n := k) (g := g) hn.2 h5 e'
    have hcb : c ≠ b := by
      rintro rfl
      refine hn.1 ?_
      clear h6 h7 h5 nd
      have : ∀ (s : List (Str × Fd)) (k : Nat), s[k]? = some (g, Fd.own c xs) → c ∈ footF s := by
        intro s
        induction s with
        | nil => intro k e; simp at e
        | cons p s ih =>
          intro k e
          cases k with
          | zero =>
            have e : p = (g, Fd.own c xs) := by simpa using e
            subst e
            exact List.mem_cons_self ..
          | succ k =>
            have := ih k (by simpa using e)
            obtain ⟨q, fd⟩ := p
            cases fd with
            | d y => exact this
            | own a zs => exact List.mem_cons_of_mem _ this
      exact this s k e'
    refine ⟨⟨h1, h2, ⟨ws, (hH c hcb).trans h3, h4⟩, h6⟩, ?_⟩
    show c :: footF (s.set k (g, .own b ys)) = c :: footF s
    rw [h7]
  | [], [], _, _, _, _, e => by simp at e
  | [], _ :: _, _, _, _, h, _ => h.elim
  | _ :: _, [], _, _, _, _, e => by simp at e
theorem foot_nodup (R : Rep K G F H σ ρ) {i : Nat} {s : Sl} (h : ρ[i]? = some s) : (foot s).Nodup := by
  obtain ⟨u, v, e1, _, _⟩ := set_split ρ i s s h
  have nd := R.nd
  rw [e1, feet_append, feet_cons] at nd
  exact (List.nodup_append.mp (List.nodup_append.mp nd).2.1).1
/-- a new list behind becomes part of an own object -/
theorem Rep.merge {p : Addr} {xs : List PyData} {i : Nat} {a : Addr} {ob ob' : Ob} (R : Rep K G F H (σ ++ [some (.ref p)]) (ρ ++ [.o p (.lst xs)])) (hl : ρ.length = σ.length) (h : ρ[i]? = some (.o a ob)) (hf : foot (.o a ob') = foot (.o a ob) ++ [p])
    (k : ∀ b, b ∉ foot (.o a ob) → b ≠ p → H' b = H b) (n : ObOk K F H' a ob') : Rep K G F H' σ (ρ.set i (.o a ob')) := by
  have R1 := R.drop hl
  have hi : i < ρ.length := (List.getElem?_eq_some_iff.mp h).1
  have hx : (ρ ++ [Sl.o p (.lst xs)])[i]? = some (.o a ob) := by rw [List.getElem?_append_left hi]; exact h
  have hp := R.ap p (mem_feet (getElem?_app_last ρ _) (List.mem_cons_self ..))
  have keep : ∀ b o, b ∉ foot (.o a ob) → b ≠ p → H b = some o → H' b = some o := fun b o hb h2 e => (k b hb h2).trans e
  have pfar : ∀ j t, ρ[j]? = some t → p ∉ foot t := fun j t hj hp' => by
    have nd := R.nd
    rw [feet_append, feet_one] at nd
    exact (List.nodup_append.mp nd).2.2 p (mem_feet hj hp') p (List.mem_cons_self ..) rfl
  obtain ⟨u, v, e1, e2, _⟩ := set_split ρ i _ (.o a ob') h
  have ef : feet (ρ.set i (.o a ob')) = feet u ++ ((foot (.o a ob) ++ [p]) ++ feet v) := by rw [e2, feet_append, feet_cons, hf]
  have eo : feet (ρ ++ [Sl.o p (.lst xs)]) = (feet u ++ (foot (.o a ob) ++ feet v)) ++ [p] := by rw [feet_append, feet_one, congrArg feet e1, feet_append, feet_cons]; rfl
  have perm : List.Perm (feet (ρ.set i (.o a ob'))) (feet (ρ ++ [Sl.o p (.lst xs)])) := by
    rw [ef, eo]
    simp only [List.append_assoc]
    refine List.Perm.append_left _ (List.Perm.append_left _ ?_)
    exact List.perm_append_comm
  refine ⟨fun b o e => ?_, fun b o e => ?_, R.fg, by rw [List.length_set]; exact R1.len, fun j t e => ?_, perm.nodup_iff.mpr R.nd, fun b hb => R.ap b (perm.mem_iff.mp hb)⟩
  · refine keep b o (fun hb => ?_) (fun q => ?_) (R.fh b o e)
    · rw [(notTup_of_foot R1 h hb).1] at e; cases e
    · rw [q, hp.1] at e; cases e
  · refine keep b o (fun hb => ?_) (fun q => ?_) (R.gh b o e)
    · rw [(notTup_of_foot R1 h hb).2] at e; cases e
    · rw [q, hp.2] at e; cases e
  · by_cases hj : j = i
    · subst hj
      rw [List.getElem?_set_self hi] at e
      cases e
      exact ⟨(R1.sl j _ h).1, n⟩
    · rw [List.getElem?_set_ne (Ne.symm hj)] at e
      exact slOk_mono (Same.refl _) (fun b hb o ho => keep b o (feet_apart R1.nd hj e h hb) (fun q => pfar j t e (q ▸ hb)) ho) (R1.sl j t e)
end
def insAt (ρ : List Sl) (i : Nat) (C : Addr) (nm : List Str) (k : Addr → Addr → List (Str × Fd) → Prop) : Prop := match ρ[i]? with
  | some (.o a (.ins C' dx fs)) => (C' = C ∧ fs.map (·.1) = nm) ∧ k a dx fs
  | _ => False
theorem insAt_of {ρ : List Sl} {i : Nat} {C : Addr} {nm : List Str} {k : Addr → Addr → List (Str × Fd) → Prop} (h : insAt ρ i C nm k) : ∃ a dx fs, ρ[i]? = some (.o a (.ins C dx fs)) ∧ fs.map (·.1) = nm ∧ k a dx fs := by
  unfold insAt at h
  split at h
  · rename_i a C' dx fs e
    obtain ⟨⟨rfl, h1⟩, h2⟩ := h
    exact ⟨a, dx, fs, e, h1, h2⟩
  · exact h.elim
section
variable {X : Cx} {C : Addr} {nm : List Str} {n : Nat} {f x : Str} {npos pos pos' apos cpos : Pos} {e : Expr} {es : List Expr} {Ta : DT} {Tn : DTN} {Tr : DTA}
/-- o.f, as data -/
def dFld (i : Nat) (C : Addr) (nm : List Str) (n : Nat) : DT := fun ρ Q => match ρ[i]? with
  | some (.o _ (.ins C' _ fs)) => (C' = C ∧ fs.map (·.1) = nm) ∧ (match fs[n]? with
    | some (_, .d y) => Q y ρ
    | _ => False)
  | some (.fz _ (.ins C' _ fs)) => (C' = C ∧ fs.map (·.1) = nm) ∧ (match fs[n]? with
    | some (_, .d y) => Q y ρ
    | some (_, .own _ ys) => Q (.list ys) ρ
    | none => False)
  | _ => False
theorem de_fld (i : Nat) (c : Cls X.K C) (na : NoAttr X.K C f) (hf : fAt f nm = some n) (hn : PE X (.Name x npos) (tVar i)) (hb : attributeBase (.Name x npos) f X.env (eval (.Name x npos) X.env) = eval (.Name x npos) X.env := by rfl) : DE X (.Attribute (.Name x npos) f pos) (dFld i C nm n) :=
  pe_imp (pe_fld hn hb) fun σ H R q => by
    obtain ⟨G, F, ρ, Q, r, q, k⟩ := q
    unfold dFld at q
    split at q
    · rename_i a C' dx fs e1
      obtain ⟨⟨rfl, hnm⟩, q⟩ := q
      obtain ⟨l1, vfs, h1, h2⟩ := r.sl i _ e1
      split at q
      · rename_i g y e2
        obtain ⟨v, h3, h4⟩ := flds_getD h2 e2
        refine ⟨_, look_some l1, a, C', dx, vfs, v, rfl, h1, c, na, ?_, k v y ρ F H (Same.refl _) r h4 q⟩
        rw [lookup_at (by rw [flds_names h2, hnm]; exact hf), h3]
        rfl
      · exact q.elim
    · rename_i a C' dx fs e1
      obtain ⟨⟨rfl, hnm⟩, q⟩ := q
      obtain ⟨l1, vfs, h1, h2⟩ := r.sl i _ e1
      split at q
      · rename_i g y e2
        obtain ⟨v, h3, h4⟩ := flds_getD h2 e2
        refine ⟨_, look_some l1, a, C', dx, vfs, v, rfl, r.fh _ _ h1, c, na, ?_, k v y ρ F H (Same.refl _) r h4 q⟩
        rw [lookup_at (by rw [flds_names h2, hnm]; exact hf), h3]
        rfl
      · rename_i g b ys e2
        obtain ⟨h3, us, h4, h5⟩ := flds_getO h2 e2
        refine ⟨_, look_some l1, a, C', dx, vfs, .ref b, rfl, r.fh _ _ h1, c, na, ?_, k (.ref b) (.list ys) ρ F H (Same.refl _) r (.lst (SqL.of h4) h5) q⟩
        rw [lookup_at (by rw [flds_names h2, hnm]; exact hf), h3]
        rfl
      · exact q.elim
    · exact q.elim
/-- o.f = data, a new field -/
def dFldD (i : Nat) (C : Addr) (nm : List Str) (f : Str) (Ta : DT) : DTS := fun D ρ => Ta ρ fun y ρ1 => insAt ρ1 i C nm fun a dx fs => fs.length < 1000 ∧ D.nx (ρ1.set i (.o a (.ins C dx (fs ++ [(f, .d y)]))))
theorem ds_fldD (i : Nat) (c : Cls X.K C) (na : NoAttr X.K C f) (hf : fAt f nm = none) (hn : PE X (.Name x npos) (tVar i)) (he : DE X e Ta) (hs : swapsWith e (some (.Attribute (.Name x npos) f pos')) pos.line X.env = pure false := by rfl) :
    DS X (.Assign [.Attribute (.Name x npos) f pos'] e pos) (dFldD i C nm f Ta) := ps_imp (ps_fld hn he hs) fun E σ H q => by
  obtain ⟨G, F, ρ, D, r, q, l⟩ := q
  refine ⟨G, F, ρ, _, r, q, fun v y ρ1 F1 H1 e1 r1 d1 q1 => ?_⟩
  obtain ⟨a, dx, fs, g1, hnm, hlt, q1⟩ := insAt_of q1
  obtain ⟨l1, vfs, h1, h2⟩ := r1.sl i _ g1
  have hlen : vfs.length = fs.length := by
    have := congrArg List.length (flds_names h2)
    simpa using this
  refine ⟨_, look_some l1, a, C, dx, vfs, rfl, h1, c, na, by omega, ?_⟩
  rw [putF_off (by rw [flds_names h2, hnm]; exact hf)]
  have hf' : foot (.o a (.ins C dx (fs ++ [(f, .d y)]))) = foot (.o a (.ins C dx fs)) := by
    show a :: footF (fs ++ [(f, .d y)]) = a :: footF fs
    rw [footF_app]
    simp [footF]
  have nd := foot_nodup r1 g1
  have ha : a ∉ footF fs := (List.nodup_cons.mp nd).1
  refine l.nx _ _ F1 _ e1 (r1.write g1 hf' (fun b hb => upd_ne fun q => hb (by rw [q]; exact List.mem_cons_self ..)) ⟨_, upd_same, flds_app (flds_mono (Same.refl _) (fun b hb o ho => ?_) h2) ⟨rfl, d1, trivial⟩⟩) q1
  have hba : b ≠ a := fun q => ha (q ▸ hb)
  rw [upd_ne hba]
  exact ho
/-- o.f = a new list, a new field -/
def dFldN (i : Nat) (C : Addr) (nm : List Str) (f : Str) (Tn : DTN) : DTS := fun D ρ => Tn ρ fun ob ρ1 => match ob with
  | .lst xs => insAt ρ1 i C nm fun a dx fs => fs.length < 1000 ∧ ∀ p, D.nx (ρ1.set i (.o a (.ins C dx (fs ++ [(f, .own p xs)]))))
  | _ => False
theorem ds_fldN (i : Nat) (c : Cls X.K C) (na : NoAttr X.K C f) (hf : fAt f nm = none) (hn : PE X (.Name x npos) (tVar i)) (he : DN X e Tn) (hs : swapsWith e (some (.Attribute (.Name x npos) f pos')) pos.line X.env = pure false := by rfl) :
    DS X (.Assign [.Attribute (.Name x npos) f pos'] e pos) (dFldN i C nm f Tn) := ps_imp (ps_fld hn he hs) fun E σ H q => by
  obtain ⟨G, F, ρ, D, r, q, l⟩ := q
  refine ⟨G, F, ρ, _, r, q, fun p ob ρ1 F1 H1 e1 r0 hl q1 => ?_⟩
  split at q1
  · rename_i xs
    obtain ⟨a, dx, fs, g1, hnm, hlt, q1⟩ := insAt_of q1
    have r1 := r0.drop hl
    obtain ⟨l1, vfs, h1, h2⟩ := r1.sl i _ g1
    obtain ⟨_, us, hp, dp⟩ := r0.sl _ _ (getElem?_app_last ρ1 _)
    have hlen : vfs.length = fs.length := by
      have := congrArg List.length (flds_names h2)
      simpa using this
    refine ⟨_, look_some l1, a, C, dx, vfs, rfl, h1, c, na, by omega, ?_⟩
    rw [putF_off (by rw [flds_names h2, hnm]; exact hf)]
    have hf' : foot (.o a (.ins C dx (fs ++ [(f, .own p xs)]))) = foot (.o a (.ins C dx fs)) ++ [p] := by
      show a :: footF (fs ++ [(f, .own p xs)]) = a :: footF fs ++ [p]
      rw [footF_app]
      rfl
    have nd := foot_nodup r1 g1
    have ha : a ∉ footF fs := (List.nodup_cons.mp nd).1
    have hpa : p ≠ a := fun q => by rw [q, h1] at hp; cases hp
    refine l.nx _ _ F1 _ e1 (r0.merge hl g1 hf' (fun b hb _ => upd_ne fun q => hb (by rw [q]; exact List.mem_cons_self ..)) ⟨_, upd_same, flds_app (flds_mono (Same.refl _) (fun b hb o ho => ?_) h2) ⟨rfl, rfl, ⟨us, by rw [upd_ne hpa]; exact hp, dp⟩, trivial⟩⟩) (q1 p)
    have hba : b ≠ a := fun q => ha (q ▸ hb)
    rw [upd_ne hba]
    exact ho
  · exact q1.elim
/-- o.f.append(e), f an own list -/
def fownAt (fs : List (Str × Fd)) (n : Nat) (k : Str → Addr → List PyData → Prop) : Prop := match fs[n]? with
  | some (g, .own b xs) => k g b xs
  | _ => False
theorem fownAt_of {fs : List (Str × Fd)} {n : Nat} {k : Str → Addr → List PyData → Prop} (h : fownAt fs n k) : ∃ g b xs, fs[n]? = some (g, .own b xs) ∧ k g b xs := by
  unfold fownAt at h
  split at h
  · rename_i g b xs e
    exact ⟨g, b, xs, e, h⟩
  · exact h.elim
def dAppF (i : Nat) (C : Addr) (nm : List Str) (n : Nat) (Ta : DT) : DTS := fun D ρ => insAt ρ i C nm fun _ _ fs0 => fownAt fs0 n fun _ b0 _ => Ta ρ fun y ρ1 => insAt ρ1 i C nm fun a dx fs => fownAt fs n fun g b xs => (b = b0 ∧ xs.length < sizeLine) ∧ D.nx (ρ1.set i (.o a (.ins C dx (fs.set n (g, .own b (xs ++ [y]))))))
theorem ds_appF (i : Nat) (c : Cls X.K C) (na : NoAttr X.K C f) (hf : fAt f nm = some n) (hn : PE X (.Name x npos) (tVar i)) (he : DE X e Ta)
    (hb0 : attributeBase (.Name x npos) f X.env (eval (.Name x npos) X.env) = eval (.Name x npos) X.env := by rfl)
    (hbase : attributeBase (.Attribute (.Name x npos) f pos') "append" X.env (eval (.Attribute (.Name x npos) f pos') X.env) = eval (.Attribute (.Name x npos) f pos') X.env := by rfl)
    (hfew : ((backTo cpos (starEach [e] X.env)).all (fun x => !x.1) && (backToKw cpos (keywordEach [] X.env)).all (fun x => x.1.isSome)
      && decide ([e].length + ([] : List Keyword).length + (if ([] : List Keyword).isEmpty then 0 else 1) < 30)) = true := by rfl)
    (hline : (apos.endLine == cpos.line) = true := by rfl) (hs : starEach [e] X.env = (false, eval e X.env) :: starEach [] X.env := by rfl)
    (hw : swapsWith (.Call (.Attribute (.Attribute (.Name x npos) f pos') "append" apos) [e] [] cpos) none pos.line X.env = pure false := by rfl) :
    DS X (.Expr (.Call (.Attribute (.Attribute (.Name x npos) f pos') "append" apos) [e] [] cpos) pos) (dAppF i C nm n Ta) :=
  ps_imp (ps_expr (pe_bm PySem.F.plainAttrs_list PySem.F.slot_list_append PySem.F.type_list_append mt_append (pe_fld hn hb0) (pa_cons he pa_nil hs) hbase hfew hline hs rfl) hw) fun E σ H q => by
    obtain ⟨G, F, ρ, D, r, q, l⟩ := q
    obtain ⟨a0, dx0, fs0, g0, hnm0, q⟩ := insAt_of q
    obtain ⟨m0, b0, xs0, gf0, q⟩ := fownAt_of q
    obtain ⟨l0, vfs0, h01, h02⟩ := r.sl i _ g0
    obtain ⟨h03, us0, h04, h05⟩ := flds_getO h02 gf0
    refine ⟨_, look_some l0, a0, C, dx0, vfs0, .ref b0, rfl, h01, c, na, by rw [lookup_at (by rw [flds_names h02, hnm0]; exact hf), h03]; rfl, isList_own h04, G, F, ρ, _, r, q, fun v y ρ1 F1 H1 e1 r1 d1 q1 => ?_⟩
    obtain ⟨a, dx, fs, g1, hnm, q1⟩ := insAt_of q1
    obtain ⟨m, b, xs, gf1, ⟨rfl, hlt⟩, q2⟩ := fownAt_of q1
    obtain ⟨l1, vfs, h1, h2⟩ := r1.sl i _ g1
    obtain ⟨h3, us, h4, h5⟩ := flds_getO h2 gf1
    refine ⟨b, us, v, rfl, rfl, h4, by rw [dpa_len h5]; exact hlt, ?_⟩
    have nd := foot_nodup r1 g1
    have hba : b ≠ a := fun q => by rw [q, h1] at h4; cases h4
    obtain ⟨k1, k2⟩ := flds_setO (H' := upd H1 b (.lst (us ++ [v]))) (xs := xs) (ys := xs ++ [y]) (fun c hc => upd_ne hc) upd_same (dpa_app h5 (.cons d1 .nil)) (List.nodup_cons.mp nd).2 h2 gf1
    have hbf : b ∈ foot (.o a (.ins C dx fs)) := by
      refine List.mem_cons_of_mem _ ?_
      rw [← k2]
      have : ∀ (s : List (Str × Fd)) (k : Nat) (z : Str) (ws : List PyData), s[k]? = some (z, Fd.own b ws) → b ∈ footF s := by
        intro s
        induction s with
        | nil => intro k z ws e; simp at e
        | cons p s ih =>
          intro k z ws e
          cases k with
          | zero =>
            have e : p = (z, Fd.own b ws) := by simpa using e
            subst e
            exact List.mem_cons_self ..
          | succ k =>
            have := ih k z ws (by simpa using e)
            obtain ⟨q, fd⟩ := p
            cases fd with
            | d y => exact this
            | own a zs => exact List.mem_cons_of_mem _ this
      rw [k2]
      exact this fs n m xs gf1
    refine l.nx _ _ F1 _ e1 (r1.write (ob' := .ins C dx (fs.set n (m, .own b (xs ++ [y])))) g1 ?_ (fun c hc => upd_ne fun q => hc (q ▸ hbf)) ⟨vfs, by rw [upd_ne hba.symm]; exact h1, k1⟩) q2
    show a :: footF _ = a :: footF fs
    rw [k2]
end

/-! ### methods, new instances -/
structure ClM (P : Program) (w : World) (K : PySem.W.Frag) (mg : Str → Option Value) (base : Heap) (k : Nat) (C : Addr) (m : Str) (n : Nat) (T : DTB) : Prop where
  ex : ∃ (f : Addr) (fd : FuncData) (ps : List Str), FnOk P w K mg base CX0 k f fd ps (spB K n T) ∧ Meth K C m f ∧ Binds K fd ps []
  len : ∀ ob xs Q, T ob xs Q → xs.length + 1 = n
structure ClI (P : Program) (w : World) (K : PySem.W.Frag) (mg : Str → Option Value) (base : Heap) (k : Nat) (x : Str) (C : Addr) (n : Nat) (T : DTB) : Prop where
  ex : ∃ (f : Addr) (fd : FuncData) (ps : List Str), FnOk P w K mg base CX0 k f fd ps (spB K n T) ∧ Mk K C f ∧ mg x = some (.ref C) ∧ Binds K fd ps []
  len : ∀ ob xs Q, T ob xs Q → xs.length + 1 = n
def dMeth (i : Nat) (C : Addr) (nm : List Str) (T : DTB) (Tr : DTA) : DT := fun ρ Q => insAt ρ i C nm fun _ _ _ => Tr ρ fun xs ρ1 => match ρ1[i]? with
    | some (.o a ob) => T ob xs fun d ob' => Q d (ρ1.set i (.o a ob'))
    | _ => False
section
variable {X : Cx} {k j n : Nat} {C : Addr} {nm : List Str} {x y m : Str} {p pos npos apos : Pos} {e : Expr} {es : List Expr} {T : DTB} {Tr : DTA} {pl : Sem Bool}
theorem meth_end {K : PySem.W.Frag} {G F F1 H1 : Hp} {σ : L2.St} {ρ1 : List Sl} {i : Nat} {a : Addr} {ob : Ob} {vs : List V} {xs : List PyData} {Q : PyData → List Sl → Prop} {R : VK} (hlen : xs.length + 1 = n)
    (r1 : Rep K G F1 H1 σ ρ1) (g1 : ρ1[i]? = some (.o a ob)) (d1 : DpAll K F1 vs xs) (q1 : T ob xs fun d ob' => Q d (ρ1.set i (.o a ob')))
    (kk : ∀ v d ρ' F' H', Same F1 F' → Rep K G F' H' σ ρ' → Dp K F' v d → Q d ρ' → R v H') : ∀ E, spB K n T (.ref a :: (vs ++ [])) H1 R E := fun E =>
  ⟨by rw [List.append_nil, List.length_cons, dpa_len d1]; exact hlen, lent (foot (.o a ob)) F1 H1, F1, a, ob, xs, _, by rw [List.append_nil]; exact r1.toBor g1 d1, q1,
    fun v d ob' F' H' e' h' dv qd => kk v d _ F' H' e' (r1.fromBor g1 e' h') dv qd⟩
theorem de_meth (i : Nat) (c : Cls X.K C) (cm : ClM X.prog X.w X.K X.mg X.base k C m n T) (hnm : fAt m nm = none) (hr : Room j X.A) (hkj : k ≤ j) (hn : PE X (.Name y npos) (tVar i)) (ha : DA X (e :: es) Tr)
    (hst : starEach (e :: es) X.env = (false, eval e X.env) :: starEach es X.env := by rfl) (hpl : (backTo pos (starEach es X.env)).any (·.1) = false := by rfl)
    (ht : eval (.Call (.Attribute (.Name y npos) m apos) (e :: es) [] pos) X.env = (do
      let ov ← eval (.Name y npos) X.env
      standAt apos.atName
      let (f, first) ← holding [ov] (getMethod ov m pl)
      callWith pos f first (backTo pos (starEach (e :: es) X.env)) (backToKw pos (keywordEach [] X.env))) := by rfl) :
    DE X (.Call (.Attribute (.Name y npos) m apos) (e :: es) [] pos) (dMeth i C nm T Tr) := by
  obtain ⟨f, fd, ps, F, hm, hb⟩ := cm.ex
  refine pe_imp (pe_meth hn c hm F (hr.mono hkj) hb .nil pass0 ha hst hpl ht) fun σ H R q => ?_
  obtain ⟨G, F, ρ, Q, r, q, kk⟩ := q
  obtain ⟨a0, dx0, fs0, g0, hnm0, q⟩ := insAt_of q
  obtain ⟨l0, vfs0, h01, h02⟩ := r.sl i _ g0
  refine ⟨.ref a0, look_some l0, a0, dx0, vfs0, rfl, h01, lookup_off (by rw [flds_names h02, hnm0]; exact hnm), G, F, ρ, _, r, q, fun vs xs ρ1 F1 H1 e1 r1 d1 q1 => ?_⟩
  split at q1
  · rename_i a ob g1
    cases own_same r r1 g0 g1
    exact meth_end (F := F) (cm.len _ _ _ q1) r1 g1 d1 q1 (fun v d ρ' F' H' e' => kk v d ρ' F' H' (e1.trans e')) _
  · exact q1.elim
def daNil : DTA := fun ρ Q => Q [] ρ
theorem de_meth0 (i : Nat) (c : Cls X.K C) (cm : ClM X.prog X.w X.K X.mg X.base k C m n T) (hnm : fAt m nm = none) (hr : Room j X.A) (hkj : k ≤ j) (hn : PE X (.Name y npos) (tVar i))
    (ht : eval (.Call (.Attribute (.Name y npos) m apos) [] [] pos) X.env = (do
      let ov ← eval (.Name y npos) X.env
      standAt apos.atName
      let (f, first) ← holding [ov] (getMethod ov m pl)
      callWith pos f first (backTo pos (starEach [] X.env)) (backToKw pos (keywordEach [] X.env))) := by rfl) :
    DE X (.Call (.Attribute (.Name y npos) m apos) [] [] pos) (dMeth i C nm T daNil) := by
  obtain ⟨f, fd, ps, F, hm, hb⟩ := cm.ex
  refine pe_imp (pe_meth0 hn c hm F (hr.mono hkj) hb .nil pass0 ht) fun σ H R q => ?_
  obtain ⟨G, F, ρ, Q, r, q, kk⟩ := q
  obtain ⟨a0, dx0, fs0, g0, hnm0, q⟩ := insAt_of q
  obtain ⟨l0, vfs0, h01, h02⟩ := r.sl i _ g0
  refine ⟨.ref a0, look_some l0, a0, dx0, vfs0, rfl, h01, lookup_off (by rw [flds_names h02, hnm0]; exact hnm), ?_⟩
  unfold daNil at q
  simp only [g0] at q
  exact meth_end (F := F) (vs := []) (xs := []) (cm.len _ _ _ q) r g0 .nil q kk default
/-- a new instance -/
theorem Rep.appIns {K : PySem.W.Frag} {G F H : Hp} {σ : L2.St} {ρ : List Sl} (R : Rep K G F H σ ρ) {x dx C : Addr} (hx : H x = none) (hd : H dx = none) (hne : dx ≠ x) : Rep K G F (upd (upd H dx (.own x)) x (.ins C dx [])) (σ ++ [some (.ref x)]) (ρ ++ [.o x (.ins C dx [])]) := by
  have R1 : Rep K G F (upd H dx (.own x)) (σ ++ []) (ρ ++ []) := by
    rw [List.append_nil, List.append_nil]
    exact R.newOwn hd
  have hx' : upd H dx (.own x) x = none := by rw [upd_ne (Ne.symm hne)]; exact hx
  have R2 : Rep K G F (upd (upd H dx (.own x)) x (.ins C dx [])) (σ ++ []) (ρ ++ []) := R1.newOwn hx'
  refine R2.insS R.len ⟨rfl, [], upd_same, trivial⟩ (by simp [foot, footF]) (fun a ha hb => ?_) (fun a ha => ?_)
  · have e : a = x := by simpa [foot, footF] using ha
    subst e
    exact R1.notFoot hx' hb
  · have e : a = x := by simpa [foot, footF] using ha
    subst e
    exact ⟨R.fresh hx, R.freshG hx⟩
def dMake (C : Addr) (T : DTB) (Tr : DTA) : DTN := fun ρ Q => Tr ρ fun xs ρ1 => ∀ dx, T (.ins C dx []) xs fun d ob => d = .none ∧ Q ob ρ1
theorem dn_make (ci : ClI X.prog X.w X.K X.mg X.base k x C n T) (hr : Room j X.A) (hkj : k + 1 ≤ j) (hg : Gl X x) (ha : DA X (e :: es) Tr)
    (hdb : (x == ("__debug__" : Str)) = false := by decide) (he : starEach (e :: es) X.env = (false, eval e X.env) :: starEach es X.env := by rfl) (hpl : (backTo pos (starEach es X.env)).any (·.1) = false := by rfl) :
    DN X (.Call (.Name x p) (e :: es) [] pos) (dMake C T Tr) := by
  obtain ⟨f, fd, ps, F, M, hm, hb⟩ := ci.ex
  refine pe_imp (pe_make M F (hr.mono hkj) hg hm hb .nil pass0 ha hdb he hpl) fun σ H R q => ?_
  obtain ⟨G, F, ρ, Q, r, q, kk⟩ := q
  refine ⟨G, F, ρ, _, r, q, fun vs xs ρ1 F1 H1 e1 r1 d1 q1 => fun a dx ha hdx hne => ?_⟩
  have r2 := r1.appIns (C := C) ha hdx hne
  have g2 := getElem?_app_last ρ1 (Sl.o a (.ins C dx []))
  refine ⟨by rw [List.append_nil, List.length_cons, dpa_len d1]; exact ci.len _ _ _ (q1 dx), lent (foot (.o a (.ins C dx []))) F1 _, F1, a, .ins C dx [], xs, _, by rw [List.append_nil]; exact r2.toBor g2 d1, q1 dx, fun v d ob F' H' e' h' dv q' => ?_⟩
  have r3 := r2.fromBor g2 e' h'
  rw [List.set_append_right _ _ (Nat.le_refl _), Nat.sub_self] at r3
  obtain ⟨rfl, q'⟩ := q'
  cases dv
  exact ⟨rfl, kk a ob ρ1 F' H' (e1.trans e') r3 r1.len q'⟩
end
end DL

namespace DL
open PySem PySem.Spec PyProof.Rows L2

/-! ### one value reads as one datum -/
theorem get_inj {h : Heap} {a : Addr} {o o' : Obj} (e : h.get? a = some o) (e' : h.get? a = some o') : o = o' := Option.some.inj (e.symm.trans e')
mutual
theorem reads_inj {h : Heap} : ∀ (d d' : PyData) (v : Value) (as as' : List Addr), Reads h v d as → Reads h v d' as' → d = d'
  | .none, _, _, _, _, r, r' => by cases r; cases r'; rfl
  | .bool _, _, _, _, _, r, r' => by cases r; cases r'; rfl
  | .int _, _, _, _, _, r, r' => by cases r; cases r'; rfl
  | .str _, _, _, _, _, r, r' => by cases r; cases r'; rfl
  | .list xs, _, _, _, _, r, r' => by
    cases r with
    | list h1 h2 h3 h4 =>
      cases r' with
      | list k1 k2 k3 k4 =>
        cases get_inj h1 k1
        rw [h3] at k3
        cases k3
        rw [readsAll_inj _ _ _ _ _ h4 k4]
      | tuple k1 k2 k3 k4 =>
        cases get_inj h1 k1
        rw [h2] at k2; injection k2 with e; exact absurd e (by decide)
      | dict k1 k2 k3 k4 k5 =>
        cases get_inj h1 k1
        rw [h2] at k2; injection k2 with e; exact absurd e (by decide)
  | .tuple xs, _, _, _, _, r, r' => by
    cases r with
    | tuple h1 h2 h3 h4 =>
      cases r' with
      | tuple k1 k2 k3 k4 =>
        cases get_inj h1 k1
        rw [h3] at k3
        cases k3
        rw [readsAll_inj _ _ _ _ _ h4 k4]
      | list k1 k2 k3 k4 =>
        cases get_inj h1 k1
        rw [h2] at k2; injection k2 with e; exact absurd e (by decide)
      | dict k1 k2 k3 k4 k5 =>
        cases get_inj h1 k1
        rw [h2] at k2; injection k2 with e; exact absurd e (by decide)
  | .dict kvs, _, _, _, _, r, r' => by
    cases r with
    | dict h1 h2 h3 h4 h5 =>
      cases r' with
      | dict k1 k2 k3 k4 k5 =>
        cases get_inj h1 k1
        rw [h3] at k3
        cases k3
        rw [readsKv_inj kvs _ _ _ _ _ _ _ h4 k4 h5 k5]
      | list k1 k2 k3 k4 =>
        cases get_inj h1 k1
        rw [h2] at k2; injection k2 with e; exact absurd e (by decide)
      | tuple k1 k2 k3 k4 =>
        cases get_inj h1 k1
        rw [h2] at k2; injection k2 with e; exact absurd e (by decide)
theorem readsAll_inj {h : Heap} : ∀ (ds ds' : List PyData) (vs : List Value) (as as' : List Addr), ReadsAll h vs ds as → ReadsAll h vs ds' as' → ds = ds'
  | [], _, _, _, _, r, r' => by cases r; cases r'; rfl
  | d :: ds, _, _, _, _, r, r' => by
    cases r with
    | cons r1 r2 =>
      cases r' with
      | cons k1 k2 => rw [reads_inj _ _ _ _ _ r1 k1, readsAll_inj _ _ _ _ _ r2 k2]
theorem readsKv_inj {h : Heap} : ∀ (kvs kvs' : List (PyData × PyData)) (vs ws : List Value) (as as' bs bs' : List Addr), ReadsAll h vs (kvs.map (·.1)) as → ReadsAll h vs (kvs'.map (·.1)) as' → ReadsAll h ws (kvs.map (·.2)) bs → ReadsAll h ws (kvs'.map (·.2)) bs' → kvs = kvs'
  | [], kvs', _, _, _, _, _, _, r1, r2, r3, r4 => by
    cases r1
    cases kvs' with
    | nil => rfl
    | cons p q => cases r2
  | (k, v) :: kvs, kvs', _, _, _, _, _, _, r1, r2, r3, r4 => by
    cases r1 with
    | cons a1 a2 =>
      cases kvs' with
      | nil => cases r2
      | cons p q =>
        obtain ⟨k', v'⟩ := p
        cases r2 with
        | cons b1 b2 =>
          cases r3 with
          | cons c1 c2 =>
            cases r4 with
            | cons d1 d2 =>
              rw [reads_inj k k' _ _ _ a1 b1, reads_inj v v' _ _ _ c1 d1, readsKv_inj kvs q _ _ _ _ _ _ a2 b2 c2 d2]
end

/-! ### min, max of a list or a tuple of ordered data -/
section
variable {α : Type} [DecidableEq α] [PySem.W.DatumOrd α]
open PySem.W (Datum DatumOrd minOf maxOf HoldAll Holds)
def SqD (K : PySem.W.Frag) (H : Hp) (a : Addr) (ds : List PyData) : Prop := Dp K H (.ref a) (.list ds) ∨ Dp K H (.ref a) (.tuple ds)
def rBest (α : Type) [DecidableEq α] [DatumOrd α] (f : α → List α → α) (K : PySem.W.Frag) : List V → Hp → VK → Prop := fun vs H Q => ∃ (F : Hp) (a : Addr) (x : α) (xs : List α), vs = [V.ref a] ∧ Same F H ∧ SqD K F a ((x :: xs).map Datum.toD) ∧ ∀ v, Dp K F v (Datum.toD (f x xs)) → Q v H
variable {X : Cx}
theorem best_end {pins : List (Addr × Obj)} {σ : L2.St} {F H : Hp} {s : Shared} {ws : List V} {its : List Value} {ds : List PyData} (I : Inv X pins σ H s) (eF : Same F H) (da : DpAll X.K F ws ds) (rv : Vals ws its) {i : Nat} {v : Value} {h' : Heap} {d : PyData} {bs : List Addr} (hi : its[i]? = some v)
    (hk : ∀ b o, s.heap.get? b = some o → h'.get? b = some o) (r : Reads h' v d bs) : ∃ w, RelV w v ∧ Dp X.K F w d := by
  have hlt := (List.getElem?_eq_some_iff.mp hi).1
  have hl := rv.length
  have hws : ws[i]? = some (ws[i]'(by omega)) := List.getElem?_eq_getElem (by omega)
  obtain ⟨u, h1, h2⟩ := rv.get hws
  rw [hi] at h1
  cases h1
  obtain ⟨d', h3, h4⟩ := dpa_get' da hws
  obtain ⟨cs, r'⟩ := Dp.reads I d' _ v (dp_mono eF _ _ h4) h2
  have r2 := PySem.W.reads_keeps hk r'
  rw [reads_inj _ _ _ _ _ r r2]
  exact ⟨_, h2, h4⟩
theorem cr_minD (hc : X.calm = true) (hu : X.A.units + 1 + Datum.depth α < cLine) : CallR X (.builtin "min") (rBest α minOf X.K) := by
  intro pins s σ H vs us Q I r h
  obtain ⟨F, a, x, xs, rfl, eF, hs, q⟩ := h
  obtain ⟨u, rfl, ru⟩ : ∃ u, us = [u] ∧ RelV (.ref a) u := by
    cases r with
    | cons r1 r2 => cases r2; exact ⟨_, rfl, r1⟩
  cases ru
  rcases hs with hs | hs
  · obtain ⟨b, ws, e, hq, da⟩ := dp_lst hs
    cases e
    obtain ⟨its, rv, p, _⟩ := I.list (eF.seq hq)
    obtain ⟨as, ra⟩ := Dp.readsAll I _ _ _ (dpa_mono eF _ _ da) rv
    refine PySem.W.min_list_datum (x := x) (xs := xs) (I.ok.hd hc) p.isList ⟨as, by simpa using ra⟩ hu fun i v h' tk hi ⟨bs, hr⟩ hk => ?_
    obtain ⟨w, r1, d1⟩ := best_end I eF da rv (by simpa using hi) hk hr
    exact ⟨w, H, I.kept hk, r1, q w d1⟩
  · obtain ⟨b, ws, e, hq, da⟩ := dp_tup hs
    cases e
    obtain ⟨its, rv, p, _⟩ := I.tuple (seqT eF hq)
    obtain ⟨as, ra⟩ := Dp.readsAll I _ _ _ (dpa_mono eF _ _ da) rv
    refine PySem.W.min_tuple_datum (x := x) (xs := xs) (I.ok.hd hc) p ⟨as, by simpa using ra⟩ hu fun i v h' tk hi ⟨bs, hr⟩ hk => ?_
    obtain ⟨w, r1, d1⟩ := best_end I eF da rv (by simpa using hi) hk hr
    exact ⟨w, H, I.kept hk, r1, q w d1⟩
theorem cr_maxD (hc : X.calm = true) (hu : X.A.units + 1 + Datum.depth α < cLine) : CallR X (.builtin "max") (rBest α maxOf X.K) := by
  intro pins s σ H vs us Q I r h
  obtain ⟨F, a, x, xs, rfl, eF, hs, q⟩ := h
  obtain ⟨u, rfl, ru⟩ : ∃ u, us = [u] ∧ RelV (.ref a) u := by
    cases r with
    | cons r1 r2 => cases r2; exact ⟨_, rfl, r1⟩
  cases ru
  rcases hs with hs | hs
  · obtain ⟨b, ws, e, hq, da⟩ := dp_lst hs
    cases e
    obtain ⟨its, rv, p, _⟩ := I.list (eF.seq hq)
    obtain ⟨as, ra⟩ := Dp.readsAll I _ _ _ (dpa_mono eF _ _ da) rv
    refine PySem.W.max_list_datum (x := x) (xs := xs) (I.ok.hd hc) p.isList ⟨as, by simpa using ra⟩ hu fun i v h' tk hi ⟨bs, hr⟩ hk => ?_
    obtain ⟨w, r1, d1⟩ := best_end I eF da rv (by simpa using hi) hk hr
    exact ⟨w, H, I.kept hk, r1, q w d1⟩
  · obtain ⟨b, ws, e, hq, da⟩ := dp_tup hs
    cases e
    obtain ⟨its, rv, p, _⟩ := I.tuple (seqT eF hq)
    obtain ⟨as, ra⟩ := Dp.readsAll I _ _ _ (dpa_mono eF _ _ da) rv
    refine PySem.W.max_tuple_datum (x := x) (xs := xs) (I.ok.hd hc) p ⟨as, by simpa using ra⟩ hu fun i v h' tk hi ⟨bs, hr⟩ hk => ?_
    obtain ⟨w, r1, d1⟩ := best_end I eF da rv (by simpa using hi) hk hr
    exact ⟨w, H, I.kept hk, r1, q w d1⟩
/-- at data: the row is that of a typed list -/
def oBest (α : Type) [DecidableEq α] [DatumOrd α] (f : α → List α → α) : List PyData → (PyData → Prop) → Prop := fun xs k => match xs with
  | [.list ys] => ∃ (x : α) (r : List α), ys = (x :: r).map Datum.toD ∧ k (Datum.toD (f x r))
  | [.tuple ys] => ∃ (x : α) (r : List α), ys = (x :: r).map Datum.toD ∧ k (Datum.toD (f x r))
  | _ => False
theorem od_best {K : PySem.W.Frag} {f : α → List α → α} : CallD K (rBest α f K) (oBest α f) := by
  intro G F H σ ρ vs xs Q R r d q k
  unfold oBest at q
  split at q
  · obtain ⟨x, r1, rfl, q⟩ := q
    cases d with
    | cons d1 d2 =>
      cases d2
      obtain ⟨a, ws, rfl, h1, h2⟩ := dp_lst d1
      exact ⟨F, a, x, r1, rfl, r.fh, .inl d1, fun v hv => k v _ F H (Same.refl _) r hv q⟩
  · obtain ⟨x, r1, rfl, q⟩ := q
    cases d with
    | cons d1 d2 =>
      cases d2
      obtain ⟨a, ws, rfl, h1, h2⟩ := dp_tup d1
      exact ⟨F, a, x, r1, rfl, r.fh, .inr d1, fun v hv => k v _ F H (Same.refl _) r hv q⟩
  · exact q.elim
/-- whole numbers -/
def oBestI (f : Int → List Int → Int) : List PyData → (PyData → Prop) → Prop := fun xs k => match xs with
  | [.list ys] => match intsD ys with
    | some (x :: r) => k (.int (f x r))
    | _ => False
  | [.tuple ys] => match intsD ys with
    | some (x :: r) => k (.int (f x r))
    | _ => False
  | _ => False
theorem intsD_eq : ∀ {ys : List PyData} {is : List Int}, intsD ys = some is → ys = is.map .int
  | [], _, h => by cases h; rfl
  | .int i :: r, _, h => by
    unfold intsD at h
    split at h
    · rename_i js hj
      cases h
      rw [intsD_eq hj]
      rfl
    · cases h
  | .none :: _, _, h => by cases h
  | .bool _ :: _, _, h => by cases h
  | .str _ :: _, _, h => by cases h
  | .list _ :: _, _, h => by cases h
  | .tuple _ :: _, _, h => by cases h
  | .dict _ :: _, _, h => by cases h
theorem od_bestI {K : PySem.W.Frag} {f : Int → List Int → Int} : CallD K (rBest Int f K) (oBestI f) := by
  intro G F H σ ρ vs xs Q R r d q k
  refine od_best (f := f) G F H σ ρ vs xs Q R r d ?_ k
  unfold oBestI at q
  unfold oBest
  split at q
  · split at q
    · rename_i x r1 e
      exact ⟨x, r1, intsD_eq e, q⟩
    · exact q.elim
  · split at q
    · rename_i x r1 e
      exact ⟨x, r1, intsD_eq e, q⟩
    · exact q.elim
  · exact q.elim
end
end DL

namespace DL
open PySem PySem.Spec PyProof.Rows L2

/-! ### zips of lists and tuples in any mix -/
def SqB (K : PySem.W.Frag) : Bool → Hp → Addr → List V → Prop
  | true, H, a, xs => SqL K H a xs
  | false, H, a, xs => SqT K H a xs
def HeapSq : Bool → Heap → Addr → Array Value → Prop
  | true, h, a, its => h.IsList a its
  | false, h, a, its => h.IsTuple a its
def HeapIt : Bool → Heap → Addr → Addr → Nat → Prop
  | true, h, it, a, i => h.IsListIter it a i
  | false, h, it, a, i => h.IsTupleIter it a i
theorem draws_sq {prog : Program} {w : World} {A : Around} (hh : A.handled = none) (k : Bool) (it a : Addr) (hne : a ≠ it) (its : Array Value) : Draws prog w A it [it, a] its.size (fun i v => its[i]? = some v) (fun i h => HeapIt k h it a i ∧ HeapSq k h a its) := by
  cases k with
  | true => exact Draws.list hh it a hne its
  | false => exact Draws.tuple hh it a hne its
def beginObj : Bool → Addr → Obj
  | true, a => { cls := .type "list_iterator", data := .fields #[.ref a, .int 0 0] }
  | false, a => { cls := .type "tuple_iterator", data := .fields #[.ref a, .int 0 0] }
theorem begins_sq (k : Bool) (a : Addr) (its : Array Value) : Begins (.ref a) (beginObj k a) fun h => HeapSq k h a its := by
  cases k with
  | true => exact begins_list a its
  | false => exact begins_tuple a its
theorem heapIt_of {k : Bool} {h : Heap} {it a : Addr} (e : h.get? it = some (beginObj k a)) : HeapIt k h it a 0 := by
  cases k with
  | true => exact ⟨_, e, rfl, rfl⟩
  | false => exact ⟨_, e, rfl, rfl⟩
theorem heapIt_obj {k : Bool} {h : Heap} {it a : Addr} {i : Nat} (x : HeapIt k h it a i) : ∃ o, h.get? it = some o ∧ ∀ v, o.data ≠ .cell v := by
  cases k with
  | true =>
    obtain ⟨o, ho, _, hd⟩ := x
    exact ⟨o, ho, fun v q => by rw [hd] at q; cases q⟩
  | false =>
    obtain ⟨o, ho, _, hd⟩ := x
    exact ⟨o, ho, fun v q => by rw [hd] at q; cases q⟩
theorem heapIt_at {k : Bool} {h h' : Heap} {it a : Addr} {i : Nat} (x : HeapIt k h it a i) (hk : ∀ o, h.get? it = some o → h'.get? it = some o) : HeapIt k h' it a i := by
  cases k with
  | true => exact x.at fun o q => hk o q
  | false => exact x.at fun o q => hk o q
section
variable {X : Cx} {pins : List (Addr × Obj)} {σ : L2.St} {H : Hp} {s : Shared}
theorem sqB_get (I : Inv X pins σ H s) {k : Bool} {a : Addr} {xs : List V} (h : SqB X.K k H a xs) : ∃ its : List Value, Vals xs its ∧ HeapSq k s.heap a its.toArray ∧ a < s.heap.objs.size := by
  cases k with
  | true =>
    obtain ⟨its, rv, p, _⟩ := I.list h
    exact ⟨its, rv, p.isList, p.lt⟩
  | false =>
    obtain ⟨its, rv, p, _⟩ := I.tuple h
    have p' : s.heap.IsTuple a its.toArray := p
    obtain ⟨o, ho, _⟩ := id p'
    exact ⟨its, rv, p', Heap.lt_size ho⟩
theorem sqB_inj (I : Inv X pins σ H s) {k : Bool} {a : Addr} {xs ys : List V} (h : SqB X.K k H a xs) (h' : SqB X.K k H a ys) : xs = ys := by
  cases k with
  | true => exact I.list_inj h h'
  | false => exact I.tuple_inj h h'
end
def ItzB (K : PySem.W.Frag) (k1 k2 : Bool) (a b : Addr) : It :=
  ⟨fun i H => ∃ (xs ys : List V) (x y : V), SqB K k1 H a xs ∧ SqB K k2 H b ys ∧ xs[i]? = some x ∧ ys[i]? = some y,
    fun i H v H' => ∃ T x y, v = .ref T ∧ H T = none ∧ H' = upd H T (.tup [x, y]) ∧ (∀ xs, SqB K k1 H a xs → xs[i]? = some x) ∧ ∀ ys, SqB K k2 H b ys → ys[i]? = some y,
    fun i H => ∃ xs ys : List V, SqB K k1 H a xs ∧ SqB K k2 H b ys ∧ min xs.length ys.length = i⟩
theorem lt_of_get {vs : List Value} {i : Nat} {v : Value} (h : vs[i]? = some v) : i < vs.toArray.size := by
  rw [List.size_toArray]
  exact (List.getElem?_eq_some_iff.mp h).1
theorem turn_zipB {P : Program} {w : World} {K : PySem.W.Frag} {elts : List Expr} {kk : Nat} {tpos : Pos} {k1 k2 : Bool} {a b z TI TO i1 i2 : Addr} (S : ZipSep2 z TI TO i1 i2 [i1, a] [i2, b]) (ne1 : a ≠ i1) (ne2 : b ≠ i2) :
    Turn P w K (.Tuple elts kk tpos) (ItzB K k1 k2 a b) [z, TI, TO, i1, i2] z (fun i h => IsZip h z TI TO .none ∧ IsTupOf2 h TI (.ref i1) (.ref i2) ∧ (∃ x y, IsTupOf2 h TO x y) ∧ HeapIt k1 h i1 a i ∧ HeapIt k2 h i2 b i) where
  mem := by simp
  obj := fun i h st c hc => by
    obtain ⟨hz, hTI, ⟨x, y, hTO⟩, h1, h2⟩ := st
    have e' : c = z ∨ c = TI ∨ c = TO ∨ c = i1 ∨ c = i2 := by simpa using hc
    rcases e' with q | q | q | q | q
    · rw [q]; exact ⟨_, hz, fun v q => nomatch q⟩
    · rw [q]; exact ⟨_, hTI, fun v q => nomatch q⟩
    · rw [q]; exact ⟨_, hTO, fun v q => nomatch q⟩
    · rw [q]; exact heapIt_obj h1
    · rw [q]; exact heapIt_obj h2
  keep := fun i h h' st k => by
    obtain ⟨hz, hTI, ⟨x, y, hTO⟩, h1, h2⟩ := st
    exact ⟨k z (by simp) _ hz, k TI (by simp) _ hTI, ⟨x, y, k TO (by simp) _ hTO⟩, heapIt_at h1 fun o q => k i1 (by simp) o q, heapIt_at h2 fun o q => k i2 (by simp) o q⟩
  item := by
    intro X hP hw hK hc i pins s σ H E I hf st hg
    subst hP hw hK
    obtain ⟨hz, hTI, hTO, h1, h2⟩ := st
    obtain ⟨xs, ys, x, y, hqx, hqy, hx, hy⟩ := hg
    obtain ⟨its, rv, p, _⟩ := sqB_get I hqx
    obtain ⟨its2, rv2, p2, _⟩ := sqB_get I hqy
    obtain ⟨u, hu, ru⟩ := rv.get hx
    obtain ⟨u2, hu2, ru2⟩ := rv2.get hy
    have hA : X.A.in1.handled = none := I.ok.hd hc
    have W := GoesN.zip2 (prog := X.prog) (w := X.w) (A := X.A) (elts := elts) (x1 := kk) (pos := tpos) S (draws_sq (prog := X.prog) (w := X.w) hA k1 i1 a ne1 its.toArray) (draws_sq (prog := X.prog) (w := X.w) hA k2 i2 b ne2 its2.toArray)
    refine W.goes i s (fun v s₂ => ∃ x H', Inv X pins σ H' s₂ ∧ RelV x v ∧ (ItzB X.K k1 k2 a b).yld i H x H' ∧ _ ∧ ∀ c ∈ [z, TI, TO, i1, i2], H' c = none) E (Nat.lt_min.mpr ⟨lt_of_get hu, lt_of_get hu2⟩) ⟨hz, hTI, hTO, ⟨h1, p⟩, ⟨h2, p2⟩⟩ fun v h' tk hY hst hk htk => ?_
    obtain ⟨T, x', y', rfl, hT, hx', hy', hTup⟩ := hY
    have ex : x' = u := by
      have hu' : its.toArray[i]? = some u := by simpa using hu
      exact (Option.some.inj (hu'.symm.trans hx')).symm
    have ey : y' = u2 := by
      have hu' : its2.toArray[i]? = some u2 := by simpa using hu2
      exact (Option.some.inj (hu'.symm.trans hy')).symm
    subst ex ey
    have new : ObjOk X.prog X.w (upd H T (.tup [x, y])) h' T (.tup [x, y]) := ⟨by show 2 ≤ sizeLine; decide, [x', y'], .cons ru (.cons ru2 .nil), hTup⟩
    have hsub : ∀ c, c ∈ [z, TO, i1, i2] → c ∈ [z, TI, TO, i1, i2] := fun c hc => by
      have e' : c = z ∨ c = TO ∨ c = i1 ∨ c = i2 := by simpa using hc
      rcases e' with q | q | q | q <;> (rw [q]; simp)
    have I1 : Inv X pins σ (upd H T (.tup [x, y])) { s with heap := h', toks := tk } := I.turnedNew (ch := [z, TI, TO, i1, i2]) (fun c o hb => hk c o fun q => hb (hsub c q)) hf hT new
    refine ⟨.ref T, _, I1, rfl, ⟨T, x, y, rfl, I.hok.fresh hT, rfl, fun l hl => by rw [sqB_inj I hl hqx]; exact hx, fun l hl => by rw [sqB_inj I hl hqy]; exact hy⟩, ⟨hst.1, hst.2.1, hst.2.2.1, hst.2.2.2.1.1, hst.2.2.2.2.1⟩, fun c hcm => ?_⟩
    have hlt : c < s.heap.objs.size := by
      have e' : c = z ∨ c = TI ∨ c = TO ∨ c = i1 ∨ c = i2 := by simpa using hcm
      obtain ⟨x0, y0, hTO⟩ := hTO
      rcases e' with q | q | q | q | q
      · rw [q]; exact Heap.lt_size hz
      · rw [q]; exact Heap.lt_size hTI
      · rw [q]; exact Heap.lt_size hTO
      · rw [q]; obtain ⟨_, e1, _⟩ := heapIt_obj h1; exact Heap.lt_size e1
      · rw [q]; obtain ⟨_, e2, _⟩ := heapIt_obj h2; exact Heap.lt_size e2
    rw [upd_ne (Nat.ne_of_lt (Nat.lt_of_lt_of_le hlt hT))]
    exact (hf c hcm).1
  done := by
    intro X hP hw hK hc i pins s σ H E I hf st hg
    subst hP hw hK
    obtain ⟨hz, hTI, hTO, h1, h2⟩ := st
    obtain ⟨xs, ys, hqx, hqy, hend⟩ := hg
    obtain ⟨its, rv, p, _⟩ := sqB_get I hqx
    obtain ⟨its2, rv2, p2, _⟩ := sqB_get I hqy
    have hA : X.A.in1.handled = none := I.ok.hd hc
    have hl : i = min its.toArray.size its2.toArray.size := by rw [List.size_toArray, List.size_toArray, ← rv.length, ← rv2.length, hend]
    subst hl
    have W := GoesN.zip2 (prog := X.prog) (w := X.w) (A := X.A) (elts := elts) (x1 := kk) (pos := tpos) S (draws_sq (prog := X.prog) (w := X.w) hA k1 i1 a ne1 its.toArray) (draws_sq (prog := X.prog) (w := X.w) hA k2 i2 b ne2 its2.toArray)
    have hsub : ∀ c, c ∈ [z, TO, i1, i2] → c ∈ [z, TI, TO, i1, i2] := fun c hc => by
      have e' : c = z ∨ c = TO ∨ c = i1 ∨ c = i2 := by simpa using hc
      rcases e' with q | q | q | q <;> (rw [q]; simp)
    exact W.stops s (fun s1 => Inv X pins σ H s1) E ⟨hz, hTI, hTO, ⟨h1, p⟩, ⟨h2, p2⟩⟩ fun h' tk hk htk => I.turnedL (t' := tk) (ch := [z, TI, TO, i1, i2]) (fun c o hb => hk c o fun q => hb (hsub c q)) hf
  self := fun A i s Q E st h => wpAny_pyIter_zip st.1 h
def iZipB (K : PySem.W.Frag) (ta : TA) : TI := fun σ H R => ta σ H fun vs H1 => ∃ k1 k2 a b xs ys, vs = [.ref a, .ref b] ∧ SqB K k1 H1 a xs ∧ SqB K k2 H1 b ys ∧ R (ItzB K k1 k2 a b) H1
theorem pi_zipB {X : Cx} {e e2 : Expr} {ta : TA} {p pos tpos : Pos} {elts : List Expr} {kk : Nat} (hg : Gl X "zip") (hm : X.mg "zip" = none) (ha : PA X [e, e2] ta)
    (hs : starEach [e, e2] X.env = (false, eval e X.env) :: starEach [e2] X.env := by rfl) (hpl : (backTo pos (starEach [e2] X.env)).any (·.1) = false := by rfl) :
    PI X (.Tuple elts kk tpos) (.Call (.Name "zip" p) [e, e2] [] pos) (iZipB X.K ta) := by
  refine ⟨fun pins s σ H R I h => ?_⟩
  refine Call_ (ld_blt I hg hm PyProof.Rows.boot_zip (PyProof.Rows.callWith_type1 (thn (ha.run pos pins s σ H _ I h) fun us s1 ⟨vs, H1, I1, r1, q1⟩ => ?_) hs hpl))
  obtain ⟨k1, k2, a, b, xs, ys, rfl, hqx, hqy, q⟩ := q1
  obtain ⟨u1, u2, rfl, ra, rb⟩ : ∃ u1 u2, us = [u1, u2] ∧ RelV (.ref a) u1 ∧ RelV (.ref b) u2 := by
    cases r1 with
    | cons r rr =>
      cases rr with
      | cons r' rr => cases rr; exact ⟨_, _, rfl, r, r'⟩
  cases ra
  cases rb
  obtain ⟨its, rv, p1, l1⟩ := sqB_get I1 hqx
  obtain ⟨its2, rv2, p2, l2⟩ := sqB_get I1 hqy
  refine zip_begins2 (begins_sq k1 a its.toArray) (begins_sq k2 b its2.toArray) p1 p2 fun h' hz hTI hTO h1 h2 hsz hk => wpAny_pyIter_zip hz ?_
  have I2 : Inv X pins σ H1 { s1 with heap := h' } := I1.kept (t' := s1.toks) hk
  have hS : ZipSep2 (s1.heap.objs.size + 4) (s1.heap.objs.size + 2) (s1.heap.objs.size + 3) s1.heap.objs.size (s1.heap.objs.size + 1) [s1.heap.objs.size, a] [s1.heap.objs.size + 1, b] :=
    zip_sep2 (fp1 := [a]) (fp2 := [b]) (fun c hc => by rw [List.mem_singleton.mp hc]; exact l1) (fun c hc => by rw [List.mem_singleton.mp hc]; exact l2)
  refine ⟨s1.heap.objs.size + 4, [s1.heap.objs.size + 4, s1.heap.objs.size + 2, s1.heap.objs.size + 3, s1.heap.objs.size, s1.heap.objs.size + 1], _, _, H1, rfl, I2,
    turn_zipB hS (Nat.ne_of_lt l1) (Nat.ne_of_lt (Nat.lt_succ_of_lt l2)), ⟨hz, hTI, ⟨_, _, hTO⟩, heapIt_of h1, heapIt_of h2⟩, fun c hcm => ?_, q⟩
  have e' : c = s1.heap.objs.size + 4 ∨ c = s1.heap.objs.size + 2 ∨ c = s1.heap.objs.size + 3 ∨ c = s1.heap.objs.size ∨ c = s1.heap.objs.size + 1 := by simpa using hcm
  have hle : s1.heap.objs.size ≤ c := by
    rcases e' with z | z | z | z | z
    · rw [z]; exact Nat.le_add_right _ _
    · rw [z]; exact Nat.le_add_right _ _
    · rw [z]; exact Nat.le_add_right _ _
    · rw [z]; exact Nat.le_refl _
    · rw [z]; exact Nat.le_add_right _ _
  exact I1.fpOk hle (I1.hok.fresh hle)

def ItzC (K : PySem.W.Frag) (k1 k2 k3 : Bool) (a b d : Addr) : It :=
  ⟨fun i H => ∃ (xs ys zs : List V) (x y t : V), SqB K k1 H a xs ∧ SqB K k2 H b ys ∧ SqB K k3 H d zs ∧ xs[i]? = some x ∧ ys[i]? = some y ∧ zs[i]? = some t,
    fun i H v H' => ∃ T x y t, v = .ref T ∧ H T = none ∧ H' = upd H T (.tup [x, y, t]) ∧ (∀ xs, SqB K k1 H a xs → xs[i]? = some x) ∧ (∀ ys, SqB K k2 H b ys → ys[i]? = some y) ∧ ∀ zs, SqB K k3 H d zs → zs[i]? = some t,
    fun i H => ∃ xs ys zs : List V, SqB K k1 H a xs ∧ SqB K k2 H b ys ∧ SqB K k3 H d zs ∧ min (min xs.length ys.length) zs.length = i⟩
theorem turn_zipC {P : Program} {w : World} {K : PySem.W.Frag} {elts : List Expr} {kk : Nat} {tpos : Pos} {k1 k2 k3 : Bool} {a b d z TI TO i1 i2 i3 : Addr} (S : ZipSep3 z TI TO i1 i2 i3 [i1, a] [i2, b] [i3, d]) (ne1 : a ≠ i1) (ne2 : b ≠ i2) (ne3 : d ≠ i3) :
    Turn P w K (.Tuple elts kk tpos) (ItzC K k1 k2 k3 a b d) [z, TI, TO, i1, i2, i3] z (fun i h => IsZip h z TI TO .none ∧ IsTupOf3 h TI (.ref i1) (.ref i2) (.ref i3) ∧ (∃ x y t, IsTupOf3 h TO x y t) ∧ HeapIt k1 h i1 a i ∧ HeapIt k2 h i2 b i ∧ HeapIt k3 h i3 d i) where
  mem := by simp
  obj := fun i h st c hc => by
    obtain ⟨hz, hTI, ⟨x, y, t, hTO⟩, h1, h2, h3⟩ := st
    have e' : c = z ∨ c = TI ∨ c = TO ∨ c = i1 ∨ c = i2 ∨ c = i3 := by simpa using hc
    rcases e' with q | q | q | q | q | q
    · rw [q]; exact ⟨_, hz, fun v q => nomatch q⟩
    · rw [q]; exact ⟨_, hTI, fun v q => nomatch q⟩
    · rw [q]; exact ⟨_, hTO, fun v q => nomatch q⟩
    · rw [q]; exact heapIt_obj h1
    · rw [q]; exact heapIt_obj h2
    · rw [q]; exact heapIt_obj h3
  keep := fun i h h' st k => by
    obtain ⟨hz, hTI, ⟨x, y, t, hTO⟩, h1, h2, h3⟩ := st
    exact ⟨k z (by simp) _ hz, k TI (by simp) _ hTI, ⟨x, y, t, k TO (by simp) _ hTO⟩, heapIt_at h1 fun o q => k i1 (by simp) o q, heapIt_at h2 fun o q => k i2 (by simp) o q, heapIt_at h3 fun o q => k i3 (by simp) o q⟩
  item := by
    intro X hP hw hK hc i pins s σ H E I hf st hg
    subst hP hw hK
    obtain ⟨hz, hTI, hTO, h1, h2, h3⟩ := st
    obtain ⟨xs, ys, zs, x, y, t, hqx, hqy, hqz, hx, hy, ht⟩ := hg
    obtain ⟨its, rv, p, _⟩ := sqB_get I hqx
    obtain ⟨its2, rv2, p2, _⟩ := sqB_get I hqy
    obtain ⟨its3, rv3, p3, _⟩ := sqB_get I hqz
    obtain ⟨u, hu, ru⟩ := rv.get hx
    obtain ⟨u2, hu2, ru2⟩ := rv2.get hy
    obtain ⟨u3, hu3, ru3⟩ := rv3.get ht
    have hA : X.A.in1.handled = none := I.ok.hd hc
    have W := GoesN.zip3 (prog := X.prog) (w := X.w) (A := X.A) (elts := elts) (x1 := kk) (pos := tpos) S (draws_sq (prog := X.prog) (w := X.w) hA k1 i1 a ne1 its.toArray) (draws_sq (prog := X.prog) (w := X.w) hA k2 i2 b ne2 its2.toArray) (draws_sq (prog := X.prog) (w := X.w) hA k3 i3 d ne3 its3.toArray)
    refine W.goes i s (fun v s₂ => ∃ x H', Inv X pins σ H' s₂ ∧ RelV x v ∧ (ItzC X.K k1 k2 k3 a b d).yld i H x H' ∧ _ ∧ ∀ c ∈ [z, TI, TO, i1, i2, i3], H' c = none) E (Nat.lt_min.mpr ⟨Nat.lt_min.mpr ⟨lt_of_get hu, lt_of_get hu2⟩, lt_of_get hu3⟩) ⟨hz, hTI, hTO, ⟨h1, p⟩, ⟨h2, p2⟩, ⟨h3, p3⟩⟩ fun v h' tk hY hst hk htk => ?_
    obtain ⟨T, x', y', t', rfl, hT, hx', hy', ht', hTup⟩ := hY
    have ex : x' = u := by
      have hu' : its.toArray[i]? = some u := by simpa using hu
      exact (Option.some.inj (hu'.symm.trans hx')).symm
    have ey : y' = u2 := by
      have hu' : its2.toArray[i]? = some u2 := by simpa using hu2
      exact (Option.some.inj (hu'.symm.trans hy')).symm
    have et : t' = u3 := by
      have hu' : its3.toArray[i]? = some u3 := by simpa using hu3
      exact (Option.some.inj (hu'.symm.trans ht')).symm
    subst ex ey et
    have new : ObjOk X.prog X.w (upd H T (.tup [x, y, t])) h' T (.tup [x, y, t]) := ⟨by show 3 ≤ sizeLine; decide, [x', y', t'], .cons ru (.cons ru2 (.cons ru3 .nil)), hTup⟩
    have hsub : ∀ c, c ∈ [z, TO, i1, i2, i3] → c ∈ [z, TI, TO, i1, i2, i3] := fun c hc => by
      have e' : c = z ∨ c = TO ∨ c = i1 ∨ c = i2 ∨ c = i3 := by simpa using hc
      rcases e' with q | q | q | q | q <;> (rw [q]; simp)
    have I1 : Inv X pins σ (upd H T (.tup [x, y, t])) { s with heap := h', toks := tk } := I.turnedNew (ch := [z, TI, TO, i1, i2, i3]) (fun c o hb => hk c o fun q => hb (hsub c q)) hf hT new
    refine ⟨.ref T, _, I1, rfl, ⟨T, x, y, t, rfl, I.hok.fresh hT, rfl, fun l hl => by rw [sqB_inj I hl hqx]; exact hx, fun l hl => by rw [sqB_inj I hl hqy]; exact hy, fun l hl => by rw [sqB_inj I hl hqz]; exact ht⟩, ⟨hst.1, hst.2.1, hst.2.2.1, hst.2.2.2.1.1, hst.2.2.2.2.1.1, hst.2.2.2.2.2.1⟩, fun c hcm => ?_⟩
    have hlt : c < s.heap.objs.size := by
      have e' : c = z ∨ c = TI ∨ c = TO ∨ c = i1 ∨ c = i2 ∨ c = i3 := by simpa using hcm
      obtain ⟨x0, y0, t0, hTO⟩ := hTO
      rcases e' with q | q | q | q | q | q
      · rw [q]; exact Heap.lt_size hz
      · rw [q]; exact Heap.lt_size hTI
      · rw [q]; exact Heap.lt_size hTO
      · rw [q]; obtain ⟨_, e1, _⟩ := heapIt_obj h1; exact Heap.lt_size e1
      · rw [q]; obtain ⟨_, e2, _⟩ := heapIt_obj h2; exact Heap.lt_size e2
      · rw [q]; obtain ⟨_, e3, _⟩ := heapIt_obj h3; exact Heap.lt_size e3
    rw [upd_ne (Nat.ne_of_lt (Nat.lt_of_lt_of_le hlt hT))]
    exact (hf c hcm).1
  done := by
    intro X hP hw hK hc i pins s σ H E I hf st hg
    subst hP hw hK
    obtain ⟨hz, hTI, hTO, h1, h2, h3⟩ := st
    obtain ⟨xs, ys, zs, hqx, hqy, hqz, hend⟩ := hg
    obtain ⟨its, rv, p, _⟩ := sqB_get I hqx
    obtain ⟨its2, rv2, p2, _⟩ := sqB_get I hqy
    obtain ⟨its3, rv3, p3, _⟩ := sqB_get I hqz
    have hA : X.A.in1.handled = none := I.ok.hd hc
    have hl : i = min (min its.toArray.size its2.toArray.size) its3.toArray.size := by rw [List.size_toArray, List.size_toArray, List.size_toArray, ← rv.length, ← rv2.length, ← rv3.length, hend]
    subst hl
    have W := GoesN.zip3 (prog := X.prog) (w := X.w) (A := X.A) (elts := elts) (x1 := kk) (pos := tpos) S (draws_sq (prog := X.prog) (w := X.w) hA k1 i1 a ne1 its.toArray) (draws_sq (prog := X.prog) (w := X.w) hA k2 i2 b ne2 its2.toArray) (draws_sq (prog := X.prog) (w := X.w) hA k3 i3 d ne3 its3.toArray)
    have hsub : ∀ c, c ∈ [z, TO, i1, i2, i3] → c ∈ [z, TI, TO, i1, i2, i3] := fun c hc => by
      have e' : c = z ∨ c = TO ∨ c = i1 ∨ c = i2 ∨ c = i3 := by simpa using hc
      rcases e' with q | q | q | q | q <;> (rw [q]; simp)
    exact W.stops s (fun s1 => Inv X pins σ H s1) E ⟨hz, hTI, hTO, ⟨h1, p⟩, ⟨h2, p2⟩, ⟨h3, p3⟩⟩ fun h' tk hk htk => I.turnedL (t' := tk) (ch := [z, TI, TO, i1, i2, i3]) (fun c o hb => hk c o fun q => hb (hsub c q)) hf
  self := fun A i s Q E st h => wpAny_pyIter_zip st.1 h
def iZipC (K : PySem.W.Frag) (ta : TA) : TI := fun σ H R => ta σ H fun vs H1 => ∃ k1 k2 k3 a b d xs ys zs, vs = [.ref a, .ref b, .ref d] ∧ SqB K k1 H1 a xs ∧ SqB K k2 H1 b ys ∧ SqB K k3 H1 d zs ∧ R (ItzC K k1 k2 k3 a b d) H1
theorem pi_zipC {X : Cx} {e e2 e3 : Expr} {ta : TA} {p pos tpos : Pos} {elts : List Expr} {kk : Nat} (hg : Gl X "zip") (hm : X.mg "zip" = none) (ha : PA X [e, e2, e3] ta)
    (hs : starEach [e, e2, e3] X.env = (false, eval e X.env) :: starEach [e2, e3] X.env := by rfl) (hpl : (backTo pos (starEach [e2, e3] X.env)).any (·.1) = false := by rfl) :
    PI X (.Tuple elts kk tpos) (.Call (.Name "zip" p) [e, e2, e3] [] pos) (iZipC X.K ta) := by
  refine ⟨fun pins s σ H R I h => ?_⟩
  refine Call_ (ld_blt I hg hm PyProof.Rows.boot_zip (PyProof.Rows.callWith_type1 (thn (ha.run pos pins s σ H _ I h) fun us s1 ⟨vs, H1, I1, r1, q1⟩ => ?_) hs hpl))
  obtain ⟨k1, k2, k3, a, b, d, xs, ys, zs, rfl, hqx, hqy, hqz, q⟩ := q1
  obtain ⟨u1, u2, u3, rfl, ra, rb, rd⟩ : ∃ u1 u2 u3, us = [u1, u2, u3] ∧ RelV (.ref a) u1 ∧ RelV (.ref b) u2 ∧ RelV (.ref d) u3 := by
    cases r1 with
    | cons r rr =>
      cases rr with
      | cons r' rr =>
        cases rr with
        | cons r'' rr => cases rr; exact ⟨_, _, _, rfl, r, r', r''⟩
  cases ra
  cases rb
  cases rd
  obtain ⟨its, rv, p1, l1⟩ := sqB_get I1 hqx
  obtain ⟨its2, rv2, p2, l2⟩ := sqB_get I1 hqy
  obtain ⟨its3, rv3, p3, l3⟩ := sqB_get I1 hqz
  refine zip_begins3 (begins_sq k1 a its.toArray) (begins_sq k2 b its2.toArray) (begins_sq k3 d its3.toArray) p1 p2 p3 fun h' hz hTI hTO h1 h2 h3 hsz hk => wpAny_pyIter_zip hz ?_
  have I2 : Inv X pins σ H1 { s1 with heap := h' } := I1.kept (t' := s1.toks) hk
  have hS : ZipSep3 (s1.heap.objs.size + 5) (s1.heap.objs.size + 3) (s1.heap.objs.size + 4) s1.heap.objs.size (s1.heap.objs.size + 1) (s1.heap.objs.size + 2) [s1.heap.objs.size, a] [s1.heap.objs.size + 1, b] [s1.heap.objs.size + 2, d] :=
    zip_sep3 (fp1 := [a]) (fp2 := [b]) (fp3 := [d]) (fun c hc => by rw [List.mem_singleton.mp hc]; exact l1) (fun c hc => by rw [List.mem_singleton.mp hc]; exact l2) (fun c hc => by rw [List.mem_singleton.mp hc]; exact l3)
  refine ⟨s1.heap.objs.size + 5, [s1.heap.objs.size + 5, s1.heap.objs.size + 3, s1.heap.objs.size + 4, s1.heap.objs.size, s1.heap.objs.size + 1, s1.heap.objs.size + 2], _, _, H1, rfl, I2,
    turn_zipC hS (Nat.ne_of_lt l1) (Nat.ne_of_lt (Nat.lt_succ_of_lt l2)) (Nat.ne_of_lt (Nat.lt_succ_of_lt (Nat.lt_succ_of_lt l3))), ⟨hz, hTI, ⟨_, _, _, hTO⟩, heapIt_of h1, heapIt_of h2, heapIt_of h3⟩, fun c hcm => ?_, q⟩
  have e' : c = s1.heap.objs.size + 5 ∨ c = s1.heap.objs.size + 3 ∨ c = s1.heap.objs.size + 4 ∨ c = s1.heap.objs.size ∨ c = s1.heap.objs.size + 1 ∨ c = s1.heap.objs.size + 2 := by simpa using hcm
  have hle : s1.heap.objs.size ≤ c := by
    rcases e' with z | z | z | z | z | z
    · rw [z]; exact Nat.le_add_right _ _
    · rw [z]; exact Nat.le_add_right _ _
    · rw [z]; exact Nat.le_add_right _ _
    · rw [z]; exact Nat.le_refl _
    · rw [z]; exact Nat.le_add_right _ _
    · rw [z]; exact Nat.le_add_right _ _
  exact I1.fpOk hle (I1.hok.fresh hle)
end DL

namespace DL
open PySem PySem.Spec PyProof.Rows L2

section
variable {K : PySem.W.Frag} {F : Hp}
/-- an iterator of new tuples -/
theorem it_tups {J : It} {items : List PyData} (go : ∀ i H, Same F H → i < items.length → J.go i H) (stop : ∀ H, Same F H → J.stop items.length H)
    (yld : ∀ i H v H', Same F H → i < items.length → J.yld i H v H' → ∃ T vs ds, v = .ref T ∧ H T = none ∧ H' = upd H T (.tup vs) ∧ items[i]? = some (.tuple ds) ∧ DpAll K F vs ds) : ItOk K F J items where
  go := go
  stop := stop
  yld := fun i H v H' Fc d e1 e2 hd yy => by
    obtain ⟨T, vs, ds, rfl, hT, rfl, hi, da⟩ := yld i H v H' (e1.trans e2) (List.getElem?_eq_some_iff.mp hd).1 yy
    rw [hi] at hd
    cases hd
    have hF : Fc T = none := by
      cases z : Fc T with
      | none => rfl
      | some o => rw [e2 T o z] at hT; cases hT
    have eF := same_new (o := HO.tup vs) hF
    refine ⟨upd Fc T (.tup vs), eF, fun b o hb => ?_, same_new hT, fun b hb hn => ?_, .tup (SqT.of upd_same) (dpa_mono (e1.trans eF) _ _ da)⟩
    · by_cases z : b = T
      · subst z; rw [upd_same] at hb ⊢; exact hb
      · rw [upd_ne z] at hb ⊢; exact e2 b o hb
    · by_cases z : b = T
      · subst z; exact hT
      · rw [upd_ne z] at hb; exact absurd hn hb
theorem sqB_mono {H H' : Hp} (e : Same H H') {k : Bool} {a : Addr} {xs : List V} (h : SqB K k H a xs) : SqB K k H' a xs := by
  cases k with
  | true => exact e.seq h
  | false => exact seqT e h
theorem get_zip {x1 x2 : List PyData} {i : Nat} (h : i < (pairD x1 x2).length) : ∃ y1 y2, x1[i]? = some y1 ∧ x2[i]? = some y2 ∧ (pairD x1 x2)[i]? = some (.tuple [y1, y2]) := by
  have hl : (pairD x1 x2).length = min x1.length x2.length := by
    unfold pairD
    rw [List.length_map, List.length_zip]
  have h1 : i < x1.length := by omega
  have h2 : i < x2.length := by omega
  refine ⟨x1[i], x2[i], List.getElem?_eq_getElem h1, List.getElem?_eq_getElem h2, ?_⟩
  unfold pairD
  rw [List.getElem?_map, List.getElem?_eq_getElem (by rw [List.length_zip]; omega), List.getElem_zip]
  rfl
theorem it_zipB {k1 k2 : Bool} {a b : Addr} {w1 w2 : List V} {x1 x2 : List PyData} (h1 : SqB K k1 F a w1) (h2 : SqB K k2 F b w2) (d1 : DpAll K F w1 x1) (d2 : DpAll K F w2 x2) : ItOk K F (ItzB K k1 k2 a b) (pairD x1 x2) := by
  have l1 := dpa_len d1
  have l2 := dpa_len d2
  have hl : (pairD x1 x2).length = min x1.length x2.length := by
    unfold pairD
    rw [List.length_map, List.length_zip]
  refine it_tups (fun i H e hi => ?_) (fun H e => ⟨w1, w2, sqB_mono e h1, sqB_mono e h2, by rw [hl, l1, l2]⟩) (fun i H v H' e hi y => ?_)
  · exact ⟨w1, w2, w1[i], w2[i], sqB_mono e h1, sqB_mono e h2, List.getElem?_eq_getElem (by omega), List.getElem?_eq_getElem (by omega)⟩
  · obtain ⟨T, x, y, rfl, hT, rfl, f1, f2⟩ := y
    obtain ⟨y1, y2, g1, g2, g3⟩ := get_zip hi
    obtain ⟨v1, c1, c2⟩ := dpa_get d1 g1
    obtain ⟨v2, c3, c4⟩ := dpa_get d2 g2
    have e1 := f1 _ (sqB_mono e h1)
    have e2 := f2 _ (sqB_mono e h2)
    rw [c1] at e1
    rw [c3] at e2
    cases e1
    cases e2
    exact ⟨T, _, [y1, y2], rfl, hT, rfl, g3, .cons c2 (.cons c4 .nil)⟩
def tripD (xs ys zs : List PyData) : List PyData := (List.zip xs (List.zip ys zs)).map fun p => .tuple [p.1, p.2.1, p.2.2]
theorem len_tripD (x1 x2 x3 : List PyData) : (tripD x1 x2 x3).length = min (min x1.length x2.length) x3.length := by
  unfold tripD
  rw [List.length_map, List.length_zip, List.length_zip]
  omega
theorem it_zipC {k1 k2 k3 : Bool} {a b d : Addr} {w1 w2 w3 : List V} {x1 x2 x3 : List PyData} (h1 : SqB K k1 F a w1) (h2 : SqB K k2 F b w2) (h3 : SqB K k3 F d w3) (d1 : DpAll K F w1 x1) (d2 : DpAll K F w2 x2) (d3 : DpAll K F w3 x3) : ItOk K F (ItzC K k1 k2 k3 a b d) (tripD x1 x2 x3) := by
  have l1 := dpa_len d1
  have l2 := dpa_len d2
  have l3 := dpa_len d3
  have hl := len_tripD x1 x2 x3
  refine it_tups (fun i H e hi => ?_) (fun H e => ⟨w1, w2, w3, sqB_mono e h1, sqB_mono e h2, sqB_mono e h3, by rw [hl, l1, l2, l3]⟩) (fun i H v H' e hi y => ?_)
  · exact ⟨w1, w2, w3, w1[i], w2[i], w3[i], sqB_mono e h1, sqB_mono e h2, sqB_mono e h3, List.getElem?_eq_getElem (by omega), List.getElem?_eq_getElem (by omega), List.getElem?_eq_getElem (by omega)⟩
  · obtain ⟨T, x, y, t, rfl, hT, rfl, f1, f2, f3⟩ := y
    have q1 : i < x1.length := by omega
    have q2 : i < x2.length := by omega
    have q3 : i < x3.length := by omega
    obtain ⟨v1, c1, c2⟩ := dpa_get d1 (List.getElem?_eq_getElem q1)
    obtain ⟨v2, c3, c4⟩ := dpa_get d2 (List.getElem?_eq_getElem q2)
    obtain ⟨v3, c5, c6⟩ := dpa_get d3 (List.getElem?_eq_getElem q3)
    have e1 := f1 _ (sqB_mono e h1)
    have e2 := f2 _ (sqB_mono e h2)
    have e3 := f3 _ (sqB_mono e h3)
    rw [c1] at e1
    rw [c3] at e2
    rw [c5] at e3
    cases e1
    cases e2
    cases e3
    refine ⟨T, _, [x1[i], x2[i], x3[i]], rfl, hT, rfl, ?_, .cons c2 (.cons c4 (.cons c6 .nil))⟩
    unfold tripD
    rw [List.getElem?_map, List.getElem?_eq_getElem (by rw [List.length_zip, List.length_zip]; omega), List.getElem_zip, List.getElem_zip]
    rfl
/-- a list or a tuple, at data -/
theorem sqB_of {v : V} {d : PyData} (h : Dp K F v d) : ∀ xs, (d = .list xs ∨ d = .tuple xs) → ∃ k a ws, v = .ref a ∧ SqB K k F a ws ∧ DpAll K F ws xs := fun xs e => by
  rcases e with rfl | rfl
  · obtain ⟨a, ws, rfl, h1, h2⟩ := dp_lst h
    exact ⟨true, a, ws, rfl, h1, h2⟩
  · obtain ⟨a, ws, rfl, h1, h2⟩ := dp_tup h
    exact ⟨false, a, ws, rfl, h1, h2⟩
end
section
variable {X : Cx} {tg e e2 e3 : Expr} {Tr : DTA} {p pos tpos : Pos} {elts : List Expr} {kk : Nat}
/-- zip of two, of three rows of any kind -/
def dZip2 (Tr : DTA) : DTA := fun ρ Q => Tr ρ fun xs ρ1 => match xs with
  | [a, b] => asSeq a fun xs => asSeq b fun ys => Q (pairD xs ys) ρ1
  | _ => False
def dZip3 (Tr : DTA) : DTA := fun ρ Q => Tr ρ fun xs ρ1 => match xs with
  | [a, b, c] => asSeq a fun xs => asSeq b fun ys => asSeq c fun zs => Q (tripD xs ys zs) ρ1
  | _ => False
theorem di_zip2 (hg : Gl X "zip") (hm : X.mg "zip" = none) (ha : DA X [e, e2] Tr) (hs : starEach [e, e2] X.env = (false, eval e X.env) :: starEach [e2] X.env := by rfl) (hpl : (backTo pos (starEach [e2] X.env)).any (·.1) = false := by rfl) :
    DI X (.Tuple elts kk tpos) (.Call (.Name "zip" p) [e, e2] [] pos) (dZip2 Tr) :=
  pi_imp (pi_zipB hg hm ha hs hpl) fun σ H R q => by
    obtain ⟨G, F, ρ, Q, r, q, k⟩ := q
    refine ⟨G, F, ρ, _, r, q, fun vs xs ρ1 F1 H1 e1 r1 d1 q1 => ?_⟩
    split at q1
    · rename_i x y
      obtain ⟨xs, hx, q2⟩ := asSeq_of q1
      obtain ⟨ys, hy, q3⟩ := asSeq_of q2
      cases d1 with
      | cons c1 d2 =>
        cases d2 with
        | cons c2 d3 =>
          cases d3
          obtain ⟨k1, a, ws, rfl, h1, h2⟩ := sqB_of c1 xs hx
          obtain ⟨k2, b, us, rfl, h3, h4⟩ := sqB_of c2 ys hy
          exact ⟨k1, k2, a, b, ws, us, rfl, sqB_mono r1.fh h1, sqB_mono r1.fh h3, k _ ρ1 F1 H1 _ e1 r1 (it_zipB h1 h3 h2 h4) q3⟩
    · exact q1.elim
theorem di_zip3 (hg : Gl X "zip") (hm : X.mg "zip" = none) (ha : DA X [e, e2, e3] Tr) (hs : starEach [e, e2, e3] X.env = (false, eval e X.env) :: starEach [e2, e3] X.env := by rfl) (hpl : (backTo pos (starEach [e2, e3] X.env)).any (·.1) = false := by rfl) :
    DI X (.Tuple elts kk tpos) (.Call (.Name "zip" p) [e, e2, e3] [] pos) (dZip3 Tr) :=
  pi_imp (pi_zipC hg hm ha hs hpl) fun σ H R q => by
    obtain ⟨G, F, ρ, Q, r, q, k⟩ := q
    refine ⟨G, F, ρ, _, r, q, fun vs xs ρ1 F1 H1 e1 r1 d1 q1 => ?_⟩
    split at q1
    · rename_i x y z
      obtain ⟨xs, hx, q2⟩ := asSeq_of q1
      obtain ⟨ys, hy, q3⟩ := asSeq_of q2
      obtain ⟨zs, hz, q4⟩ := asSeq_of q3
      cases d1 with
      | cons c1 d2 =>
        cases d2 with
        | cons c2 d3 =>
          cases d3 with
          | cons c3 d4 =>
            cases d4
            obtain ⟨k1, a, ws, rfl, h1, h2⟩ := sqB_of c1 xs hx
            obtain ⟨k2, b, us, rfl, h3, h4⟩ := sqB_of c2 ys hy
            obtain ⟨k3, d, ts, rfl, h5, h6⟩ := sqB_of c3 zs hz
            exact ⟨k1, k2, k3, a, b, d, ws, us, ts, rfl, sqB_mono r1.fh h1, sqB_mono r1.fh h3, sqB_mono r1.fh h5, k _ ρ1 F1 H1 _ e1 r1 (it_zipC h1 h3 h5 h2 h4 h6) q4⟩
    · exact q1.elim
end

/-! ### sorted(set(list of tuples of whole numbers)) -/
def tupI (ns : List Int) : PyData := .tuple (ns.map .int)
theorem tups_addr {K : PySem.W.Frag} {F : Hp} : ∀ {vs : List V} {ks : List (List Int)}, DpAll K F vs (ks.map tupI) → ∃ ps : List (Addr × List Int), vs = ps.map (fun p => V.ref p.1) ∧ ps.map (·.2) = ks ∧ ∀ p ∈ ps, SqT K F p.1 (p.2.map V.int)
  | _, [], h => by cases h; exact ⟨[], rfl, rfl, fun p hp => nomatch hp⟩
  | _, k :: ks, h => by
    cases h with
    | cons h1 h2 =>
      obtain ⟨a, ws, rfl, h3, h4⟩ := dp_tup h1
      rw [ints_dp (ints_map k) h4] at h3
      obtain ⟨ps, rfl, e2, h5⟩ := tups_addr h2
      exact ⟨(a, k) :: ps, rfl, by rw [List.map_cons, e2], fun p hp => by
        rcases List.mem_cons.mp hp with e | hp
        · rw [e]; exact h3
        · exact h5 p hp⟩
theorem addr_tups {K : PySem.W.Frag} {F : Hp} : ∀ (ps : List (Addr × List Int)), (∀ p ∈ ps, SqT K F p.1 (p.2.map V.int)) → DpAll K F (ps.map fun p => V.ref p.1) ((ps.map (·.2)).map tupI)
  | [], _ => .nil
  | p :: ps, h => .cons (.tup (h p (List.mem_cons_self ..)) (ints_dpa _)) (addr_tups ps fun q hq => h q (List.mem_cons_of_mem _ hq))
where ints_dpa : ∀ (ns : List Int), DpAll K F (ns.map V.int) (ns.map .int)
  | [] => .nil
  | n :: ns => .cons (.int n) (ints_dpa ns)
def oSortedSet : PyData → (PyData → Prop) → Prop := fun x k => asLst x fun ys => ∃ (ks : List (List Int)) (d : Nat) (B : Int), ys = ks.map tupI ∧ ks.length < 64 ∧ 1 ≤ d ∧ (∀ n ∈ ks, n.length = d ∧ TS.Bd B n) ∧
  ∀ L : List (List Int), (∀ n ∈ L, n ∈ ks) → (∀ n ∈ ks, n ∈ L) → L.Nodup → L.length < 64 → L.Pairwise (fun q r => TS.code B q ≤ TS.code B r) → k (.list (L.map tupI))
section
variable {X : Cx} {e : Expr} {Ta : DT} {p p2 pos pos2 : Pos}
theorem de_sortedSet (hc : X.calm = true) (hu : X.A.units + 64 < cLine) (hg : Gl X "sorted") (hm : X.mg "sorted" = none) (hg2 : Gl X "set") (hm2 : X.mg "set" = none) (he : DE X e Ta)
    (hs2 : starEach [e] X.env = (false, eval e X.env) :: starEach [] X.env := by rfl) (hs : starEach [.Call (.Name "set" p2) [e] [] pos2] X.env = (false, eval (.Call (.Name "set" p2) [e] [] pos2) X.env) :: starEach [] X.env := by rfl)
    (hpl : (backTo pos (starEach [] X.env)).any (·.1) = false := by rfl) (hpl2 : (backTo pos2 (starEach [] X.env)).any (·.1) = false := by rfl) :
    DE X (.Call (.Name "sorted" p) [.Call (.Name "set" p2) [e] [] pos2] [] pos) (dU oSortedSet Ta) :=
  pe_imp (pe_callB (cr_sortedT hc) hg hm PyProof.Rows.boot_sorted (pa_cons (pe_callTy (cr_setOfT hc hu) hg2 hm2 PyProof.Rows.boot_set (pa_cons he pa_nil hs2) (by decide) (by decide) hs2 hpl2) pa_nil hs) (by decide) (by decide) hs hpl) fun σ H R q => by
    obtain ⟨G, F, ρ, Q, r, q, k⟩ := q
    refine ⟨G, F, ρ, _, r, q, fun v x ρ1 F1 H1 e1 r1 d1 q1 => ?_⟩
    obtain ⟨ys, rfl, q1⟩ := asLst_of q1
    obtain ⟨ks, d, B, rfl, hl, hd, hB, q2⟩ := q1
    obtain ⟨a, ws, rfl, h1, h2⟩ := dp_lst d1
    obtain ⟨ps, rfl, rfl, h3⟩ := tups_addr h2
    rw [List.length_map] at hl
    refine ⟨a, ps, rfl, r1.fh.seq h1, fun p hp => seqT r1.fh (h3 p hp), hl, fun b L hb hL1 hL2 => ?_⟩
    have r2 := r1.newOwn hb (o := SetTO X.prog X.w b L)
    refine ⟨b, L, d, B, rfl, upd_same, fun p hp => seqT r2.fh (h3 p (hL1 p hp)), hd, fun p hp => hB _ (List.mem_map.mpr ⟨p, hL1 p hp, rfl⟩), fun L' c pm nd hl' pw hc' => ?_⟩
    have hF := r2.fresh hc'
    have eF := same_new (o := HO.lst (L'.map fun q => V.ref q.1)) hF
    refine k _ _ ρ1 _ _ (e1.trans eF) (r2.new hc') (.lst (SqL.of upd_same) (dpa_mono eF _ _ (addr_tups L' fun p hp => h3 p (hL1 p (pm.mem_iff.mp hp))))) (q2 (L'.map (·.2)) (fun n hn => ?_) (fun n hn => ?_) nd (by rw [List.length_map]; exact hl') (List.pairwise_map.mpr pw))
    · obtain ⟨p, hp, rfl⟩ := List.mem_map.mp hn
      exact List.mem_map.mpr ⟨p, hL1 p (pm.mem_iff.mp hp), rfl⟩
    · obtain ⟨p, hp, rfl⟩ := List.mem_map.mp hn
      obtain ⟨p', hp', e'⟩ := List.mem_map.mp (hL2 p hp)
      exact List.mem_map.mpr ⟨p', pm.mem_iff.mpr hp', e'⟩
end
end DL

set_option maxHeartbeats 4000000
namespace DL
open PySem PySem.Spec PyProof.Rows L2

/-! ### list + list, list * int, of any tracked lists -/
theorem list_addG (l : Addr) (items : Array Value) (n : Nat) (dd : Option Addr) (sl : Array (Option Value)) (b : Addr) (items2 : Array Value) (n2 : Nat) (dd2 : Option Addr) (sl2 : Array (Option Value)) (hc0 : items.size + items2.size ≤ sizeLine) :
    Meets (Builtin.«list.__add__» ⟨[.ref l, .ref b], []⟩) (fun _ R s => s.heap.get? l = some { cls := .type "list", dict := dd, data := .seq items n, slots := sl } ∧ s.heap.get? b = some { cls := .type "list", dict := dd2, data := .seq items2 n2, slots := sl2 } ∧
      R (.ok (.ret (Value.ref s.heap.objs.size))) { s with heap := s.heap.push { cls := Value.type "list", data := Data.seq (items ++ items2) }, toks := s.toks }) :=
  .of_wp fun prog w A R s h => by
    obtain ⟨hp, g, d, tk, os⟩ := s
    obtain ⟨hl, hb, h⟩ := h
    have f1 := AutoSeq1.idx_int
    have f2 := AutoSeq1.sub_tuple_tuple
    have f3 := AutoSeq1.sub_list_list
    have f4 := AutoSeq1.sub_tuple_list
    have f5 := AutoSeq1.sub_list_tuple
    wp_walk using AutoSeq1.wpAny_loadPart' hl, AutoSeq1.wpAny_loadPart' hb
    exact ⟨_, rfl, h⟩
theorem list_mulG (l : Addr) (items : Array Value) (n : Nat) (dd : Option Addr) (sl : Array (Option Value)) (x : Int) (u : Tok) (hc0 : ¬(!Builtin.List.listFitsIndex x) = true) (hc1 : ¬items.size * x.toNat > (2 ^ 63 - 1) / 8) (hc2 : ¬Builtin.List.listTooLong (items.size * x.toNat) = true) :
    Meets (Builtin.«list.__mul__» ⟨[.ref l, .int x u], []⟩) (fun _ R s => s.heap.get? l = some { cls := .type "list", dict := dd, data := .seq items n, slots := sl } ∧
      R (.ok (.ret (Value.ref s.heap.objs.size))) { s with heap := s.heap.push { cls := Value.type "list", data := Data.seq (List.foldl (fun x1 x2 => x1 ++ x2) #[] (List.replicate (if items.isEmpty = true then 0 else x.toNat) items)) }, toks := s.toks }) :=
  .of_wp fun prog w A R s h => by
    obtain ⟨hp, g, d, tk, os⟩ := s
    obtain ⟨hl, h⟩ := h
    have f1 := AutoSeq1.idx_int
    have hsz := AutoListH.joined_fits hc2
    wp_walk using AutoSeq1.wpAny_loadPart' hl
    refine wpAny_ite_false (decide_eq_false (Nat.not_lt.mpr hsz)) ?_
    wp_walk using AutoSeq1.wpAny_loadPart' hl
    exact ⟨_, rfl, h⟩
theorem int_rmul_listG (a : Int) (t : Tok) (l : Addr) (items : Array Value) (n : Nat) (dd : Option Addr) (sl : Array (Option Value)) :
    Meets (Builtin.«int.__rmul__» ⟨[.int a t, .ref l], []⟩) (fun _ R s => s.heap.get? l = some { cls := .type "list", dict := dd, data := .seq items n, slots := sl } ∧ R (.ok (.ret Value.notImplemented)) s) :=
  .of_wp fun prog w A R s h => by
    obtain ⟨hp, g, d, tk, os⟩ := s
    obtain ⟨hl, h⟩ := h
    wp_walk using AutoSeq1.wpAny_loadPart' hl
    exact ⟨_, rfl, h⟩
def rCatL (K : PySem.W.Frag) : R2 := fun x y H Q => ∃ l b xs zs, x = .ref l ∧ y = .ref b ∧ SqL K H l xs ∧ SqL K H b zs ∧ xs.length + zs.length ≤ sizeLine ∧ ∀ p, H p = none → Q (.ref p) (upd H p (.lst (xs ++ zs)))
def rRepL (K : PySem.W.Frag) : R2 := fun x y H Q => ∃ l k xs, x = .ref l ∧ y = .int k ∧ SqL K H l xs ∧ -(2 ^ 63) ≤ k ∧ k < 2 ^ 63 ∧ xs.length * k.toNat ≤ sizeLine ∧
  ∀ p, H p = none → Q (.ref p) (upd H p (.lst (List.replicate k.toNat xs).flatten))
section
variable {X : Cx}
theorem op_catL : OpR X (binaryOp .Add) (rCatL X.K) := by
  intro pins s σ H x y v u Q I rx ry h
  obtain ⟨l, b, xs, zs, rfl, rfl, hH, hB, hz, q⟩ := h
  cases rx
  cases ry
  obtain ⟨its, r, ⟨⟨cls, dd, data, sl⟩, n, ho, hc, hdn, hd⟩, _⟩ := I.list hH
  obtain ⟨its2, r2, ⟨⟨cls2, dd2, data2, sl2⟩, n2, ho2, hc2, hdn2, hd2⟩, _⟩ := I.list hB
  simp only at hc hd hc2 hd2
  subst hc hd hc2 hd2
  have h1 := r.length
  have h2 := r2.length
  refine concat_meets ⟨_, ho, rfl⟩ ⟨_, ho2, rfl⟩ noFill_list_add seq_list_add PySem.F.slot_list_add PySem.F.entry_list_add (PySem.F.args_list_add_2 _ _) (list_addG l its.toArray n dd sl b its2.toArray n2 dd2 sl2 (by rw [List.size_toArray, List.size_toArray]; omega)) ⟨ho, ho2, ?_⟩
  have ea : its.toArray ++ its2.toArray = (its ++ its2).toArray := by simp
  rw [ea]
  exact ⟨.ref _, _, I.lnew (t' := s.toks) (r.append r2) (by rw [List.length_append]; omega), rfl, q _ I.fresh⟩
theorem op_repL : OpR X (binaryOp .Mult) (rRepL X.K) := by
  intro pins s σ H x y v u Q I rx ry h
  obtain ⟨l, k, xs, rfl, rfl, hH, h1, h2, hz, q⟩ := h
  cases rx
  obtain ⟨t, rfl⟩ := ry
  obtain ⟨its, r, ⟨⟨cls, dd, data, sl⟩, n, ho, hc, hdn, hd⟩, _⟩ := I.list hH
  simp only at hc hd
  subst hc hd
  have hl := r.length
  have hlen : its.toArray.size * k.toNat ≤ sizeLine := by rw [List.size_toArray, ← hl]; exact hz
  have hcap : ¬ its.toArray.size * k.toNat > (2 ^ 63 - 1) / 8 := by
    have : (sizeLine : Nat) ≤ (2 ^ 63 - 1) / 8 := by decide
    omega
  have hfit : ¬ (!Builtin.List.listFitsIndex k) = true := by
    rw [fitsIndex_both h1 h2]
    exact Bool.false_ne_true
  have hlong : ¬ Builtin.List.listTooLong (its.toArray.size * k.toNat) = true := by
    rw [notLongL hlen]
    exact Bool.false_ne_true
  have hnew : List.foldl (fun x1 x2 => x1 ++ x2) #[] (List.replicate (if its.toArray.isEmpty = true then 0 else k.toNat) its.toArray) = (List.replicate k.toNat its).flatten.toArray := by
    have f0 : ∀ m : Nat, List.foldl (fun x1 x2 => x1 ++ x2) #[] (List.replicate m its.toArray) = (List.replicate m its).flatten.toArray := fun m => by
      have := foldl_rep its m []
      rw [List.nil_append] at this
      exact this
    rw [f0]
    cases its with
    | nil => simp
    | cons a r' => rw [if_neg (by simp)]
  refine wpAny_binaryOp_repeat_ref (T := "list") (U := "int") (by decide) ⟨_, ho, rfl⟩ (fun s' => typeIs_int s' k t) noFill_list_mul PySem.F.fills_int_mul PySem.F.slot_int_rmul repeat_list PySem.F.slot_int_index.lookup
    (call_meets PySem.F.slot_int_rmul (typeIs_int s k t) PySem.F.entry_int_rmul (PySem.F.args_int_rmul_2 _ _) (int_rmul_listG k t l its.toArray n dd sl)
      ⟨ho, rfl, ⟨_, ho, rfl⟩, call_meets PySem.F.slot_list_mul ⟨_, ho, rfl⟩ PySem.F.entry_list_mul (PySem.F.args_list_mul_2 _ _) (list_mulG l its.toArray n dd sl k t hfit hcap hlong) ⟨ho, ?_⟩⟩)
  rw [hnew]
  exact ⟨.ref _, _, I.lnew (t' := s.toks) (r.rep k.toNat) (by rw [PyProof.Rows.lm_len_rep_flat, Nat.mul_comm]; exact hz), rfl, q _ I.fresh⟩
end
def oAddL (x y : PyData) (k : List PyData → Prop) : Prop := match x, y with
  | .list xs, .list ys => xs.length + ys.length ≤ sizeLine ∧ k (xs ++ ys)
  | _, _ => False
def oMulL (x y : PyData) (k : List PyData → Prop) : Prop := match x, y with
  | .list xs, .int j => (-1000 ≤ j ∧ j ≤ 1000 ∧ xs.length ≤ 1000) ∧ k (List.replicate j.toNat xs).flatten
  | _, _ => False
section
variable {X : Cx} {a b : Expr} {pos : Pos} {Ta Tb : DT}
def dnOp (o : PyData → PyData → (List PyData → Prop) → Prop) (Ta Tb : DT) : DTN := fun ρ Q => Ta ρ fun x ρ1 => Tb ρ1 fun y ρ2 => o x y fun z => Q (.lst z) ρ2
theorem dn_add (ha : DE X a Ta) (hb : DE X b Tb) : DN X (.BinOp a .Add b pos) (dnOp oAddL Ta Tb) := pe_imp (pe_op op_catL ha hb) fun σ H R q => by
  obtain ⟨G, F, ρ, Q, rp, q, k⟩ := q
  refine ⟨G, F, ρ, _, rp, q, fun v x ρ1 F1 H1 e1 r1 d1 q1 => ⟨G, F1, ρ1, _, r1, q1, fun u y ρ2 F2 H2 e2 r2 d2 q2 => ?_⟩⟩
  unfold oAddL at q2
  split at q2
  · rename_i xs ys
    obtain ⟨c, vs, rfl, h1, h2⟩ := dp_lst d1
    obtain ⟨d, ws, rfl, h3, h4⟩ := dp_lst d2
    have h2' := dpa_mono e2 _ _ h2
    refine ⟨c, d, vs, ws, rfl, rfl, r2.fh.seq (e2.seq h1), r2.fh.seq h3, by rw [dpa_len h2, dpa_len h4]; exact q2.1, fun p hp => ?_⟩
    exact k p _ ρ2 F2 _ (e1.trans e2) (r2.appOwn hp (dpa_app h2' h4)) r2.len q2.2
  · exact q2.elim
theorem dn_mul (ha : DE X a Ta) (hb : DE X b Tb) : DN X (.BinOp a .Mult b pos) (dnOp oMulL Ta Tb) := pe_imp (pe_op op_repL ha hb) fun σ H R q => by
  obtain ⟨G, F, ρ, Q, rp, q, k⟩ := q
  refine ⟨G, F, ρ, _, rp, q, fun v x ρ1 F1 H1 e1 r1 d1 q1 => ⟨G, F1, ρ1, _, r1, q1, fun u y ρ2 F2 H2 e2 r2 d2 q2 => ?_⟩⟩
  unfold oMulL at q2
  split at q2
  · rename_i xs j
    obtain ⟨c, vs, rfl, h1, h2⟩ := dp_lst d1
    cases dp_int d2
    have h2' := dpa_mono e2 _ _ h2
    obtain ⟨⟨g1, g2, g3⟩, q3⟩ := q2
    have hz : vs.length * j.toNat ≤ sizeLine := by
      rw [dpa_len h2, sizeLine_eq]
      have : j.toNat ≤ 1000 := by omega
      have := Nat.mul_le_mul g3 this
      omega
    refine ⟨c, j, vs, rfl, rfl, r2.fh.seq (e2.seq h1), by omega, by omega, hz, fun p hp => ?_⟩
    exact k p _ ρ2 F2 _ (e1.trans e2) (r2.appOwn hp (dpa_rep h2' _)) r2.len q3
  · exact q2.elim
/-- list(x), a list of one's own -/
def oListN (x : PyData) (k : List PyData → Prop) : Prop := match x with
  | .list ys => k ys
  | .tuple ys => k ys
  | _ => False
def dnU (o : PyData → (List PyData → Prop) → Prop) (Ta : DT) : DTN := fun ρ Q => Ta ρ fun x ρ1 => o x fun z => Q (.lst z) ρ1
theorem dn_list {e : Expr} {p : Pos} (hg : Gl X "list") (hm : X.mg "list" = none) (he : DE X e Ta) (hs : starEach [e] X.env = (false, eval e X.env) :: starEach [] X.env := by rfl) (hpl : (backTo pos (starEach [] X.env)).any (·.1) = false := by rfl) :
    DN X (.Call (.Name "list" p) [e] [] pos) (dnU oListN Ta) := pe_imp (pe_callTy call_list_of hg hm (by decide +kernel) (pa_cons he pa_nil hs) (by decide) (by decide) hs hpl) fun σ H R q => by
  obtain ⟨G, F, ρ, Q, r, q, k⟩ := q
  refine ⟨G, F, ρ, _, r, q, fun v x ρ1 F1 H1 e1 r1 d1 q1 => ?_⟩
  unfold oListN at q1
  split at q1
  · obtain ⟨a, ws, rfl, h1, h2⟩ := dp_lst d1
    exact ⟨a, ws, rfl, .inl (r1.fh.seq h1), fun l hl => k l _ ρ1 F1 _ e1 (r1.appOwn hl h2) r1.len q1⟩
  · obtain ⟨a, ws, rfl, h1, h2⟩ := dp_tup d1
    exact ⟨a, ws, rfl, .inr (seqT r1.fh h1), fun l hl => k l _ ρ1 F1 _ e1 (r1.appOwn hl h2) r1.len q1⟩
  · exact q1.elim
end

/-! ### chains of two comparisons -/
def dChain (o o' : PyData → PyData → (PyData → Prop) → Prop) (Ta Tb Tc : DT) : DT := fun ρ Q => Ta ρ fun x ρ1 => Tb ρ1 fun y ρ2 => o x y fun z => asBool z fun b => IfD b (Tc ρ2 fun t ρ3 => o' y t fun u => Q u ρ3) (Q (.bool false) ρ2)
section
variable {X : Cx} {a b c : Expr} {pos : Pos} {Ta Tb Tc : DT}
theorem dp_bool' {K : PySem.W.Frag} {F : Hp} {v : V} {b : Bool} (h : Dp K F v (.bool b)) : v = .bl b := by cases h; rfl
theorem cT_chain {K : PySem.W.Frag} {r r' : R2} {o o' : PyData → PyData → (PyData → Prop) → Prop} (od : OpD K r o) (od' : OpD K r' o') {σ : L2.St} {H : Hp} {R : VK} (q : cT K (dChain o o' Ta Tb Tc) σ H R) : tChain r r' (cT K Ta) (cT K Tb) (cT K Tc) σ H R := by
  obtain ⟨G, F, ρ, Q, rp, q, k⟩ := q
  refine ⟨G, F, ρ, _, rp, q, fun v x ρ1 F1 H1 e1 r1 d1 q1 => ⟨G, F1, ρ1, _, r1, q1, fun u y ρ2 F2 H2 e2 r2 d2 q2 => ?_⟩⟩
  refine od G F2 H2 σ ρ2 v u x y _ _ r2 (dp_mono e2 _ _ d1) d2 q2 fun w z F3 H3 e3 r3 d3 q3 => ?_
  obtain ⟨bb, rfl, q3⟩ := asBool_of q3
  refine ⟨bb, dp_bool' d3, ?_⟩
  cases bb with
  | true =>
    have q3 := q3.tt
    simp only [↓reduceIte]
    refine ⟨G, F3, ρ2, _, r3, q3, fun w' t ρ4 F4 H4 e4 r4 d4 q4 => ?_⟩
    exact od' G F4 H4 σ ρ4 u w' y t _ R r4 (dp_mono (e3.trans e4) _ _ d2) d4 q4 fun w5 z5 F5 H5 e5 r5 d5 q5 => k w5 z5 ρ4 F5 H5 ((e1.trans e2).trans ((e3.trans e4).trans e5)) r5 d5 q5
  | false =>
    have q3 := q3.ff
    simp only [Bool.false_eq_true, ↓reduceIte]
    exact k _ _ ρ2 F3 H3 ((e1.trans e2).trans e3) r3 (.bl false) q3
theorem de_chain {op op' : CmpOp} {r r' : R2} {o o' : PyData → PyData → (PyData → Prop) → Prop} (ho : OpR X (compareOp op) r) (od : OpD X.K r o) (ho' : OpR X (compareOp op') r') (od' : OpD X.K r' o') (ha : DE X a Ta) (hb : DE X b Tb) (hc : DE X c Tc)
    (hm : lastMarks [op, op'] [b, c] = false := by with_unfolding_all rfl) : DE X (.Compare a [op, op'] [b, c] pos) (dChain o o' Ta Tb Tc) := pe_imp (pe_chain ho ho' ha hb hc hm) fun σ H R q => cT_chain od od' q
end
end DL

set_option maxHeartbeats 2000000
namespace DL
open PySem PySem.Spec PyProof.Rows L2

/-! ### a walk over a list or a tuple -/
def iSeq (K : PySem.W.Frag) (tl : TE) : TI := fun σ H R => tl σ H fun x H1 => ∃ a, x = .ref a ∧ (((∃ xs, SqL K H1 a xs) ∧ R (Itl K a) H1) ∨ ((∃ xs, SqT K H1 a xs) ∧ R (Itt K a) H1))
theorem pi_seq {X : Cx} {tg l : Expr} {tl : TE} (hl : PE X l tl) : PI X tg l (iSeq X.K tl) := by
  refine ⟨fun pins s σ H R I h => thn (hl.run pins s σ H _ I h) fun v s1 ⟨x, H1, I1, r1, a, e, q⟩ => ?_⟩
  subst e
  cases r1
  have new : ∀ b ∈ [s1.heap.objs.size], FpOk X pins H1 b := fun b hb => by
    have e : b = s1.heap.objs.size := by simpa using hb
    subst e
    exact I1.fpOk (Nat.le_refl _) (I1.hok.fresh (Nat.le_refl _))
  rcases q with ⟨⟨xs, hq⟩, q⟩ | ⟨⟨xs, hq⟩, q⟩
  · obtain ⟨its, rv, p, hz⟩ := I1.list hq
    exact wpAny_pyIter_list p.isList ⟨s1.heap.objs.size, [s1.heap.objs.size], _, _, H1, rfl, I1.kept (t' := s1.toks) fun b o e => Heap.get?_push_of_some _ e, turn_list a _, ⟨_, Heap.get?_push_size _ rfl, rfl, rfl⟩, new, q⟩
  · obtain ⟨its, rv, p, hz⟩ := I1.tuple hq
    exact wpAny_pyIter_tuple (show s1.heap.IsTuple a its.toArray from p) ⟨s1.heap.objs.size, [s1.heap.objs.size], _, _, H1, rfl, I1.kept (t' := s1.toks) fun b o e => Heap.get?_push_of_some _ e, turn_tuple a _, ⟨_, Heap.get?_push_size _ rfl, rfl, rfl⟩, new, q⟩
theorem di_seq {X : Cx} {tg e : Expr} {Ta : DT} (h : DE X e Ta) : DI X tg e (dIt Ta) := pi_imp (pi_seq h) fun σ H R q => by
  obtain ⟨G, F, ρ, Q, r, q, k⟩ := q
  refine ⟨G, F, ρ, _, r, q, fun v x ρ1 F1 H1 e1 r1 d1 q1 => ?_⟩
  obtain ⟨xs, hx, q2⟩ := asSeq_of q1
  rcases hx with rfl | rfl
  · obtain ⟨a, vs, rfl, h1, h2⟩ := dp_lst d1
    exact ⟨a, rfl, .inl ⟨⟨vs, r1.fh.seq h1⟩, k xs ρ1 F1 H1 _ e1 r1 (it_list h1 h2) q2⟩⟩
  · obtain ⟨a, vs, rfl, h1, h2⟩ := dp_tup d1
    exact ⟨a, rfl, .inr ⟨⟨vs, seqT r1.fh h1⟩, k xs ρ1 F1 H1 _ e1 r1 (it_tup h1 h2) q2⟩⟩
/-! ### try whose body raises nothing -/
theorem ds_try {X : Cx} {body : List Stmt} {h₀ : ExceptHandler} {hs : List ExceptHandler} {T : DTS} {pos : Pos} (hb : DSs X.nox body T) : DS X (.Try body (h₀ :: hs) [] [] pos) T := ps_try_thru0 hb
/-! ### (a, b, ..) = a list -/
def dgLst (n : Nat) (U : DTGs) : DTG := fun x ρ Q => asLst x fun xs => xs.length = n ∧ U xs ρ Q
theorem dg_lst {X : Cx} {es : List Expr} {pos : Pos} {k n : Nat} {U : DTGs} (hc : X.calm = true) (h : DGs X es U) (hn : (assignEach es X.env).length = n := by rfl) (hst : (assignEach es X.env).findIdx? (·.1) = none := by rfl) : DG X (.Tuple es k pos) (dgLst n U) :=
  pg_imp (pg_lst hc h hn hst) fun v σ H R q => by
    obtain ⟨G, F, ρ, d, Q, r, dv, q, k⟩ := q
    obtain ⟨xs, rfl, hl, q⟩ := asLst_of q
    obtain ⟨a, vs, rfl, h1, h2⟩ := dp_lst dv
    exact ⟨a, vs, rfl, r.fh.seq h1, (dpa_len h2).trans hl, G, F, ρ, xs, Q, r, h2, q, k⟩
/-! ### calls with arguments that are data or known values -/
def flatS : List Sl → Bool
  | [] => true
  | .d _ :: r => flatS r
  | .raw _ :: r => flatS r
  | _ :: _ => false
theorem flatS_feet : ∀ {ss : List Sl}, flatS ss = true → feet ss = []
  | [], _ => rfl
  | .d _ :: r, h => by rw [feet_cons, flatS_feet (ss := r) h]; rfl
  | .raw _ :: r, h => by rw [feet_cons, flatS_feet (ss := r) h]; rfl
  | .un :: _, h => by cases h
  | .o _ _ :: _, h => by cases h
  | .fz _ _ :: _, h => by cases h
section
variable {K : PySem.W.Frag} {G F H : Hp} {σ : L2.St} {ρ ss : List Sl} {vs : List V}
theorem Rep.toArgs (R : Rep K G F H (σ ++ vs.map some) (ρ ++ ss)) (hl : ρ.length = σ.length) (hf : flatS ss = true) : Rep K (others F H) F H (vs.map some) ss where
  fh := R.fh
  gh := fun b o e => by
    unfold others at e
    split at e
    · exact e
    · cases e
  fg := fun a h => by
    unfold others
    split
    · rename_i q; exact absurd q h
    · rfl
  len := by
    have := R.len
    simp only [List.length_append] at this
    omega
  sl := fun i s e => by
    have h := R.sl (ρ.length + i) s (by rw [List.getElem?_append_right (by omega), Nat.add_sub_cancel_left]; exact e)
    rw [look_app_r (by omega)] at h
    have e1 : ρ.length + i - σ.length = i := by omega
    rw [e1] at h
    exact h
  nd := by rw [flatS_feet hf]; exact List.nodup_nil
  ap := fun a ha => by rw [flatS_feet hf] at ha; cases ha
theorem Rep.offArgs (R : Rep K G F H (σ ++ vs.map some) (ρ ++ ss)) (hl : ρ.length = σ.length) : Rep K G F H σ ρ := R.drop hl
end
section
variable {X : Cx} {e : Expr} {es : List Expr} {U : DTM} {pos p : Pos}
def dmRaw (v : V) (U : DTM) : DTM := fun ρ Q => U ρ fun ss ρ1 => Q (.raw v :: ss) ρ1
theorem dm_raw {v : V} (h : PE X e (tC v)) (hr : DM X es U) (hs : starEach (e :: es) X.env = (false, eval e X.env) :: starEach es X.env := by rfl) : DM X (e :: es) (dmRaw v U) := pa_imp (pa_cons h hr hs) fun σ H R q => by
  obtain ⟨G, F, ρ, Q, r, q, k⟩ := q
  refine ⟨G, F, ρ, _, r, q, fun vs ss ρ2 F2 H2 e2 r2 l2 q2 => ?_⟩
  refine k (v :: vs) (.raw v :: ss) ρ2 F2 H2 e2 ?_ l2 q2
  exact r2.insS l2 rfl List.nodup_nil (fun a ha => nomatch ha) fun a ha => nomatch ha
/-- a local name's known value -/
def dmVarR (i : Nat) (U : DTM) : DTM := fun ρ Q => match ρ[i]? with
  | some (.raw v) => U ρ fun ss ρ1 => Q (.raw v :: ss) ρ1
  | _ => False
theorem dm_varR {x : Str} {npos : Pos} (i : Nat) (h : PE X (.Name x npos) (tVar i)) (hr : DM X es U) (hs : starEach (.Name x npos :: es) X.env = (false, eval (.Name x npos) X.env) :: starEach es X.env := by rfl) : DM X (.Name x npos :: es) (dmVarR i U) := pa_imp (pa_cons h hr hs) fun σ H R q => by
  obtain ⟨G, F, ρ, Q, r, q, k⟩ := q
  unfold dmVarR at q
  split at q
  · rename_i v e1
    refine ⟨v, look_some (r.sl i _ e1), G, F, ρ, _, r, q, fun vs ss ρ2 F2 H2 e2 r2 l2 q2 => ?_⟩
    refine k (v :: vs) (.raw v :: ss) ρ2 F2 H2 e2 ?_ l2 q2
    exact r2.insS l2 rfl List.nodup_nil (fun a ha => nomatch ha) fun a ha => nomatch ha
  · exact q.elim
def dCallM (T : DTF) (U : DTM) : DT := fun ρ Q => U ρ fun ss ρ1 => flatS ss = true ∧ T ss fun d => Q d ρ1
/-- a def by its slots -/
structure ClF (P : Program) (w : World) (K : PySem.W.Frag) (mg : Str → Option Value) (base : Heap) (k : Nat) (x : Str) (n : Nat) (T : DTF) : Prop where
  ex : ∃ (f : Addr) (fd : FuncData) (ps : List Str), FnOk P w K mg base CX0 k f fd ps (spD K n T) ∧ mg x = some (.ref f) ∧ PySem.W.keepIn K (.ref f) = true ∧ Binds K fd ps []
  len : ∀ ss Q, T ss Q → ss.length = n
theorem de_callM {k j n : Nat} {x : Str} {T : DTF} (c : ClF X.prog X.w X.K X.mg X.base k x n T) (hr : Room j X.A) (hkj : k ≤ j) (hg : Gl X x) (ha : DM X (e :: es) U)
    (hdb : (x == ("__debug__" : Str)) = false := by decide) (he : starEach (e :: es) X.env = (false, eval e X.env) :: starEach es X.env := by rfl) (hpl : (backTo pos (starEach es X.env)).any (·.1) = false := by rfl) :
    DE X (.Call (.Name x p) (e :: es) [] pos) (dCallM T U) := by
  obtain ⟨f, fd, ps, F, hm, hk, hb⟩ := c.ex
  refine pe_imp (pe_call F (hr.mono hkj) hg hm hk hb .nil pass0 ha hdb he hpl) fun σ H R q => ?_
  obtain ⟨G, F, ρ, Q, r, q, kk⟩ := q
  refine ⟨G, F, ρ, _, r, q, fun vs ss ρ1 F1 H1 e1 r1 l1 q1 => ?_⟩
  have hv : vs.length = ss.length := by
    have := r1.len
    simp only [List.length_append, List.length_map] at this
    omega
  refine ⟨by rw [List.append_nil, hv]; exact c.len _ _ q1.2, others F1 H1, F1, ss, _, by rw [List.append_nil]; exact r1.toArgs l1 q1.1, q1.2, fun v d F' H' e' h' dv qd => ?_⟩
  exact kk v d ρ1 F' H' (e1.trans e') ((r1.offArgs l1).fromCall e' h') dv qd
/-- a call of a local name that holds the def at f -/
def dCallL (i : Nat) (f : Addr) (T : DTP) (Tr : DTA) : DT := fun ρ Q => (match ρ[i]? with
  | some (.raw v) => v = .ref f
  | _ => False) ∧ Tr ρ fun xs ρ1 => T xs fun d => Q d ρ1
structure ClV (P : Program) (w : World) (K : PySem.W.Frag) (mg : Str → Option Value) (base : Heap) (k : Nat) (f : Addr) (n : Nat) (T : DTP) : Prop where
  ex : ∃ (fd : FuncData) (ps : List Str), FnOk P w K mg base CX0 k f fd ps (spD K n (pureT T)) ∧ PySem.W.keepIn K (.ref f) = true ∧ Binds K fd ps []
  len : ∀ xs Q, T xs Q → xs.length = n
theorem de_callL {k j n : Nat} {x : Str} {f : Addr} {T : DTP} {Tr : DTA} (i : Nat) (c : ClV X.prog X.w X.K X.mg X.base k f n T) (hr : Room j X.A) (hkj : k ≤ j) (ha : DA X (e :: es) Tr) (hN : X.N[i]? = some x := by rfl)
    (hv : Vis X.env.scope x := by first | exact Or.inl rfl | exact Or.inr (Or.inl rfl) | exact Or.inr (Or.inr rfl))
    (hdb : (x == ("__debug__" : Str)) = false := by decide) (hcd : (x == ("__classdict__" : Str)) = false := by decide) (he : starEach (e :: es) X.env = (false, eval e X.env) :: starEach es X.env := by rfl) (hpl : (backTo pos (starEach es X.env)).any (·.1) = false := by rfl) :
    DE X (.Call (.Name x p) (e :: es) [] pos) (dCallL i f T Tr) := by
  obtain ⟨fd, ps, F, hk, hb⟩ := c.ex
  refine pe_imp (pe_callL F (hr.mono hkj) hN hv hk hb .nil pass0 ha hdb hcd he hpl) fun σ H R q => ?_
  obtain ⟨G, F, ρ, Q, r, q, kk⟩ := q
  obtain ⟨q0, q⟩ := q
  split at q0
  · rename_i v g0
    subst q0
    refine ⟨look_some (r.sl i _ g0), G, F, ρ, _, r, q, fun vs xs ρ1 F1 H1 e1 r1 d1 q1 => ?_⟩
    refine ⟨by rw [List.append_nil, dpa_len d1]; exact c.len _ _ q1, others F1 H1, F1, xs.map .d, _, by rw [List.append_nil]; exact r1.toData d1, ?_, fun v d F' H' e' h' dv qd => kk v d ρ1 F' H' (e1.trans e') (r1.fromCall e' h') dv qd⟩
    show pureT T (xs.map .d) _
    unfold pureT
    rw [allD_map]
    exact q1
  · exact q0.elim
end
end DL

namespace DL
open PySem PySem.Spec PyProof.Rows L2

/-! ### a def's promise where no repr is under way -/
structure FnG (P : Program) (w : World) (K : PySem.W.Frag) (mg : Str → Option Value) (base : Heap) (k : Nat) (f : Addr) (fd : FuncData) (ps : List Str) (sp : Sp) : Prop where
  len : ∀ vs H Q E, sp vs H Q E → vs.length = ps.length
  run : ∀ (A : Around) (outer : List Env) (s : Shared) (H : Hp) (args : Args) (us : List Value) (vs : List V) (Q : VK) (E : XK), Room k A → A.guards = some [] → Env0 P w K mg base A outer s H → BindsTo s fd args (ps.zip us) → Vals vs us → sp vs H Q E →
    codeAny (model P w) A (.call (.ref f) args) (CR CX0 outer P w H s Q E) s
section
variable {P : Program} {w : World} {K : PySem.W.Frag} {mg : Str → Option Value} {base : Heap}
/-- by its body -/
theorem fnG_body {x qual : Str} {st : Stmt} {f : Addr} {fd : FuncData} {N ps : List Str} {k : Nat} {sp : Sp} (F : Fun K x qual st f fd) (S : FnScope N ps (defScope st)) (len : ∀ vs H Q E, sp vs H Q E → vs.length = ps.length)
    (hbody : ∀ (cdv : Value) (A : Around) (outer : List Env) (s : Shared) (H : Hp) (vs : List V) (Q : VK) (E : XK), Room k (A.deeper (envOfC qual (defScope st) s.heap.objs.size f cdv)) → A.guards = some [] → sp vs H Q E →
      ∃ t, PSs (cxOf CX0 P w K mg base N qual (defScope st) f cdv A outer s H E).nox (defBody st) t ∧ t { nx := fun _ H' => Q .non H', rt := Q } (start N vs) H) : FnG P w K mg base (k + 1) f fd ps sp := by
  obtain ⟨oc, od, kV, doc, pm, an, cdv, ct, osl, rfl, lk, hcd⟩ := F.ex
  refine ⟨len, fun A outer s H args us vs Q E hr hG e0 hb r hsp => ?_⟩
  have KX : K.In s.heap := e0.mod.kin.keeps fun b o e => (e0.bs b o e).1
  have lim : s.heap.NoLimit := e0.mod.nolimit.keeps fun b o e => (e0.bs b o e).1
  refine codeAny_call_function hr.depth (KX _ _ lk) rfl S.co S.gen rfl (PySem.W.codeRec_of KX hcd) (hb _ _ _ _ (wpAny_newFunctionEnv_cells S.kind (fun ⟨n, v⟩ hy => ?_) fun env he s1 x => ?_))
  · exact (S.par n (List.of_mem_zip hy).1).elim .inl fun q => .inr ⟨q, PySem.W.cellsFrom_some _ _ _ (.inl q)⟩
  · subst he
    obtain ⟨t, ht, hq⟩ := hbody cdv A outer s H vs Q E (hr.deeper _) hG hsp
    have I : Inv (cxOf CX0 P w K mg base N qual (defScope st) f cdv A outer s H E) [] (start N vs) H s1 := inv_start S hr.hd e0 (len _ _ _ _ hsp) r x
    refine ⟨lim.keeps x.toInCall.keep, codeAny_func (wpAny_mono (ht.nox.run [] s1 (start N vs) H _ I hq) (fun fl s' hs => ?_) fun e s' hs => hs)⟩
    match fl, hs with
    | .ret u, ⟨v, σ', H', J, rv, q⟩ => exact ⟨v, H', J.os, J.bare, J.base, J.hok, rv, q⟩
    | .next, ⟨σ', H', J, q⟩ => exact ⟨V.non, H', J.os, J.bare, J.base, J.hok, rfl, q⟩
    | .brk, ⟨_, _, _, q⟩ => exact q.elim
    | .cont, ⟨_, _, _, q⟩ => exact q.elim
/-- the same, by data -/
theorem fnG_data {x qual : Str} {st : Stmt} {f : Addr} {fd : FuncData} {N ps : List Str} {k : Nat} {T : DTF} {TB : DTS} (F : Fun K x qual st f fd) (S : FnScope N ps (defScope st))
    (hb : ∀ (cdv : Value) (A : Around) (outer : List Env) (s : Shared) (H : Hp) (E : XK), Room k (A.deeper (envOfC qual (defScope st) s.heap.objs.size f cdv)) → A.guards = some [] →
      DSs (cxOf CX0 P w K mg base N qual (defScope st) f cdv A outer s H E).nox (defBody st) TB)
    (hT : ∀ as Q, as.length = ps.length → T as Q → TB { nx := fun _ => Q .none, rt := fun d _ => Q d } (as ++ List.replicate (N.length - ps.length) .un)) :
    FnG P w K mg base (k + 1) f fd ps (spD K ps.length T) := by
  refine fnG_body F S (fun vs H Q E h => h.1) (fun cdv A outer s H vs Q E hr hG h => ?_)
  obtain ⟨hl, G, Fz, as, Qd, r, q, kk⟩ := h
  refine ⟨_, hb cdv A outer s H E hr hG, G, Fz, as ++ List.replicate (N.length - ps.length) .un, _, ?_, hT as Qd (by rw [r.len, List.length_map, hl]) q, ⟨?_, ?_, ?_, ?_, ?_⟩⟩
  · unfold L2.start
    rw [hl]
    exact r.start _
  · intro σ ρ F' H' e r' h'
    exact kk .non .none F' H' e r'.heap0 .non h'
  · intro v d σ ρ F' H' e r' dv h'
    exact kk v d F' H' e r'.heap0 dv h'
  · intro σ ρ F' H' e r' h'
    exact h'.elim
  · intro σ ρ F' H' e r' h'
    exact h'.elim
  · intro p ob σ ρ F' H' e r' hl h'
    exact h'.elim
end
structure ClG (P : Program) (w : World) (K : PySem.W.Frag) (mg : Str → Option Value) (base : Heap) (k : Nat) (x : Str) (n : Nat) (T : DTP) : Prop where
  ex : ∃ (f : Addr) (fd : FuncData) (ps : List Str), FnG P w K mg base k f fd ps (spD K n (pureT T)) ∧ mg x = some (.ref f) ∧ PySem.W.keepIn K (.ref f) = true ∧ Binds K fd ps []
  len : ∀ xs Q, T xs Q → xs.length = n
section
variable {X : Cx} {k j n : Nat} {x : Str} {p pos : Pos} {e : Expr} {es : List Expr} {T : DTP} {Tr : DTA}
theorem de_callG (c : ClG X.prog X.w X.K X.mg X.base k x n T) (hG : X.A.guards = some []) (hr : Room j X.A) (hkj : k ≤ j) (hg : Gl X x) (ha : DA X (e :: es) Tr)
    (hdb : (x == ("__debug__" : Str)) = false := by decide) (he : starEach (e :: es) X.env = (false, eval e X.env) :: starEach es X.env := by rfl) (hpl : (backTo pos (starEach es X.env)).any (·.1) = false := by rfl) :
    DE X (.Call (.Name x p) (e :: es) [] pos) (dCall T Tr) := by
  obtain ⟨f, fd, ps, F, hm, hk, hb⟩ := c.ex
  refine ⟨fun pins s σ H Q I h => ?_⟩
  obtain ⟨G, Fz, ρ, Qd, r, q, kk⟩ := h
  refine wpAny_Call_Name_kw (ld_glob I hg hm ?_ hdb)
  refine PySem.W.callWith_K (h₀ := X.base) I.ok.mod.kin hk (thn (ha.run pos pins s σ H (fun vs H1 => spD X.K n (pureT T) vs H1 Q default) I ⟨G, Fz, ρ, _, r, q, fun vs xs ρ1 F1 H1 e1 r1 d1 q1 => ?_⟩) fun us s1 ⟨vs, H1, I1, rv, q1⟩ => ⟨I1.kIn, ?_⟩) he hpl
  · refine ⟨by rw [dpa_len d1]; exact c.len _ _ q1, others F1 H1, F1, xs.map .d, _, r1.toData d1, ?_, fun v d F' H' e' h' dv qd => kk v d ρ1 F' H' (e1.trans e') (r1.fromCall e' h') dv qd⟩
    show pureT T (xs.map .d) _
    unfold pureT
    rw [allD_map]
    exact q1
  · have hl : us.length = ps.length := by rw [← rv.length]; exact F.len _ _ _ _ q1
    have hbb := hb s1 us I1.kIn (by rw [List.append_nil]; exact hl)
    rw [List.append_nil] at hbb
    refine wpAny_call (codeAny_mono (F.run X.A X.stack s1 H1 ⟨us, []⟩ us vs Q default (hr.mono hkj) hG I1.env0 hbb rv q1) fun r s' hq => ?_)
    match r, hq with
    | .error e, hq => exact hq.elim
    | .ok (.ret u), hq => exact I1.after hq
end

/-! ### repr of lists and tuples -/
def okShow (d : PyData) : Prop := (isTupB d = true ∨ ∃ xs, d = .list xs) ∧ d.showable = true ∧ d.hasDict = false ∧ d.depth ≤ 60 ∧ d.shown.length ≤ sizeLine
def rRepr (K : PySem.W.Frag) : List V → Hp → VK → Prop := fun vs H Q => ∃ v d, vs = [v] ∧ Dp K H v d ∧ okShow d ∧ Q (.str d.shown) H
section
variable {X : Cx}
theorem cr_repr (hG : X.A.guards = some []) (hu : X.A.units + 64 < cLine) : CallR X (.builtin "repr") (rRepr X.K) := by
  intro pins s σ H vs us Q I r h
  obtain ⟨v, d, rfl, hd, ⟨hk, hs, hn, hdp, hz⟩, q⟩ := h
  obtain ⟨u, rfl, ru⟩ : ∃ u, us = [u] ∧ RelV v u := by
    cases r with
    | cons r1 r2 => cases r2; exact ⟨_, rfl, r1⟩
  obtain ⟨as, rd⟩ := Dp.reads I d v u hd ru
  obtain ⟨a, rfl⟩ : ∃ a, v = .ref a := by
    cases hd with
    | lst _ _ => exact ⟨_, rfl⟩
    | tup _ _ => exact ⟨_, rfl⟩
    | non =>
      rcases hk with hk | ⟨xs, hk⟩
      · cases hk
      · cases hk
    | bl b =>
      rcases hk with hk | ⟨xs, hk⟩
      · cases hk
      · cases hk
    | int b =>
      rcases hk with hk | ⟨xs, hk⟩
      · cases hk
      · cases hk
    | str b =>
      rcases hk with hk | ⟨xs, hk⟩
      · cases hk
      · cases hk
  cases ru
  exact repr_of_reads' rd hs (fun z => by rw [hn] at z; cases z) hG (by omega) (fun _ _ e => e) (fun h' tk t' hk => ⟨.str _, H, I.kept hk, ⟨_, rfl⟩, q⟩) hz
end
def oRepr : List PyData → (PyData → Prop) → Prop := fun xs k => match xs with
  | [x] => okShow x ∧ k (.str x.shown)
  | _ => False
theorem od_repr {K : PySem.W.Frag} : CallD K (rRepr K) oRepr := by
  intro G F H σ ρ vs xs Q R r d q k
  unfold oRepr at q
  split at q
  · rename_i x
    cases d with
    | cons d1 d2 =>
      cases d2
      exact ⟨_, x, rfl, dp_mono r.fh _ _ d1, q.1, k _ _ F H (Same.refl _) r (.str _) q.2⟩
  · exact q.elim
end DL

namespace DL
open PySem PySem.Spec PyProof.Rows L2

/-! ### the head, for a law whose promise stands where no repr is under way -/
section
variable {P : Program} {w : World} {K : PySem.W.Frag} {mg mb : Str → Option Value} {k : Nat} {fa a : Addr} {fd : FuncData} {x : Str} {sp : Sp} {s₁ : Shared} {vs : List Value} {ns : List Int}
/-- what is tracked ahead of the law: the script's list, if it isn't the module's own -/
def scriptH (K : PySem.W.Frag) (a : Addr) (vs : List Value) (ns : List Int) : Hp := fun b => if b = a ∧ K.lookup a = none then some (.frz { cls := .type "list", data := .seq vs.toArray } (.lst (ns.map V.int))) else none
theorem scriptH_some {b : Addr} {u : HO} (h : scriptH K a vs ns b = some u) : b = a ∧ K.lookup a = none ∧ u = .frz { cls := .type "list", data := .seq vs.toArray } (.lst (ns.map V.int)) := by
  unfold scriptH at h
  split at h
  · rename_i q
    cases h
    exact ⟨q.1, q.2, rfl⟩
  · cases h
theorem law_callG (KX : K.In s₁.heap) (hns : s₁.heap.Ns mainGlobals mg) (hb : s₁.heap.Ns builtinsNs mb) (hbb : ∀ x : Str, x ≠ "__name__" → mb x = bootBuiltins x) (hlim : s₁.heap.NoLimit) (hg : s₁.gens = #[])
    (ha : s₁.heap.get? a = some { cls := .type "list", data := .seq vs.toArray }) (hi : IntsAre vs ns) (hl : ns.length ≤ sizeLine) (hr : Room k callerA)
    (F : ∀ base : Heap, K.In base → base.Ns mainGlobals mg → FnG P w K mg base k fa fd [x] sp) (hbind : ∀ (s : Shared) (u : Value), BindsTo s fd ⟨[u], []⟩ [(x, u)])
    (hsp : ∀ H : Hp, Only H → SqL K H a (ns.map V.int) → sp [.ref a] H (fun v _ => v = .bl true) fun _ _ _ => False) :
    codeAny (model P w) callerA (.call (.ref fa) ⟨[.ref a], []⟩) (fun r s' => r = .ok (.ret (.bool true)) ∧ OldK s₁.heap s'.heap ∧ s'.os = s₁.os ∧ AllBare s'.gens) s₁ := by
  have rv := vals_ints hi
  have hlen : (ns.map V.int).length ≤ sizeLine := by rw [List.length_map]; exact hl
  let H : Hp := scriptH K a vs ns
  have only : ∀ b u, H b = some u → b = a := fun b u e => (scriptH_some e).1
  have hO : Only H := fun b => by
    cases q : H b with
    | none => exact .inl rfl
    | some u => exact .inr ⟨_, _, by rw [(scriptH_some q).2.2]⟩
  have ok : HOk P w H s₁.heap := fun b u e => by
    obtain ⟨rfl, _, rfl⟩ := scriptH_some e
    exact ⟨ha, hlen, vs, _, rv, ha⟩
  have hS : SqL K H a (ns.map V.int) := by
    cases q : K.lookup a with
    | none => exact .inl (.inr ⟨{ cls := .type "list", data := .seq vs.toArray }, if_pos ⟨rfl, q⟩⟩)
    | some o =>
      have e := KX a o q
      rw [ha] at e
      cases e
      exact .inr ⟨_, vs.toArray, _, q, rfl, rfl, rfl, by rw [List.size_toArray, hi.length]; exact hl, by simpa using rv⟩
  have untracked : ∀ {b : Addr} {o : Obj}, s₁.heap.get? b = some o → (b = a → False) → (hidT s₁.heap H).get? b = some o := fun {b o} e hn => hidT_get e (by
    cases q : H b with
    | none => rfl
    | some u => exact (hn (only b u q)).elim)
  have nsK : ∀ {b : Addr} {m : Str → Option Value}, s₁.heap.Ns b m → (hidT s₁.heap H).Ns b m := fun {b m} ⟨o, es, ep, e, d, r⟩ => ⟨o, es, ep, untracked e (fun q => by
    subst q
    rw [ha] at e
    cases e
    have d' : Data.seq vs.toArray _ = Data.dict es ep := d
    cases d'), d, r⟩
  have inK : K.In (hidT s₁.heap H) := fun b o e => hidT_get (KX b o e) (by
    cases q : H b with
    | none => rfl
    | some u =>
      obtain ⟨rfl, hn, _⟩ := scriptH_some q
      rw [e] at hn; cases hn)
  obtain ⟨mc, c1, c2⟩ := hlim
  have e0 : Env0 P w K mg (hidT s₁.heap H) callerA [] s₁ H := ⟨rfl, ⟨inK, nsK hns, ⟨mb, nsK hb, hbb⟩, ⟨mc, nsK c1, c2⟩⟩, fun b o e => of_hidT e, Nat.le_of_eq (hidT_size _ _), trivial, fun b hb => absurd (show b ∈ ([] : List Addr) from hb) (by simp), ok, .of_eq hg⟩
  refine codeAny_mono ((F _ inK (nsK hns)).run callerA [] s₁ H ⟨[.ref a], []⟩ [.ref a] [.ref a] (fun v _ => v = .bl true) (fun _ _ _ => False) hr rfl e0 (hbind s₁ (.ref a)) (.cons rfl .nil) (hsp H hO hS)) fun r s' h => ?_
  match r, h with
  | .error e, h => exact h.elim
  | .ok (.ret u), ⟨v, H', os, bare, un, hok', r', q⟩ =>
    have q' : v = .bl true := q
    subst q'
    obtain rfl : u = Value.bool true := r'
    refine ⟨rfl, OldK.of_keep fun b o e => ?_, os, bare⟩
    cases q : H b with
    | none => exact un.keep b o e q (by intro z; exact absurd (show b ∈ ([] : List Addr) from z) (by simp)) (by simp)
    | some u =>
      obtain ⟨rfl, _, rfl⟩ := scriptH_some q
      obtain ⟨e2, _⟩ := hok' b _ (un.frzs b _ _ q)
      rw [ha] at e
      cases e
      exact e2
end
theorem walk_ofG {l : PySem.W.OpenLaw} {n k : Nat} {q : Program} {loose : List Str} {XP : (Str → Option Value) → Heap → Prop} {YP : World → Heap → Prop} {d : DefRec} {K : Params → PySem.W.Frag} {sp : World → Sp} {x : Str}
    (hn : l.most = some n) (hn2 : n ≤ sizeLine) (hdf : d.params.defaults = []) (hr : Room k callerA) (hY : ∀ (w : World) (h : Heap), YP w h → (K w.params).In h)
    (F : ∀ (w : World) (mg : Str → Option Value) (fa : Addr) (h : Heap), (K w.params).In h → h.Ns mainGlobals mg → mg d.name = some (.ref fa) →
      ∃ fd : FuncData, (∀ (s : Shared) (u : Value), BindsTo s fd ⟨[u], []⟩ [(x, u)]) ∧ ∀ base : Heap, (K w.params).In base → base.Ns mainGlobals mg → FnG l.prog w (K w.params) mg base k fa fd [x] (sp w))
    (hsp : ∀ (w : World) (H : Hp) (a : Addr) (ns : List Int), ns.length ≤ n → Only H → SqL (K w.params) H a (ns.map V.int) → sp w [.ref a] H (fun v _ => v = .bl true) fun _ _ _ => False) :
    PySem.W.WalkO q loose XP YP l.row.toRowW d [] (fun f vs => PySem.call f vs) := by
  refine Att.attach_call hn hdf fun w s₀ s₁ mg mb fa o pm cd doc a vs ns G Y ho hd hcd hmg hobj hints hlen hg => ?_
  obtain ⟨fd, hb, hF⟩ := F w mg fa _ (hY w _ Y) G.T.g hmg
  exact law_callG (hY w _ Y) G.T.g G.T.b G.T.builtins G.T.nolimit hg hobj hints (Nat.le_trans hlen hn2) hr hF hb fun H hO hS => hsp w H a ns hlen hO hS
/-- what a law promises: True at every script -/
def spLaw (K : PySem.W.Frag) : Sp := spD K 1 (fun as Q => ∃ ns : List Int, as = [.d (.list (ns.map .int))] ∧ ns.length ≤ 63 ∧ Q (.bool true))
theorem walk_law {l : PySem.W.OpenLaw} {k : Nat} {q : Program} {loose : List Str} {XP : (Str → Option Value) → Heap → Prop} {YP : World → Heap → Prop} {d : DefRec} {K : Params → PySem.W.Frag} {x : Str}
    (hn : l.most = some 63) (hdf : d.params.defaults = []) (hr : Room k callerA) (hY : ∀ (w : World) (h : Heap), YP w h → (K w.params).In h)
    (F : ∀ (w : World) (mg : Str → Option Value) (fa : Addr) (h : Heap), (K w.params).In h → h.Ns mainGlobals mg → mg d.name = some (.ref fa) →
      ∃ fd : FuncData, (∀ (s : Shared) (u : Value), BindsTo s fd ⟨[u], []⟩ [(x, u)]) ∧ ∀ base : Heap, (K w.params).In base → base.Ns mainGlobals mg → FnG l.prog w (K w.params) mg base k fa fd [x] (spLaw (K w.params))) :
    PySem.W.WalkO q loose XP YP l.row.toRowW d [] (fun f vs => PySem.call f vs) :=
  walk_ofG (sp := fun w => spLaw (K w.params)) hn (by decide) hdf hr hY F fun w H a ns hl _ hS => by
    refine ⟨rfl, fun _ => none, H, [.d (.list (ns.map .int))], fun d => d = .bool true, ?_, ⟨ns, rfl, hl, rfl⟩, fun v d F' H' _ _ hd e => ?_⟩
    · refine ⟨Same.refl _, (fun b o e => nomatch e), fun _ _ => rfl, rfl, fun i s e => ?_, List.nodup_nil, fun b hb => by cases hb⟩
      cases i with
      | zero =>
        have e' : Sl.d (.list (ns.map .int)) = s := by simpa using e
        subst e'
        exact ⟨.ref a, rfl, .lst hS (addr_tups.ints_dpa ns)⟩
      | succ i => simp at e
    · subst e
      cases hd
      rfl
end DL

namespace DL
open PySem PySem.Spec PyProof.Rows L2
section
variable {P : Program} {w : World} {K : PySem.W.Frag} {mg : Str → Option Value} {base : Heap}
/-- a def of the text behind the top, under its own name -/
structure Def (K : PySem.W.Frag) (mg : Str → Option Value) (x : Str) (st : Stmt) (ps : List Str) : Prop where
  ex : ∃ f fd, Fun K x x st f fd ∧ mg x = some (.ref f) ∧ Binds K fd ps []
theorem cl_of {x : Str} {st : Stmt} {N ps : List Str} {k n : Nat} {T : DTP} {TB : DTS} (D : Def K mg x st ps) (S : FnScope N ps (defScope st)) (hn : ps.length = n) (len : ∀ xs Q, T xs Q → xs.length = n)
    (hb : ∀ (f : Addr) (cdv : Value) (A : Around) (outer : List Env) (s : Shared) (H : Hp) (E : XK), Room k (A.deeper (envOfC x (defScope st) s.heap.objs.size f cdv)) →
      DSs (cxOf CX0 P w K mg base N x (defScope st) f cdv A outer s H E).nox (defBody st) TB)
    (hT : ∀ xs Q, T xs Q → TB { nx := fun _ => Q .none, rt := fun d _ => Q d } (xs.map .d ++ List.replicate (N.length - ps.length) .un)) : Cl P w K mg base (k + 1) x n T := by
  subst hn
  obtain ⟨f, fd, F, hm, hbi⟩ := D.ex
  refine ⟨⟨f, fd, ps, ok_def F S (hb f) (fun as Q _ h => ?_), hm, F.kp, hbi⟩, len⟩
  unfold pureT at h
  split at h
  · rename_i xs hxs
    rw [allD_inv hxs]
    exact hT xs Q h
  · exact h.elim
theorem clG_of {x : Str} {st : Stmt} {N ps : List Str} {k n : Nat} {T : DTP} {TB : DTS} (D : Def K mg x st ps) (S : FnScope N ps (defScope st)) (hn : ps.length = n) (len : ∀ xs Q, T xs Q → xs.length = n)
    (hb : ∀ (f : Addr) (cdv : Value) (A : Around) (outer : List Env) (s : Shared) (H : Hp) (E : XK), Room k (A.deeper (envOfC x (defScope st) s.heap.objs.size f cdv)) → A.guards = some [] →
      DSs (cxOf CX0 P w K mg base N x (defScope st) f cdv A outer s H E).nox (defBody st) TB)
    (hT : ∀ xs Q, T xs Q → TB { nx := fun _ => Q .none, rt := fun d _ => Q d } (xs.map .d ++ List.replicate (N.length - ps.length) .un)) : ClG P w K mg base (k + 1) x n T := by
  subst hn
  obtain ⟨f, fd, F, hm, hbi⟩ := D.ex
  refine ⟨⟨f, fd, ps, fnG_data F S (hb f) (fun as Q _ h => ?_), hm, F.kp, hbi⟩, len⟩
  unfold pureT at h
  split at h
  · rename_i xs hxs
    rw [allD_inv hxs]
    exact hT xs Q h
  · exact h.elim
theorem clB_of {x : Str} {st : Stmt} {N ps : List Str} {k n : Nat} {T : DTB} {TB : DTS} (D : Def K mg x st ps) (S : FnScope N ps (defScope st)) (hn : ps.length = n) (len : ∀ ob xs Q, T ob xs Q → xs.length + 1 = n)
    (hb : ∀ (f : Addr) (cdv : Value) (A : Around) (outer : List Env) (s : Shared) (H : Hp) (E : XK), Room k (A.deeper (envOfC x (defScope st) s.heap.objs.size f cdv)) →
      DSs (cxOf CX0 P w K mg base N x (defScope st) f cdv A outer s H E).nox (defBody st) TB)
    (hT : ∀ a ob xs Q, T ob xs Q → TB { nx := endB a (Q .none), rt := fun d => endB a (Q d) } (.o a ob :: List.map Sl.d xs ++ List.replicate (N.length - ps.length) .un)) : ClB P w K mg base (k + 1) x n T := by
  subst hn
  obtain ⟨f, fd, F, hm, hbi⟩ := D.ex
  exact ⟨⟨f, fd, ps, ok_bor F S (hb f) (fun a ob xs Q _ h => hT a ob xs Q h), hm, F.kp, hbi⟩, len⟩
/-! what comes back is a new object -/
abbrev DTO2 := List PyData → (Ob → Prop) → Prop
def spN (K : PySem.W.Frag) (n : Nat) (T : DTO2) : Sp := fun vs H Q _ => vs.length = n ∧ ∃ G F xs Qd, Rep K G F H (vs.map some) (List.map Sl.d xs) ∧ T xs Qd ∧
  ∀ p ob F' H', Same F F' → RepH K G F' H' [.o p ob] → Qd ob → Q (.ref p) H'
structure ClN (P : Program) (w : World) (K : PySem.W.Frag) (mg : Str → Option Value) (base : Heap) (k : Nat) (x : Str) (n : Nat) (T : DTO2) : Prop where
  ex : ∃ (f : Addr) (fd : FuncData) (ps : List Str), FnOk P w K mg base CX0 k f fd ps (spN K n T) ∧ mg x = some (.ref f) ∧ PySem.W.keepIn K (.ref f) = true ∧ Binds K fd ps []
  len : ∀ xs Q, T xs Q → xs.length = n
theorem Rep.last {G F H : Hp} {σ : L2.St} {ρ : List Sl} {p : Addr} {ob : Ob} (R : Rep K G F H (σ ++ [some (.ref p)]) (ρ ++ [.o p ob])) (hl : ρ.length = σ.length) : RepH K G F H [.o p ob] where
  fh := R.fh
  gh := R.gh
  fg := R.fg
  nd := by
    have := R.nd
    rw [feet_append] at this
    exact (List.nodup_append.mp this).2.1
  ap := fun a ha => R.ap a (by rw [feet_append]; exact List.mem_append_right _ ha)
  ob := fun a ob' h => by
    have h' := List.mem_singleton.mp h
    cases h'
    exact (R.sl _ _ (getElem?_app_last ρ _)).2
theorem clN_of {x : Str} {st : Stmt} {N ps : List Str} {k n : Nat} {T : DTO2} {TB : DTS} (D : Def K mg x st ps) (S : FnScope N ps (defScope st)) (hn : ps.length = n) (len : ∀ xs Q, T xs Q → xs.length = n)
    (hb : ∀ (f : Addr) (cdv : Value) (A : Around) (outer : List Env) (s : Shared) (H : Hp) (E : XK), Room k (A.deeper (envOfC x (defScope st) s.heap.objs.size f cdv)) →
      DSs (cxOf CX0 P w K mg base N x (defScope st) f cdv A outer s H E).nox (defBody st) TB)
    (hT : ∀ xs Q, T xs Q → TB { nx := fun _ => False, rt := fun _ _ => False, ro := fun ob _ => Q ob } (xs.map .d ++ List.replicate (N.length - ps.length) .un)) : ClN P w K mg base (k + 1) x n T := by
  subst hn
  obtain ⟨f, fd, F, hm, hbi⟩ := D.ex
  refine ⟨⟨f, fd, ps, ?_, hm, F.kp, hbi⟩, len⟩
  refine F.ok S (fun vs H Q E h => h.1) (fun cdv A outer s H vs Q E hr h => ?_)
  obtain ⟨hl, G, Fz, xs, Qd, r, q, kk⟩ := h
  refine ⟨_, hb f cdv A outer s H E hr, G, Fz, (List.map Sl.d xs) ++ List.replicate (N.length - ps.length) .un, _, ?_, hT xs Qd q, ⟨?_, ?_, ?_, ?_, ?_⟩⟩
  · unfold L2.start
    rw [hl]
    exact r.start _
  · intro σ ρ F' H' e r' h'
    exact h'.elim
  · intro v d σ ρ F' H' e r' dv h'
    exact h'.elim
  · intro σ ρ F' H' e r' h'
    exact h'.elim
  · intro σ ρ F' H' e r' h'
    exact h'.elim
  · intro p ob σ ρ F' H' e r' hl' h'
    exact kk p ob F' H' e (r'.last hl') h'
end
section
variable {X : Cx} {k j n : Nat} {x : Str} {p pos : Pos} {e : Expr} {es : List Expr} {T : DTO2} {Tr : DTA} {Tn : DTN}
def dRetO (Tn : DTN) : DTS := fun D ρ => Tn ρ D.ro
theorem ds_retO (he : DN X e Tn) : DS X (.Return (some e) pos) (dRetO Tn) := ps_imp (ps_ret he) fun E σ H q => by
  obtain ⟨G, F, ρ, D, r, q, l⟩ := q
  exact ⟨G, F, ρ, _, r, q, fun p ob ρ1 F1 H1 e1 r1 l1 q1 => l.ro p ob σ ρ1 F1 H1 e1 r1 l1 q1⟩
/-- a call's new object -/
def dnCall (T : DTO2) (Tr : DTA) : DTN := fun ρ Q => Tr ρ fun xs ρ1 => T xs fun ob => Q ob ρ1
theorem dn_call (c : ClN X.prog X.w X.K X.mg X.base k x n T) (hr : Room j X.A) (hkj : k ≤ j) (hg : Gl X x) (ha : DA X (e :: es) Tr)
    (hdb : (x == ("__debug__" : Str)) = false := by decide) (he : starEach (e :: es) X.env = (false, eval e X.env) :: starEach es X.env := by rfl) (hpl : (backTo pos (starEach es X.env)).any (·.1) = false := by rfl) :
    DN X (.Call (.Name x p) (e :: es) [] pos) (dnCall T Tr) := by
  obtain ⟨f, fd, ps, F, hm, hk, hb⟩ := c.ex
  refine pe_imp (pe_call F (hr.mono hkj) hg hm hk hb .nil pass0 ha hdb he hpl) fun σ H R q => ?_
  obtain ⟨G, F, ρ, Q, r, q, kk⟩ := q
  refine ⟨G, F, ρ, _, r, q, fun vs xs ρ1 F1 H1 e1 r1 d1 q1 => ?_⟩
  refine ⟨by rw [List.append_nil, dpa_len d1]; exact c.len _ _ q1, others F1 H1, F1, xs, _, by rw [List.append_nil]; exact r1.toData d1, q1, fun a ob F' H' e' h' qd => ?_⟩
  have r2 := r1.fromCall (as' := [.o a ob]) e' h'
  have far : ∀ b ∈ foot (.o a ob), b ∉ feet ρ1 := fun b hb hb2 => by
    have h1 := (h'.ap b (by rw [feet_one]; exact hb)).2
    obtain ⟨o, ho⟩ := r1.there hb2
    have h2 := (r1.ap b hb2).1
    have h4 : H1 b = none := by
      unfold others at h1
      rw [h2] at h1
      exact h1
    rw [ho] at h4; cases h4
  have r3 : Rep X.K G F' H' (σ ++ some (.ref a) :: []) (ρ1 ++ .o a ob :: []) := by
    have r2' : Rep X.K G F' H' (σ ++ []) (ρ1 ++ []) := by
      rw [List.append_nil, List.append_nil]
      exact r2
    refine r2'.insS r1.len ⟨rfl, h'.ob a ob (List.mem_cons_self ..)⟩ (by have := h'.nd; rw [feet_one] at this; exact this) (fun b hb hb2 => far b hb (by rw [List.append_nil] at hb2; exact hb2)) (fun b hb => ⟨(h'.ap b (by rw [feet_one]; exact hb)).1, ?_⟩)
    have h1 := (h'.ap b (by rw [feet_one]; exact hb)).2
    cases q : G b with
    | none => rfl
    | some o =>
      have h2 : F1 b = none := by
        cases z : F1 b with
        | none => rfl
        | some u =>
          have := r1.fg b (by rw [z]; simp)
          rw [q] at this; cases this
      have h4 : H1 b = none := by
        unfold others at h1
        rw [h2] at h1
        exact h1
      have h3 := r1.gh b o q
      rw [h4] at h3; cases h3
  exact kk a ob ρ1 F' H' (e1.trans e') r3 r1.len qd
/-- a local's own object moves on -/
def dnMove (i : Nat) : DTN := fun ρ Q => match ρ[i]? with
  | some (.o _ ob) => Q ob (ρ.set i .un)
  | _ => False
theorem dn_move {x : Str} {npos : Pos} (i : Nat) (h : PE X (.Name x npos) (tVar i)) : DN X (.Name x npos) (dnMove i) := pe_imp h fun σ H R q => by
  obtain ⟨G, F, ρ, Q, r, q, k⟩ := q
  unfold dnMove at q
  split at q
  · rename_i a ob e1
    obtain ⟨l1, ho⟩ := r.sl i _ e1
    have sub : (feet (ρ.set i .un)).Sublist (feet ρ) := feet_set_sub rfl
    have hi : i < ρ.length := (List.getElem?_eq_some_iff.mp e1).1
    have r1 : Rep X.K G F H (σ ++ []) (ρ.set i .un ++ []) := by
      rw [List.append_nil, List.append_nil]
      refine ⟨r.fh, r.gh, r.fg, by rw [List.length_set]; exact r.len, fun j t e => ?_, r.nd.sublist sub, fun b hb => r.ap b (sub.subset hb)⟩
      by_cases hj : j = i
      · subst hj
        rw [List.getElem?_set_self hi] at e
        cases e
        trivial
      · rw [List.getElem?_set_ne (Ne.symm hj)] at e
        exact r.sl j t e
    refine ⟨_, look_some l1, k a ob _ F H (Same.refl _) (r1.insS (by rw [List.length_set]; exact r.len) ⟨rfl, ho⟩ (foot_nodup r e1) (fun b hb hb2 => ?_) fun b hb => notTup_of_foot r e1 hb) (by rw [List.length_set]; exact r.len) q⟩
    rw [List.append_nil] at hb2
    obtain ⟨t, ht, hb3⟩ := List.mem_flatMap.mp hb2
    obtain ⟨j, hj⟩ := List.getElem?_of_mem ht
    by_cases hji : j = i
    · subst hji
      rw [List.getElem?_set_self hi] at hj
      cases hj
      cases hb3
    · rw [List.getElem?_set_ne (Ne.symm hji)] at hj
      exact feet_apart r.nd hji hj e1 hb3 hb
  · exact q.elim
end
end DL
namespace DL
open PySem PySem.Spec PyProof.Rows L2
theorem oEq_int (a b : Int) (k : PyData → Prop) : oEq (.int a) (.int b) k ↔ k (.bool (decide (a = b))) := by
  have e : PyData.eqv (.int a) (.int b) = decide (a = b) := PySem.W.Datum.eqv a b
  unfold oEq
  rw [e]
  exact ⟨fun h => h.2, fun h => ⟨⟨rfl, rfl⟩, h⟩⟩
theorem oNe_int (a b : Int) (k : PyData → Prop) : oNe (.int a) (.int b) k ↔ k (.bool (!decide (a = b))) := by
  have e : PyData.eqv (.int a) (.int b) = decide (a = b) := PySem.W.Datum.eqv a b
  unfold oNe
  rw [e]
  exact ⟨fun h => h.2, fun h => ⟨⟨rfl, rfl⟩, h⟩⟩
/-- built-in names that no module of the text shadows -/
structure Nb (mg : Str → Option Value) : Prop where
  isinstance_ : mg "isinstance" = none
  int_ : mg "int" = none
  bool_ : mg "bool" = none
  tuple_ : mg "tuple" = none
  str_ : mg "str" = none
  list_ : mg "list" = none
  len_ : mg "len" = none
  abs_ : mg "abs" = none
  sum_ : mg "sum" = none
  all_ : mg "all" = none
  any_ : mg "any" = none
  min_ : mg "min" = none
  max_ : mg "max" = none
  range_ : mg "range" = none
  zip_ : mg "zip" = none
  enumerate_ : mg "enumerate" = none
  sorted_ : mg "sorted" = none
  set_ : mg "set" = none
  repr_ : mg "repr" = none
end DL

namespace DL
open PySem PySem.Spec PyProof.Rows L2

/-! ### loops by invariants -/
theorem while_of {TC : DTT} {TB : DTS} {D : DEnds} (I : Nat → List Sl → Prop) (step : ∀ m ρ (N : List Sl → Prop), (∀ m' ρ', m' < m → I m' ρ' → N ρ') → I m ρ → TC ρ fun b ρ1 => IfD b (TB { nx := N, rt := D.rt, bk := D.nx, ct := N, ro := D.ro } ρ1) (D.nx ρ1)) {m : Nat} {ρ : List Sl} (h : I m ρ) : dWhile TC TB D ρ := by
  refine ⟨m + 1, ?_⟩
  have : ∀ n m ρ, m < n → I m ρ → whileN TC TB D n ρ := by
    intro n
    induction n with
    | zero => intro m ρ h; omega
    | succ n ih =>
      intro m ρ hm hI
      exact step m ρ _ (fun m' ρ' h1 h2 => ih m' ρ' (by omega) h2) hI
  exact this (m + 1) m ρ (Nat.lt_succ_self m) h
theorem for_of {α : Type} {enc : α → PyData} {TG : DTG} {TB : DTS} {D : DEnds} (I : List α → List Sl → Prop) (step : ∀ a r ρ (N : List Sl → Prop), (∀ ρ', I r ρ' → N ρ') → I (a :: r) ρ → TG (enc a) ρ fun ρ2 => TB { nx := N, rt := D.rt, bk := D.nx, ct := N, ro := D.ro } ρ2)
    (fin : ∀ ρ, I [] ρ → D.nx ρ) : ∀ {l : List α} {ρ : List Sl}, I l ρ → forD TG TB D (l.map enc) ρ
  | [], ρ, h => fin ρ h
  | a :: r, ρ, h => step a r ρ _ (fun ρ' h' => for_of I step fin h') h
theorem comp_of {α : Type} {enc : α → PyData} {vs : List Nat} {TG : DTG} {TT : DTT} {Te : DT} (I : List α → List PyData → List Sl → Prop)
    (step : ∀ a r acc ρ (kk : Option PyData → List Sl → Prop), I (a :: r) acc ρ → (∀ o ρ', I r (acc ++ o.toList) ρ' → kk o ρ') → clr ρ vs = true ∧ turnD vs TG TT Te ρ (enc a) kk) :
    ∀ {l : List α} {acc : List PyData} {ρ : List Sl} {k : List PyData → List Sl → Prop}, I l acc ρ → (∀ ys ρ, I [] (acc ++ ys) ρ → k ys ρ) → compD vs TG TT Te (l.map enc) ρ k
  | [], acc, ρ, k, h, fin => fin [] ρ (by rw [List.append_nil]; exact h)
  | a :: r, acc, ρ, k, h, fin => step a r acc ρ _ h fun o ρ' h' => comp_of I step h' fun ys ρ'' h'' => fin _ _ (by rw [← List.append_assoc]; exact h'')
/-- each turn gives f a and changes nothing -/
theorem comp_map {α : Type} {enc f : α → PyData} {vs : List Nat} {TG : DTG} {TT : DTT} {Te : DT} {ρ : List Sl} (hc : clr ρ vs = true) {k : List PyData → List Sl → Prop} : ∀ {l : List α}, (∀ a ∈ l, ∀ kk : Option PyData → List Sl → Prop, kk (some (f a)) ρ → turnD vs TG TT Te ρ (enc a) kk) →
    k (l.map f) ρ → compD vs TG TT Te (l.map enc) ρ k := by
  intro l
  induction l generalizing k with
  | nil => intro _ h; exact h
  | cons a r ih =>
    intro hs h
    exact ⟨hc, hs a (List.mem_cons_self ..) _ (ih (fun b hb => hs b (List.mem_cons_of_mem _ hb)) h)⟩
/-- .. or nothing -/
theorem comp_fm {α : Type} {enc : α → PyData} {g : α → Option PyData} {vs : List Nat} {TG : DTG} {TT : DTT} {Te : DT} {ρ : List Sl} (hc : clr ρ vs = true) {k : List PyData → List Sl → Prop} : ∀ {l : List α}, (∀ a ∈ l, ∀ kk : Option PyData → List Sl → Prop, kk (g a) ρ → turnD vs TG TT Te ρ (enc a) kk) →
    k (l.filterMap g) ρ → compD vs TG TT Te (l.map enc) ρ k := by
  intro l
  induction l generalizing k with
  | nil => intro _ h; exact h
  | cons a r ih =>
    intro hs h
    refine ⟨hc, hs a (List.mem_cons_self ..) _ (ih (fun b hb => hs b (List.mem_cons_of_mem _ hb)) ?_)⟩
    rw [List.filterMap_cons] at h
    cases q : g a with
    | none => rw [q] at h; exact h
    | some y => rw [q] at h; exact h
theorem comp_mapD {f : PyData → PyData} {vs : List Nat} {TG : DTG} {TT : DTT} {Te : DT} {ρ : List Sl} (hc : clr ρ vs = true) {k : List PyData → List Sl → Prop} {l : List PyData} (hs : ∀ a ∈ l, ∀ kk : Option PyData → List Sl → Prop, kk (some (f a)) ρ → turnD vs TG TT Te ρ a kk)
    (h : k (l.map f) ρ) : compD vs TG TT Te l ρ k := by
  have := comp_map (enc := fun x => x) (f := f) (l := l) hc (k := k) hs h
  rwa [List.map_id'] at this
section
variable {P : Program} {w : World} {K : PySem.W.Frag} {mg : Str → Option Value} {base : Heap}
theorem Cl.toV {k n : Nat} {x : Str} {T : DTP} (c : Cl P w K mg base k x n T) : ∃ f, mg x = some (.ref f) ∧ ClV P w K mg base k f n T := by
  obtain ⟨f, fd, ps, F, hm, hk, hb⟩ := c.ex
  exact ⟨f, hm, ⟨fd, ps, F, hk, hb⟩, c.len⟩
theorem clF_of {x : Str} {st : Stmt} {N ps : List Str} {k n : Nat} {T : DTF} {TB : DTS} (D : Def K mg x st ps) (S : FnScope N ps (defScope st)) (hn : ps.length = n) (len : ∀ xs Q, T xs Q → xs.length = n)
    (hb : ∀ (f : Addr) (cdv : Value) (A : Around) (outer : List Env) (s : Shared) (H : Hp) (E : XK), Room k (A.deeper (envOfC x (defScope st) s.heap.objs.size f cdv)) →
      DSs (cxOf CX0 P w K mg base N x (defScope st) f cdv A outer s H E).nox (defBody st) TB)
    (hT : ∀ ss Q, T ss Q → TB { nx := fun _ => Q .none, rt := fun d _ => Q d } (ss ++ List.replicate (N.length - ps.length) .un)) : ClF P w K mg base (k + 1) x n T := by
  subst hn
  obtain ⟨f, fd, F, hm, hbi⟩ := D.ex
  exact ⟨⟨f, fd, ps, ok_def F S (hb f) (fun as Q _ h => hT as Q h), hm, F.kp, hbi⟩, len⟩
end
/-- a test of one argument, where p holds -/
def ofP (f : PyData → Bool) (p : PyData → Prop) : DTP := fun xs Q => match xs with
  | [x] => p x ∧ Q (.bool (f x))
  | _ => False
theorem ofP_len {f : PyData → Bool} {p : PyData → Prop} : ∀ xs Q, ofP f p xs Q → xs.length = 1 := fun xs Q h => by
  unfold ofP at h
  split at h
  · rfl
  · exact h.elim
/-- a test of each of a tuple's items -/
def tupB (f : PyData → Bool) : PyData → Bool
  | .tuple xs => xs.all f
  | _ => false
def tupP (p : PyData → Prop) : PyData → Prop
  | .tuple xs => xs.length ≤ sizeLine ∧ ∀ x ∈ xs, p x
  | _ => True
def ofF (g : Addr) (f : PyData → Bool) (p : PyData → Prop) : DTF := fun ss Q => match ss with
  | [.d x, .raw v] => (v = .ref g ∧ tupP p x) ∧ Q (.bool (tupB f x))
  | _ => False
theorem ofF_len {g : Addr} {f : PyData → Bool} {p : PyData → Prop} : ∀ xs Q, ofF g f p xs Q → xs.length = 2 := fun xs Q h => by
  unfold ofF at h
  split at h
  · rfl
  · exact h.elim
theorem oBools_map {α : Type} (g : List Bool → Bool) (f : α → Bool) (xs : List α) (k : PyData → Prop) : oBools g [.list (xs.map fun x => .bool (f x))] k ↔ k (.bool (g (xs.map f))) := by
  have e : boolsD (xs.map fun x => PyData.bool (f x)) = some (xs.map f) := by
    have := bools_map (xs.map f)
    rwa [List.map_map] at this
  show (match boolsD (xs.map fun x => PyData.bool (f x)) with
    | some bs => k (.bool (g bs))
    | none => False) ↔ _
  rw [e]
theorem oSum_map {α : Type} (f : α → Int) (xs : List α) (k : PyData → Prop) : oSum [.list (xs.map fun x => .int (f x))] k ↔ k (.int (xs.map f).sum) := by
  have e : intsD (xs.map fun x => PyData.int (f x)) = some (xs.map f) := by
    have := ints_map (xs.map f)
    rwa [List.map_map] at this
  show (match intsD (xs.map fun x => PyData.int (f x)) with
    | some is => k (.int is.sum)
    | none => False) ↔ _
  rw [e]
theorem oSum_tup (xs : List Int) (k : PyData → Prop) : oSum [.tuple (xs.map .int)] k ↔ k (.int xs.sum) := by
  show (match intsD (xs.map PyData.int) with
    | some is => k (.int is.sum)
    | none => False) ↔ _
  rw [ints_map]
theorem oSum_lst (xs : List Int) (k : PyData → Prop) : oSum [.list (xs.map .int)] k ↔ k (.int xs.sum) := by
  show (match intsD (xs.map PyData.int) with
    | some is => k (.int is.sum)
    | none => False) ↔ _
  rw [ints_map]
theorem itemAt_nat {xs : List PyData} {i : Nat} {x : PyData} (h : xs[i]? = some x) (k : PyData → Prop) : DL.itemAt xs (i : Int) k ↔ k x := by
  have hl := (List.getElem?_eq_some_iff.mp h).1
  have e : ixN xs.length (i : Int) = some i := by
    unfold ixN
    rw [if_pos (by omega), if_pos (by omega), Int.toNat_natCast]
  constructor
  · rintro ⟨j, y, h1, h2, h3⟩
    rw [e] at h1
    cases h1
    rw [h] at h2
    cases h2
    exact h3
  · exact fun q => .mk i x e h q
theorem itemAt_int {xs : List PyData} {j : Int} {i : Nat} {x : PyData} (e : j = (i : Int)) (h : xs[i]? = some x) (k : PyData → Prop) : DL.itemAt xs j k ↔ k x := by
  subst e
  exact itemAt_nat h k
theorem itemAt0 (x : PyData) (r : List PyData) (k : PyData → Prop) : DL.itemAt (x :: r) 0 k ↔ k x := itemAt_nat (i := 0) rfl k
theorem itemAt1 (x y : PyData) (r : List PyData) (k : PyData → Prop) : DL.itemAt (x :: y :: r) 1 k ↔ k y := itemAt_nat (i := 1) rfl k
theorem itemAt2 (x y z : PyData) (r : List PyData) (k : PyData → Prop) : DL.itemAt (x :: y :: z :: r) 2 k ↔ k z := itemAt_nat (i := 2) rfl k
theorem itemAt3 (x y z u : PyData) (r : List PyData) (k : PyData → Prop) : DL.itemAt (x :: y :: z :: u :: r) 3 k ↔ k u := itemAt_nat (i := 3) rfl k
theorem itemAt_last {xs : List PyData} {x : PyData} (h : xs[xs.length - 1]? = some x) {k : PyData → Prop} (q : k x) : DL.itemAt xs (-1) k := by
  have hl := (List.getElem?_eq_some_iff.mp h).1
  refine .mk (xs.length - 1) x ?_ h q
  unfold ixN
  rw [if_neg (by omega), if_pos (by omega)]
  congr 1
  omega
/-- a place written -/
theorem setAt_nat {xs : List PyData} {i : Nat} {x : PyData} (h : i < xs.length) (k : List PyData → Prop) : setAt xs (i : Int) x k ↔ k (xs.set i x) := by
  have e : ixN xs.length (i : Int) = some i := by
    unfold ixN
    rw [if_pos (by omega), if_pos (by omega), Int.toNat_natCast]
  constructor
  · rintro ⟨j, h1, h3⟩
    rw [e] at h1
    cases h1
    exact h3
  · exact fun q => .mk i e q
theorem setAt0 (x y : PyData) (r : List PyData) (k : List PyData → Prop) : setAt (x :: r) 0 y k ↔ k (y :: r) := setAt_nat (i := 0) (by simp) k
theorem setAt1 (x y z : PyData) (r : List PyData) (k : List PyData → Prop) : setAt (x :: y :: r) 1 z k ↔ k (x :: z :: r) := setAt_nat (i := 1) (by simp) k
theorem setAt2 (x y z u : PyData) (r : List PyData) (k : List PyData → Prop) : setAt (x :: y :: z :: r) 2 u k ↔ k (x :: y :: u :: r) := setAt_nat (i := 2) (by simp) k
/-! ### one statement, then the rest: by what holds between -/
theorem seq_of {U V : DTS} {D : DEnds} {ρ : List Sl} (R : List Sl → Prop) (h1 : ∀ N : List Sl → Prop, (∀ ρ', R ρ' → N ρ') → U { D with nx := N } ρ) (h2 : ∀ ρ', R ρ' → V D ρ') : dSeq U V D ρ := h1 (V D) h2
theorem eqv_int (a b : Int) : PyData.eqv (.int a) (.int b) = decide (a = b) := PySem.W.Datum.eqv a b
theorem ifd_eqI {a b : Int} {A B : Prop} (h1 : a = b → A) (h2 : a ≠ b → B) : IfD (PyData.eqv (.int a) (.int b)) A B := by
  rw [eqv_int]
  exact IfD.by h1 h2
theorem sz0 : (0 ≤ sizeLine) ↔ True := ⟨fun _ => trivial, fun _ => by decide⟩
theorem sz1 : (1 ≤ sizeLine) ↔ True := ⟨fun _ => trivial, fun _ => by decide⟩
theorem sz2 : (2 ≤ sizeLine) ↔ True := ⟨fun _ => trivial, fun _ => by decide⟩
theorem sz3 : (3 ≤ sizeLine) ↔ True := ⟨fun _ => trivial, fun _ => by decide⟩
theorem sz4 : (4 ≤ sizeLine) ↔ True := ⟨fun _ => trivial, fun _ => by decide⟩
theorem sz5 : (5 ≤ sizeLine) ↔ True := ⟨fun _ => trivial, fun _ => by decide⟩
theorem sz6 : (6 ≤ sizeLine) ↔ True := ⟨fun _ => trivial, fun _ => by decide⟩
theorem sz7 : (7 ≤ sizeLine) ↔ True := ⟨fun _ => trivial, fun _ => by decide⟩
theorem sz8 : (8 ≤ sizeLine) ↔ True := ⟨fun _ => trivial, fun _ => by decide⟩
theorem sz9 : (9 ≤ sizeLine) ↔ True := ⟨fun _ => trivial, fun _ => by decide⟩
theorem sz10 : (10 ≤ sizeLine) ↔ True := ⟨fun _ => trivial, fun _ => by decide⟩
theorem sz11 : (11 ≤ sizeLine) ↔ True := ⟨fun _ => trivial, fun _ => by decide⟩
theorem sz12 : (12 ≤ sizeLine) ↔ True := ⟨fun _ => trivial, fun _ => by decide⟩
theorem sz13 : (13 ≤ sizeLine) ↔ True := ⟨fun _ => trivial, fun _ => by decide⟩
theorem sz14 : (14 ≤ sizeLine) ↔ True := ⟨fun _ => trivial, fun _ => by decide⟩
theorem sz15 : (15 ≤ sizeLine) ↔ True := ⟨fun _ => trivial, fun _ => by decide⟩
theorem noLsts_map {α : Type} (f : α → PyData) (h : ∀ a, noLst (f a) = true) : ∀ l : List α, noLsts (l.map f) = true
  | [] => rfl
  | a :: l => by
    rw [List.map_cons, noLsts, h a, noLsts_map f h l]
    rfl
theorem noLst_tup {α : Type} (f : α → PyData) (h : ∀ a, noLst (f a) = true) (l : List α) : noLst (.tuple (l.map f)) = true := noLsts_map f h l
theorem IfD.byN {p : Prop} [Decidable p] {A B : Prop} (h1 : ¬ p → A) (h2 : p → B) : IfD (!decide p) A B := by
  by_cases h : p
  · exact .f (by rw [decide_eq_true h]; rfl) (h2 h)
  · exact .t (by rw [decide_eq_false h]; rfl) (h1 h)
theorem best_room {A : Around} {k d : Nat} (hr : Room k A) (h : d ≤ 60) : A.units + 1 + d < cLine := by
  have := hr.units
  omega
/-! ### cuts -/
theorem cut_map {α β : Type} (f : α → β) (xs : List α) (lo hi : Option Int) : cut (xs.map f) lo hi = (cut xs lo hi).map f := by
  unfold cut
  rw [List.length_map, List.map_take, List.map_drop]
theorem cut_upto {α : Type} (xs : List α) (n : Nat) : cut xs none (some (n : Int)) = xs.take n := by
  unfold cut
  rw [HT.sIx_none, HT.sIx_nat, List.drop_zero, Nat.sub_zero]
  rw [List.take_eq_take_iff]
  omega
theorem cut_from {α : Type} (xs : List α) (n : Nat) : cut xs (some (n : Int)) none = xs.drop n := by
  unfold cut
  rw [HT.sIx_none, HT.sIx_nat, List.take_of_length_le (by rw [List.length_drop]; exact Nat.le_refl _)]
  rcases Nat.le_total n xs.length with h | h
  · rw [Nat.min_eq_left h]
  · rw [Nat.min_eq_right h, List.drop_length, List.drop_eq_nil_of_le h]
theorem cut_two {α : Type} (xs : List α) (m n : Nat) : cut xs (some (m : Int)) (some (n : Int)) = (xs.drop m).take (n - m) := by
  unfold cut
  rw [HT.sIx_nat, HT.sIx_nat]
  rcases Nat.le_total m xs.length with h | h
  · rw [Nat.min_eq_left h, List.take_eq_take_iff, List.length_drop]
    omega
  · rw [Nat.min_eq_right h, List.drop_length, List.drop_eq_nil_of_le h]
    simp
/-! ### typed rows -/
theorem pairD_map {α β : Type} (e1 : α → PyData) (e2 : β → PyData) : ∀ (xs : List α) (ys : List β), pairD (xs.map e1) (ys.map e2) = (xs.zip ys).map fun p => .tuple [e1 p.1, e2 p.2]
  | [], _ => rfl
  | _ :: _, [] => rfl
  | x :: xs, y :: ys => by
    have := pairD_map e1 e2 xs ys
    unfold pairD at this ⊢
    simp only [List.map_cons, List.zip_cons_cons, this]
theorem tripD_map {α β γ : Type} (e1 : α → PyData) (e2 : β → PyData) (e3 : γ → PyData) : ∀ (xs : List α) (ys : List β) (zs : List γ), tripD (xs.map e1) (ys.map e2) (zs.map e3) = (xs.zip (ys.zip zs)).map fun p => .tuple [e1 p.1, e2 p.2.1, e3 p.2.2]
  | [], _, _ => by simp [tripD]
  | _ :: _, [], _ => by simp [tripD]
  | _ :: _, _ :: _, [] => by simp [tripD]
  | x :: xs, y :: ys, z :: zs => by
    have := tripD_map e1 e2 e3 xs ys zs
    unfold tripD at this ⊢
    simp only [List.map_cons, List.zip_cons_cons, this]
end DL

namespace DL
open PySem PySem.Spec PyProof.Rows L2

/-! ### == of texts -/
def oEqS (x y : PyData) (k : PyData → Prop) : Prop := match x, y with
  | .str a, .str b => k (.bool (decide (a = b)))
  | _, _ => False
theorem od_eqS {K : PySem.W.Frag} : OpD K rEq oEqS := by
  intro G F H σ ρ v u x y Q R r dv du q k
  unfold oEqS at q
  split at q
  · rename_i a b
    cases dv
    cases du
    refine ⟨rfl, k _ _ F H (Same.refl _) r ?_ q⟩
    have e : decide (V.str a = V.str b) = decide (a = b) := decide_eq_decide.mpr ⟨fun h => by injection h, fun h => by rw [h]⟩
    rw [e]
    exact .bl _
  · exact q.elim
/-! ### fractions as data -/
def fr (q : Rat) : PyData := .tuple [.int q.num, .int (q.den : Int)]
/-- of a size that the model multiplies -/
def sm (q : Rat) : Prop := q.num.natAbs < 2 ^ 100 ∧ q.den < 2 ^ 100
theorem sm_mul {a b : Rat} (ha : sm a) (hb : sm b) : CMulW a.num (b.den : Int) := wide_mul (a := 100) (b := 100) ha.1 (by simpa using hb.2) (by decide) (by decide) (by decide)
theorem sm_mulN {a b : Rat} (ha : sm a) (hb : sm b) : CMulW a.num b.num := wide_mul (a := 100) (b := 100) ha.1 hb.1 (by decide) (by decide) (by decide)
theorem sm_mulD {a b : Rat} (ha : sm a) (hb : sm b) : CMulW (a.den : Int) (b.den : Int) := wide_mul (a := 100) (b := 100) (by simpa using ha.2) (by simpa using hb.2) (by decide) (by decide) (by decide)
theorem absI (i : Int) : (if i < 0 then -i else i) = (i.natAbs : Int) := by
  split <;> omega
/-- num and den of a quotient -/
theorem mk_num {a : Int} {d : Nat} (hd : d ≠ 0) : (mkRat a d).num = a / ((Int.gcd a (d : Int) : Nat) : Int) ∧ ((mkRat a d).den : Int) = (d : Int) / ((Int.gcd a (d : Int) : Nat) : Int) := by
  rw [Rat.mkRat_def, dif_neg hd, Rat.normalize_eq]
  have e : Int.gcd a (d : Int) = a.natAbs.gcd d := rfl
  rw [e]
  exact ⟨rfl, by simp⟩
theorem fr_mk {a : Int} {d : Nat} (hd : d ≠ 0) : fr (mkRat a d) = .tuple [.int (a / ((Int.gcd a (d : Int) : Nat) : Int)), .int ((d : Int) / ((Int.gcd a (d : Int) : Nat) : Int))] := by
  obtain ⟨h1, h2⟩ := mk_num (a := a) hd
  unfold fr
  rw [h1, h2]
theorem fr_neg (q : Rat) : fr (-q) = .tuple [.int (0 - q.num), .int (q.den : Int)] := by
  unfold fr
  rw [Rat.neg_num, Rat.neg_den, Int.zero_sub]
theorem fr_int (n : Int) : fr (n : Rat) = .tuple [.int n, .int 1] := by
  unfold fr
  rw [Rat.num_intCast, Rat.den_intCast]
  rfl
theorem sm_neg {q : Rat} (h : sm q) : sm (-q) := by
  unfold sm
  rw [Rat.neg_num, Rat.neg_den, Int.natAbs_neg]
  exact h
theorem frs_shaped (l : List Rat) : ∀ x ∈ l.map fr, SeqAt.shaped x = true := by
  intro x hx
  obtain ⟨q, _, rfl⟩ := List.mem_map.mp hx
  rfl
theorem fr_lit {q : Rat} {a : Int} {b : Nat} (h : q.num = a ∧ q.den = b) : fr q = .tuple [.int a, .int (b : Int)] := by
  unfold fr
  rw [h.1, h.2]
theorem fr_eqv (p q : Rat) : PyData.eqv (fr p) (fr q) = decide (p = q) := by
  have e : fr p = PySem.W.Datum.toD (p.num, (p.den : Int)) := rfl
  have e2 : fr q = PySem.W.Datum.toD (q.num, (q.den : Int)) := rfl
  rw [e, e2, PySem.W.Datum.eqv]
  refine decide_eq_decide.mpr ⟨fun h => ?_, fun h => by rw [h]⟩
  have h1 : p.num = q.num := congrArg Prod.fst h
  have h2 : (p.den : Int) = (q.den : Int) := congrArg Prod.snd h
  exact Rat.ext h1 (by omega)
theorem fr_shaped (p : Rat) : SeqAt.shaped (fr p) = true := rfl
theorem ifd_eqF {p q : Rat} {A B : Prop} (h1 : p = q → A) (h2 : p ≠ q → B) : IfD (PyData.eqv (fr p) (fr q)) A B := by
  rw [fr_eqv]
  exact IfD.by h1 h2
/-! ### of the form n / 12 with |n| at most N: sums and whole multiples stay so -/
def tw (N : Nat) (q : Rat) : Prop := ∃ n : Int, q = (n : Rat) / 12 ∧ n.natAbs ≤ N
theorem tw_mono {N M : Nat} {q : Rat} (h : tw N q) (hm : N ≤ M) : tw M q := by
  obtain ⟨n, e, hn⟩ := h
  exact ⟨n, e, Nat.le_trans hn hm⟩
theorem tw_add {N M : Nat} {p q : Rat} (h : tw N p) (k : tw M q) : tw (N + M) (p + q) := by
  obtain ⟨n, rfl, hn⟩ := h
  obtain ⟨m, rfl, hm⟩ := k
  refine ⟨n + m, ?_, by omega⟩
  rw [Rat.intCast_add]
  grind
theorem tw_neg {N : Nat} {p : Rat} (h : tw N p) : tw N (-p) := by
  obtain ⟨n, rfl, hn⟩ := h
  refine ⟨-n, ?_, by omega⟩
  rw [Rat.intCast_neg]
  grind
theorem tw_sub {N M : Nat} {p q : Rat} (h : tw N p) (k : tw M q) : tw (N + M) (p - q) := by
  rw [Rat.sub_eq_add_neg]
  exact tw_add h (tw_neg k)
theorem tw_int {N : Nat} {n : Int} (h : n.natAbs ≤ N) : tw (12 * N) (n : Rat) := by
  refine ⟨12 * n, ?_, by omega⟩
  rw [Rat.intCast_mul]
  have : ((12 : Int) : Rat) = 12 := rfl
  rw [this]
  grind
theorem tw_mul {N M : Nat} {p : Rat} {k : Int} (h : tw N p) (hk : k.natAbs ≤ M) : tw (N * M) (p * (k : Rat)) := by
  obtain ⟨n, rfl, hn⟩ := h
  refine ⟨n * k, ?_, ?_⟩
  · rw [Rat.intCast_mul]
    grind
  · rw [Int.natAbs_mul]
    exact Nat.mul_le_mul hn hk
theorem tw_sm {N : Nat} {q : Rat} (h : tw N q) (hN : N < 2 ^ 100) : sm q := by
  obtain ⟨n, rfl, hn⟩ := h
  have e : (n : Rat) / 12 = mkRat n 12 := by
    rw [Rat.mkRat_eq_div]
    rfl
  rw [e]
  obtain ⟨h1, h2⟩ := mk_num (a := n) (d := 12) (by decide)
  have hg : 0 < Int.gcd n 12 := Int.gcd_pos_of_ne_zero_right _ (by decide)
  unfold sm
  constructor
  · rw [h1]
    have : (n / ((Int.gcd n ((12 : Nat) : Int) : Nat) : Int)).natAbs ≤ n.natAbs := by
      have hd : ((Int.gcd n ((12 : Nat) : Int) : Nat) : Int) ∣ n := Int.gcd_dvd_left ..
      rw [Int.natAbs_ediv_of_dvd hd]
      exact Nat.div_le_self _ _
    omega
  · have : ((mkRat n 12).den : Int) ≤ 12 := by
      rw [h2]
      exact Int.ediv_le_self _ (by decide)
    have h12 : (12 : Nat) < 2 ^ 100 := Nat.lt_of_lt_of_le (by decide : 12 < 2 ^ 4) (Nat.pow_le_pow_right (by decide) (by decide))
    omega
end DL

namespace DL
open PySem PySem.Spec PyProof.Rows L2
section
variable {P : Program} {w : World} {K : PySem.W.Frag} {mg : Str → Option Value} {base : Heap}
/-- a method of the class at C -/
structure DefM (K : PySem.W.Frag) (C : Addr) (m qual : Str) (st : Stmt) (ps : List Str) : Prop where
  ex : ∃ f fd, Fun K m qual st f fd ∧ Meth K C m f ∧ Binds K fd ps []
/-- a class that may be made by its name -/
structure DefI (K : PySem.W.Frag) (mg : Str → Option Value) (x : Str) (C : Addr) (qual : Str) (st : Stmt) (ps : List Str) : Prop where
  ex : ∃ f fd, Fun K "__init__" qual st f fd ∧ Mk K C f ∧ mg x = some (.ref C) ∧ Binds K fd ps []
theorem clM_of {C : Addr} {m qual : Str} {st : Stmt} {N ps : List Str} {k n : Nat} {T : DTB} {TB : DTS} (D : DefM K C m qual st ps) (S : FnScope N ps (defScope st)) (hn : ps.length = n) (len : ∀ ob xs Q, T ob xs Q → xs.length + 1 = n)
    (hb : ∀ (f : Addr) (cdv : Value) (A : Around) (outer : List Env) (s : Shared) (H : Hp) (E : XK), Room k (A.deeper (envOfC qual (defScope st) s.heap.objs.size f cdv)) →
      DSs (cxOf CX0 P w K mg base N qual (defScope st) f cdv A outer s H E).nox (defBody st) TB)
    (hT : ∀ a ob xs Q, T ob xs Q → TB { nx := endB a (Q .none), rt := fun d => endB a (Q d) } (.o a ob :: List.map Sl.d xs ++ List.replicate (N.length - ps.length) .un)) : ClM P w K mg base (k + 1) C m n T := by
  subst hn
  obtain ⟨f, fd, F, hm, hbi⟩ := D.ex
  exact ⟨⟨f, fd, ps, ok_bor F S (hb f) (fun a ob xs Q _ h => hT a ob xs Q h), hm, hbi⟩, len⟩
theorem clI_of {C : Addr} {x qual : Str} {st : Stmt} {N ps : List Str} {k n : Nat} {T : DTB} {TB : DTS} (D : DefI K mg x C qual st ps) (S : FnScope N ps (defScope st)) (hn : ps.length = n) (len : ∀ ob xs Q, T ob xs Q → xs.length + 1 = n)
    (hb : ∀ (f : Addr) (cdv : Value) (A : Around) (outer : List Env) (s : Shared) (H : Hp) (E : XK), Room k (A.deeper (envOfC qual (defScope st) s.heap.objs.size f cdv)) →
      DSs (cxOf CX0 P w K mg base N qual (defScope st) f cdv A outer s H E).nox (defBody st) TB)
    (hT : ∀ a ob xs Q, T ob xs Q → TB { nx := endB a (Q .none), rt := fun d => endB a (Q d) } (.o a ob :: List.map Sl.d xs ++ List.replicate (N.length - ps.length) .un)) : ClI P w K mg base (k + 1) x C n T := by
  subst hn
  obtain ⟨f, fd, F, hm, hg, hbi⟩ := D.ex
  exact ⟨⟨f, fd, ps, ok_bor F S (hb f) (fun a ob xs Q _ h => hT a ob xs Q h), hm, hg, hbi⟩, len⟩
end
end DL

namespace DL
open PySem PySem.Spec PyProof.Rows L2

/-! ### slots that are no more asked are forgotten -/
def keepS : List Bool → List Sl → List Sl
  | [], ρ => ρ
  | _ :: _, [] => []
  | true :: m, s :: ρ => s :: keepS m ρ
  | false :: m, _ :: ρ => .un :: keepS m ρ
theorem keepS_len : ∀ (m : List Bool) (ρ : List Sl), (keepS m ρ).length = ρ.length
  | [], _ => rfl
  | _ :: _, [] => rfl
  | true :: m, s :: ρ => by rw [keepS, List.length_cons, keepS_len m ρ, List.length_cons]
  | false :: m, s :: ρ => by rw [keepS, List.length_cons, keepS_len m ρ, List.length_cons]
theorem keepS_get : ∀ (m : List Bool) (ρ : List Sl) (i : Nat) (s : Sl), (keepS m ρ)[i]? = some s → s = .un ∨ ρ[i]? = some s
  | [], _, _, _, h => .inr h
  | _ :: _, [], _, _, h => by simp [keepS] at h
  | true :: m, t :: ρ, 0, s, h => .inr h
  | false :: m, t :: ρ, 0, s, h => by
    have : Sl.un = s := by simpa [keepS] using h
    exact .inl this.symm
  | true :: m, t :: ρ, i + 1, s, h => keepS_get m ρ i s (by simpa [keepS] using h)
  | false :: m, t :: ρ, i + 1, s, h => keepS_get m ρ i s (by simpa [keepS] using h)
theorem feet_keepS : ∀ (m : List Bool) (ρ : List Sl), (feet (keepS m ρ)).Sublist (feet ρ)
  | [], _ => List.Sublist.refl _
  | _ :: _, [] => List.Sublist.refl _
  | true :: m, s :: ρ => by
    rw [keepS, feet_cons, feet_cons]
    exact List.Sublist.append (List.Sublist.refl _) (feet_keepS m ρ)
  | false :: m, s :: ρ => by
    rw [keepS, feet_cons, feet_cons]
    exact List.Sublist.trans (feet_keepS m ρ) (List.sublist_append_right _ _)
theorem Rep.keep {K : PySem.W.Frag} {G F H : Hp} {σ : L2.St} {ρ : List Sl} (R : Rep K G F H σ ρ) (m : List Bool) : Rep K G F H σ (keepS m ρ) where
  fh := R.fh
  gh := R.gh
  fg := R.fg
  len := by rw [keepS_len]; exact R.len
  sl := fun i s h => by
    rcases keepS_get m ρ i s h with e | e
    · rw [e]; trivial
    · exact R.sl i s e
  nd := R.nd.sublist (feet_keepS m ρ)
  ap := fun a ha => R.ap a ((feet_keepS m ρ).subset ha)
def dKeep (m : List Bool) (T : DTS) : DTS := fun D ρ => T D (keepS m ρ)
theorem ds_keep {X : Cx} {st : Stmt} {T : DTS} (m : List Bool) (h : DS X st T) : DS X st (dKeep m T) := ps_imp h fun E σ H q => by
  obtain ⟨G, F, ρ, D, r, q, l⟩ := q
  exact ⟨G, F, keepS m ρ, D, r.keep m, q, l⟩
theorem dss_keep {X : Cx} {st : List Stmt} {T : DTS} (m : List Bool) (h : DSs X st T) : DSs X st (dKeep m T) := pss_imp h fun E σ H q => by
  obtain ⟨G, F, ρ, D, r, q, l⟩ := q
  exact ⟨G, F, keepS m ρ, D, r.keep m, q, l⟩
/-- a kept slot is written -/
theorem keep_set : ∀ {m : List Bool} {ρ : List Sl} {i : Nat} {s : Sl}, m[i]?.getD true = true → keepS m (ρ.set i s) = (keepS m ρ).set i s
  | [], _, _, _, _ => rfl
  | _ :: _, [], _, _, _ => rfl
  | true :: m, t :: ρ, 0, s, _ => rfl
  | false :: m, t :: ρ, 0, s, h => by simp at h
  | true :: m, t :: ρ, i + 1, s, h => by
    rw [List.set_cons_succ, keepS, keepS, List.set_cons_succ, keep_set (m := m) (by simpa using h)]
  | false :: m, t :: ρ, i + 1, s, h => by
    rw [List.set_cons_succ, keepS, keepS, List.set_cons_succ, keep_set (m := m) (by simpa using h)]
end DL

namespace DL
open PySem PySem.Spec PyProof.Rows L2

/-- a kept state, by what it is -/
theorem keep_of {m : List Bool} {T : DTS} {D : DEnds} {ρ ρ' : List Sl} (e : keepS m ρ = ρ') (h : T D ρ') : dKeep m T D ρ := by
  subst e
  exact h
theorem keep_set_f : ∀ {m : List Bool} {ρ : List Sl} {i : Nat} {s : Sl}, m[i]? = some false → keepS m (ρ.set i s) = keepS m ρ
  | [], _, _, _, h => by simp at h
  | _ :: _, [], _, _, _ => rfl
  | true :: m, t :: ρ, 0, s, h => by simp at h
  | false :: m, t :: ρ, 0, s, _ => rfl
  | true :: m, t :: ρ, i + 1, s, h => by
    rw [List.set_cons_succ, keepS, keepS, keep_set_f (m := m) (by simpa using h)]
  | false :: m, t :: ρ, i + 1, s, h => by
    rw [List.set_cons_succ, keepS, keepS, keep_set_f (m := m) (by simpa using h)]
/-- fewer are kept -/
def subM : List Bool → List Bool → Bool
  | _, [] => true
  | true :: m, true :: m1 => subM m m1
  | false :: m, _ :: m1 => subM m m1
  | _, _ => false
theorem keep_keep : ∀ {m m1 : List Bool} {ρ : List Sl}, subM m m1 = true → keepS m (keepS m1 ρ) = keepS m ρ
  | _, [], _, _ => rfl
  | [], _ :: _, _, h => by simp [subM] at h
  | m, _ :: _, [], _ => rfl
  | true :: m, true :: m1, s :: ρ, h => by rw [keepS, keepS, keepS, keep_keep (m := m) (m1 := m1) (by simpa [subM] using h)]
  | true :: m, false :: m1, s :: ρ, h => by simp [subM] at h
  | false :: m, true :: m1, s :: ρ, h => by rw [keepS, keepS, keepS, keep_keep (m := m) (m1 := m1) (by simpa [subM] using h)]
  | false :: m, false :: m1, s :: ρ, h => by rw [keepS, keepS, keepS, keep_keep (m := m) (m1 := m1) (by simpa [subM] using h)]
theorem keep_sub {m m1 : List Bool} {ρ X Y : List Sl} (h : subM m m1 = true) (e : keepS m1 ρ = X) (e2 : keepS m X = Y) : keepS m ρ = Y := by
  rw [← keep_keep h, e, e2]
theorem keep_set2 {m : List Bool} {ρ : List Sl} {i j : Nat} {s t : Sl} (h1 : m[i]?.getD true = true) (h2 : m[j]?.getD true = true) : keepS m ((ρ.set i s).set j t) = ((keepS m ρ).set i s).set j t := by
  rw [keep_set h2, keep_set h1]
theorem tg_tup2 {i j : Nat} {x y : PyData} {ρ : List Sl} {Q : List Sl → Prop} (h : Q ((ρ.set i (.d x)).set j (.d y))) : dgTup 2 (dgCons (dgName i) (dgCons (dgName j) dgNil)) (.tuple [x, y]) ρ Q := ⟨rfl, h⟩
/-! ### data of a known size: it can be shown and compared -/
structure SD (dp n : Nat) (d : PyData) : Prop where
  lay : d.canLay0 = true
  sh : d.showable = true
  lf : d.leavesShort 40 = true
  dep : d.depth ≤ dp
  wt : d.weight ≤ n
theorem SD.mono {dp n dp' n' : Nat} {d : PyData} (h : SD dp n d) (h1 : dp ≤ dp') (h2 : n ≤ n') : SD dp' n' d := ⟨h.lay, h.sh, h.lf, Nat.le_trans h.dep h1, Nat.le_trans h.wt h2⟩
theorem shown_int40 {i : Int} (h : i.natAbs < 2 ^ 120) : (PyData.shown (.int i)).length ≤ 40 := by
  have h2 : i.natAbs < 10 ^ 39 := Nat.lt_of_lt_of_le h (by decide)
  have e := int_text_length_le10 (k := 39) (by decide) h2
  show (Str.ofString (toString i)).length ≤ 40
  rw [PySem.ofString_length]
  exact e
theorem sd_int {i : Int} (h : i.natAbs < 2 ^ 120) : SD 0 121 (.int i) := by
  have hl : i.natAbs.log2 < 120 := by
    by_cases h0 : i.natAbs = 0
    · rw [h0]; decide
    · exact (Nat.log2_lt h0).mpr h
  refine ⟨rfl, ?_, ?_, ?_, ?_⟩
  · show decide (i.natAbs.log2 < 1920) = true
    exact decide_eq_true (by omega)
  · show decide ((PyData.shown (.int i)).length ≤ 40) = true
    exact decide_eq_true (shown_int40 h)
  · rw [PyData.depth]; exact Nat.le_refl _
  · rw [PyData.weight]
    split <;> omega
theorem sd_bool (b : Bool) : SD 0 0 (.bool b) := ⟨rfl, rfl, rfl, by rw [PyData.depth]; exact Nat.le_refl _, by rw [PyData.weight]; exact Nat.le_refl _⟩
theorem sd_none : SD 0 0 .none := ⟨rfl, rfl, rfl, by rw [PyData.depth]; exact Nat.le_refl _, by rw [PyData.weight]; exact Nat.le_refl _⟩
structure SDs (dp n m : Nat) (xs : List PyData) : Prop where
  lay : PyData.canLayAll0 xs = true
  sh : PyData.showableAll xs = true
  lf : PyData.leavesShortAll 40 xs = true
  dep : PyData.depthAll xs ≤ dp
  wt : PyData.weightAll xs ≤ m * (n + 1)
theorem sds_of {dp n : Nat} : ∀ {xs : List PyData} {m : Nat}, (∀ x ∈ xs, SD dp n x) → xs.length ≤ m → SDs dp n m xs
  | [], m, _, _ => ⟨rfl, rfl, rfl, Nat.zero_le _, Nat.zero_le _⟩
  | x :: xs, m, h, hl => by
    obtain ⟨k, rfl⟩ : ∃ k, m = k + 1 := ⟨m - 1, by rw [List.length_cons] at hl; omega⟩
    have h1 := h x (List.mem_cons_self ..)
    have h2 := sds_of (xs := xs) (m := k) (fun y hy => h y (List.mem_cons_of_mem _ hy)) (by rw [List.length_cons] at hl; omega)
    refine ⟨?_, ?_, ?_, ?_, ?_⟩
    · rw [PyData.canLayAll0, h1.lay, h2.lay]; rfl
    · rw [PyData.showableAll, h1.sh, h2.sh]; rfl
    · rw [PyData.leavesShortAll, h1.lf, h2.lf]; rfl
    · rw [PyData.depthAll]; exact Nat.max_le.mpr ⟨h1.dep, h2.dep⟩
    · rw [PyData.weightAll, Nat.add_mul]
      have a := h1.wt
      have b := h2.wt
      omega
theorem sd_tup {dp n : Nat} {xs : List PyData} (m : Nat) (h : ∀ x ∈ xs, SD dp n x) (hl : xs.length ≤ m) : SD (dp + 1) (m * (n + 1)) (.tuple xs) := by
  have s := sds_of h hl
  refine ⟨s.lay, s.sh, s.lf, ?_, s.wt⟩
  rw [PyData.depth]
  have := s.dep
  omega
theorem sd_lst {dp n : Nat} {xs : List PyData} (m : Nat) (h : ∀ x ∈ xs, SD dp n x) (hl : xs.length ≤ m) : SD (dp + 1) (m * (n + 1)) (.list xs) := by
  have s := sds_of h hl
  refine ⟨s.lay, s.sh, s.lf, ?_, s.wt⟩
  rw [PyData.depth]
  have := s.dep
  omega
theorem SD.shaped {dp n : Nat} {d : PyData} (h : SD dp n d) (h1 : dp ≤ 64) : SeqAt.shaped d = true := by
  unfold SeqAt.shaped
  rw [h.lay, decide_eq_true (Nat.le_trans h.dep h1)]
  rfl
theorem SD.refl {dp n : Nat} {d : PyData} (h : SD dp n d) : PyData.eqv d d = true := SeqAt.eqv_refl d h.lay
theorem SD.show {dp n : Nat} {d : PyData} (h : SD dp n d) (h1 : dp ≤ 60) (h2 : n ≤ 200000) (hk : isTupB d = true ∨ ∃ xs, d = .list xs) : okShow d := by
  refine ⟨hk, h.sh, PyData.hasDict_of_canLay d h.lay, Nat.le_trans h.dep h1, ?_⟩
  have a := PyData.shown_le 40 (by decide) d h.lf
  have b : (40 + 2) * d.weight ≤ 42 * 200000 := Nat.mul_le_mul (by decide) (Nat.le_trans h.wt h2)
  rw [sizeLine_eq]
  omega
theorem sd_fr {q : Rat} (h : sm q) : SD 1 244 (fr q) := by
  have := sd_tup (dp := 0) (n := 121) (xs := [.int q.num, .int (q.den : Int)]) 2 (fun x hx => by
    rcases List.mem_cons.mp hx with e | e
    · rw [e]; exact sd_int (Nat.lt_of_lt_of_le h.1 (by decide))
    · rw [List.mem_singleton.mp e]; exact sd_int (Nat.lt_of_lt_of_le (by simpa using h.2) (by decide))) (Nat.le_refl 2)
  exact this
end DL

namespace DL
open PySem PySem.Spec PyProof.Rows L2
/-! ### what the top has left, by name -/
section
variable {K : PySem.W.Frag} {mg : Str → Option Value} {h : Heap}
theorem def_mk {x : Str} {st : Stmt} {ps : List Str} {f : Addr} {oc kV doc pm cdv ct : Value} {od an : Option Addr} {osl : Array (Option Value)} (X : K.In h) (G : h.Ns mainGlobals mg)
    (a : PySem.W.nsIn K mainGlobals x = some (some (.ref f))) (l : K.lookup f = some ⟨oc, od, .func (PySem.W.fnOf x x (defArgs st) (defBody st) (defScope st) .none kV doc pm an cdv ct), osl⟩) (c : PySem.W.codeIn K cdv x = true) (k : PySem.W.keepIn K (.ref f) = true)
    (hb : ∀ (kV doc pm : Value) (an : Option Addr) (cdv ct : Value) (us : List Value), us.length = ps.length → bindArgs (PySem.W.fnOf x x (defArgs st) (defBody st) (defScope st) .none kV doc pm an cdv ct) ⟨us, []⟩ = pure (ps.zip us)) : Def K mg x st ps := by
  have F := fun_mk (st := st) l c k
  exact ⟨_, _, F, PySem.W.mg_of X G a, F.binds hb⟩
theorem defM_mk {m qual : Str} {C : Addr} {st : Stmt} {ps : List Str} {f : Addr} {oc kV doc pm cdv ct : Value} {od an : Option Addr} {osl : Array (Option Value)}
    (a : PySem.W.findIn K (.ref C) m = some (some (.ref f))) (i : PySem.W.isFn K (.ref f) = true) (l : K.lookup f = some ⟨oc, od, .func (PySem.W.fnOf m qual (defArgs st) (defBody st) (defScope st) .none kV doc pm an cdv ct), osl⟩) (c : PySem.W.codeIn K cdv qual = true) (k : PySem.W.keepIn K (.ref f) = true)
    (hb : ∀ (kV doc pm : Value) (an : Option Addr) (cdv ct : Value) (us : List Value), us.length = ps.length → bindArgs (PySem.W.fnOf m qual (defArgs st) (defBody st) (defScope st) .none kV doc pm an cdv ct) ⟨us, []⟩ = pure (ps.zip us)) : DefM K C m qual st ps := by
  have F := fun_mk (st := st) l c k
  exact ⟨_, _, F, ⟨a, i, k⟩, F.binds hb⟩
theorem defI_mk {x qual : Str} {C : Addr} {st : Stmt} {ps : List Str} {f : Addr} {oc kV doc pm cdv ct : Value} {od an : Option Addr} {osl : Array (Option Value)} (X : K.In h) (G : h.Ns mainGlobals mg)
    (aC : PySem.W.nsIn K mainGlobals x = some (some (.ref C))) (mk : PySem.W.makesIn K C = true) (kc : PySem.W.keepIn K (.ref C) = true)
    (a : PySem.W.findIn K (.ref C) "__init__" = some (some (.ref f))) (i : PySem.W.isFn K (.ref f) = true) (l : K.lookup f = some ⟨oc, od, .func (PySem.W.fnOf "__init__" qual (defArgs st) (defBody st) (defScope st) .none kV doc pm an cdv ct), osl⟩) (c : PySem.W.codeIn K cdv qual = true) (k : PySem.W.keepIn K (.ref f) = true)
    (hb : ∀ (kV doc pm : Value) (an : Option Addr) (cdv ct : Value) (us : List Value), us.length = ps.length → bindArgs (PySem.W.fnOf "__init__" qual (defArgs st) (defBody st) (defScope st) .none kV doc pm an cdv ct) ⟨us, []⟩ = pure (ps.zip us)) : DefI K mg x C qual st ps := by
  have F := fun_mk (st := st) l c k
  exact ⟨_, _, F, ⟨mk, a, i, kc⟩, PySem.W.mg_of X G aC, F.binds hb⟩
theorem kc_int {x : Str} {i : Int} {t : Tok} (X : K.In h) (G : h.Ns mainGlobals mg) (a : PySem.W.nsIn K mainGlobals x = some (some (.int i t))) : Kc K mg x (.int i) := ⟨.int i, .int i t, PySem.W.mg_of X G a, ⟨t, rfl⟩, fun _ => .int i⟩
theorem vals_pair (i j : Int) (t u : Tok) : Vals [V.int i, V.int j] [Value.int i t, Value.int j u] := .cons ⟨t, rfl⟩ (.cons ⟨u, rfl⟩ .nil)
theorem kc_pair {x : Str} {i j : Int} {t u : Tok} {b : Addr} {od : Option Addr} {n : Nat} {sl : Array (Option Value)} (X : K.In h) (G : h.Ns mainGlobals mg) (a : PySem.W.nsIn K mainGlobals x = some (some (.ref b)))
    (l : K.lookup b = some ⟨.type "tuple", od, .seq #[.int i t, .int j u] n, sl⟩) : Kc K mg x (.tuple [.int i, .int j]) :=
  ⟨.ref b, .ref b, PySem.W.mg_of X G a, rfl, fun _ => .tup (.inr ⟨_, #[.int i t, .int j u], n, l, rfl, rfl, by show 2 ≤ sizeLine; decide, vals_pair i j t u⟩) (.cons (.int i) (.cons (.int j) .nil))⟩
theorem none_mk {x : Str} (X : K.In h) (G : h.Ns mainGlobals mg) (z : PySem.W.nsIn K mainGlobals x = some none) : mg x = none := PySem.W.mg_none_of X G z
end
end DL

namespace DL
open PySem PySem.Spec PyProof.Rows L2
/-! ### fractions with a denominator that divides 55440, of an amount of at most N -/
def tv (N : Nat) (q : Rat) : Prop := ∃ n : Int, q = (n : Rat) / 55440 ∧ n.natAbs ≤ 55440 * N
theorem tv_mono {N M : Nat} {q : Rat} (h : tv N q) (hm : N ≤ M) : tv M q := by
  obtain ⟨n, e, hn⟩ := h
  exact ⟨n, e, by omega⟩
theorem tv_add {N M : Nat} {p q : Rat} (h : tv N p) (k : tv M q) : tv (N + M) (p + q) := by
  obtain ⟨n, rfl, hn⟩ := h
  obtain ⟨m, rfl, hm⟩ := k
  refine ⟨n + m, ?_, by omega⟩
  rw [Rat.intCast_add]
  grind
theorem tv_neg {N : Nat} {p : Rat} (h : tv N p) : tv N (-p) := by
  obtain ⟨n, rfl, hn⟩ := h
  refine ⟨-n, ?_, by omega⟩
  rw [Rat.intCast_neg]
  grind
theorem tv_sub {N M : Nat} {p q : Rat} (h : tv N p) (k : tv M q) : tv (N + M) (p - q) := by
  rw [Rat.sub_eq_add_neg]
  exact tv_add h (tv_neg k)
theorem tv_int {N : Nat} {n : Int} (h : n.natAbs ≤ N) : tv N (n : Rat) := by
  refine ⟨55440 * n, ?_, by omega⟩
  rw [Rat.intCast_mul]
  have : ((55440 : Int) : Rat) = 55440 := rfl
  rw [this]
  grind
theorem tv_zero (N : Nat) : tv N 0 := ⟨0, by grind, by omega⟩
theorem tv_one : tv 1 1 := ⟨55440, by grind, by decide⟩
theorem tv_mul {N M : Nat} {p : Rat} {k : Int} (h : tv N p) (hk : k.natAbs ≤ M) : tv (N * M) (p * (k : Rat)) := by
  obtain ⟨n, rfl, hn⟩ := h
  refine ⟨n * k, ?_, ?_⟩
  · rw [Rat.intCast_mul]
    grind
  · rw [Int.natAbs_mul, ← Nat.mul_assoc]
    exact Nat.mul_le_mul hn hk
theorem tv_div {N b : Nat} {a : Int} (hb : b ∣ 55440) (h0 : 0 < b) (h : a.natAbs ≤ N * b) : tv N ((a : Rat) / ((b : Int) : Rat)) := by
  obtain ⟨c, hc⟩ := hb
  refine ⟨a * c, ?_, ?_⟩
  · have e : (55440 : Rat) = ((b : Int) : Rat) * ((c : Int) : Rat) := by
      rw [← Rat.intCast_mul, ← Int.natCast_mul, ← hc]
      rfl
    have hb0 : ((b : Int) : Rat) ≠ 0 := fun z => by
      have : ((b : Int) : Rat) = ((0 : Int) : Rat) := z
      have := Rat.intCast_inj.mp this
      omega
    have hc0 : ((c : Int) : Rat) ≠ 0 := fun z => by
      have h1 : ((c : Int) : Rat) = ((0 : Int) : Rat) := z
      have := Rat.intCast_inj.mp h1
      have h2 : c = 0 := by omega
      rw [h2] at hc
      omega
    rw [e, Rat.intCast_mul]
    grind
  · rw [Int.natAbs_mul, Int.natAbs_natCast, hc]
    have := Nat.mul_le_mul_right c h
    calc a.natAbs * c ≤ N * b * c := this
      _ = b * c * N := by rw [Nat.mul_assoc, Nat.mul_comm]
theorem tv_sm {N : Nat} {q : Rat} (h : tv N q) (hN : N < 2 ^ 80) : sm q := by
  obtain ⟨n, rfl, hn⟩ := h
  have e : (n : Rat) / 55440 = mkRat n 55440 := by
    rw [Rat.mkRat_eq_div]
    rfl
  rw [e]
  obtain ⟨h1, h2⟩ := mk_num (a := n) (d := 55440) (by decide)
  have big : 55440 * 2 ^ 80 ≤ 2 ^ 100 := by decide
  unfold sm
  constructor
  · rw [h1]
    have : (n / ((Int.gcd n ((55440 : Nat) : Int) : Nat) : Int)).natAbs ≤ n.natAbs := by
      have hd : ((Int.gcd n ((55440 : Nat) : Int) : Nat) : Int) ∣ n := Int.gcd_dvd_left ..
      rw [Int.natAbs_ediv_of_dvd hd]
      exact Nat.div_le_self _ _
    omega
  · have : ((mkRat n 55440).den : Int) ≤ 55440 := by
      rw [h2]
      exact Int.ediv_le_self _ (by decide)
    have h12 : (55440 : Nat) < 2 ^ 100 := Nat.lt_of_lt_of_le (by decide : 55440 < 2 ^ 16) (Nat.pow_le_pow_right (by decide) (by decide))
    omega
theorem tv_le {N : Nat} {q : Rat} (h : tv N q) : q ≤ ((N : Int) : Rat) ∧ -((N : Int) : Rat) ≤ q := by
  obtain ⟨n, rfl, hn⟩ := h
  have h1 : ((n : Int) : Rat) ≤ ((55440 * (N : Int) : Int) : Rat) := Rat.intCast_le_intCast.mpr (by omega)
  have h2 : ((-(55440 * (N : Int)) : Int) : Rat) ≤ ((n : Int) : Rat) := Rat.intCast_le_intCast.mpr (by omega)
  rw [Rat.intCast_mul] at h1
  rw [Rat.intCast_neg, Rat.intCast_mul] at h2
  have e : ((55440 : Int) : Rat) = 55440 := rfl
  rw [e] at h1 h2
  constructor <;> grind
theorem tv_frac {N : Nat} {x : Rat} (h : tv N x) : tv 1 (x - (x.floor : Rat)) := by
  obtain ⟨k, e, hk⟩ := h
  have h1 := Rat.floor_le x
  have h2 := Rat.lt_floor_add_one x
  have cD : ((55440 : Int) : Rat) = 55440 := rfl
  have a1 : 55440 * x.floor ≤ k := by
    refine Rat.intCast_le_intCast.mp ?_
    rw [Rat.intCast_mul, cD]
    grind
  have a2 : k ≤ 55440 * x.floor + 55440 := by
    refine Rat.intCast_le_intCast.mp ?_
    rw [Rat.intCast_add] at h2
    rw [Rat.intCast_add, Rat.intCast_mul, cD]
    have : ((1 : Int) : Rat) = 1 := rfl
    rw [this] at h2
    grind
  refine ⟨k - 55440 * x.floor, ?_, by omega⟩
  rw [Rat.intCast_sub, Rat.intCast_mul, cD]
  grind
theorem tv_if {N : Nat} {x y : Rat} {c : Prop} [Decidable c] (h1 : tv N x) (h2 : tv N y) : tv N (if c then x else y) := by
  split
  · exact h1
  · exact h2
end DL

namespace DL
open PySem PySem.Spec PyProof.Rows L2
/-! ### rows, steps of loops -/
theorem range_cons {n t a : Nat} {rest : List Nat} (h : a :: rest = (List.range n).drop t) : a = t ∧ t < n ∧ rest = (List.range n).drop (t + 1) := by
  have ht : t < n := by
    rcases Nat.lt_or_ge t n with q | q
    · exact q
    · rw [List.drop_eq_nil_of_le (by rw [List.length_range]; exact q)] at h
      cases h
  rw [List.drop_eq_getElem_cons (by rw [List.length_range]; exact ht), List.getElem_range] at h
  injection h with h1 h2
  exact ⟨h1, ht, h2⟩
theorem range_nil {n t : Nat} (h : [] = (List.range n).drop t) : n ≤ t := by
  have := congrArg List.length h
  rw [List.length_drop, List.length_range] at this
  simp at this
  omega
/-- those below n with p, the last of them -/
theorem begs_last (p : Nat → Prop) [DecidablePred p] : ∀ n : Nat, ((List.range n).filter p = [] ∧ ∀ i, i < n → ¬ p i) ∨ ∃ l i, (List.range n).filter p = l ++ [i] ∧ i < n ∧ p i ∧ ∀ j, i < j → j < n → ¬ p j
  | 0 => .inl ⟨rfl, fun i hi => absurd hi (Nat.not_lt_zero i)⟩
  | n + 1 => by
    rw [List.range_succ, List.filter_append]
    by_cases q : p n
    · refine .inr ⟨(List.range n).filter p, n, ?_, Nat.lt_succ_self n, q, fun j h1 h2 => by omega⟩
      rw [List.filter_cons, if_pos (decide_eq_true q)]
      rfl
    · have e : List.filter (fun b => decide (p b)) [n] = [] := by
        rw [List.filter_cons, if_neg (by rw [decide_eq_true_iff]; exact q)]
        rfl
      rw [e, List.append_nil]
      rcases begs_last p n with ⟨h1, h2⟩ | ⟨l, i, h1, h2, h3, h4⟩
      · refine .inl ⟨h1, fun i hi => ?_⟩
        by_cases g : i = n
        · rw [g]; exact q
        · exact h2 i (by omega)
      · refine .inr ⟨l, i, h1, by omega, h3, fun j g1 g2 => ?_⟩
        by_cases g : j = n
        · rw [g]; exact q
        · exact h4 j g1 (by omega)
theorem fm_filter (p : Nat → Prop) [DecidablePred p] : ∀ l : List Nat, l.filterMap (fun i => if p i then some (PyData.int (0 + (i : Int))) else none) = ((l.filter p).map fun (n : Nat) => (n : Int)).map .int
  | [] => rfl
  | a :: l => by
    rw [List.filterMap_cons, List.filter_cons, fm_filter p l]
    by_cases h : p a
    · rw [if_pos h, if_pos (decide_eq_true h), Int.zero_add]
      rfl
    · rw [if_neg h, if_neg (by rw [decide_eq_true_iff]; exact h)]
theorem len_app1 {α : Type} (l : List α) (x : α) : (l ++ [x]).length = l.length + 1 := by rw [List.length_append, List.length_singleton]
theorem all_app1 {α : Type} {p : α → Prop} {l : List α} {x : α} (h : ∀ y ∈ l, p y) (hx : p x) : ∀ y ∈ l ++ [x], p y := fun y hy => by
  rcases List.mem_append.mp hy with q | q
  · exact h y q
  · rw [List.mem_singleton.mp q]; exact hx
theorem map_app1 {α β : Type} (f : α → β) (l : List α) (x : α) : l.map f ++ [f x] = (l ++ [x]).map f := by rw [List.map_append]; rfl
theorem range_szN {n : Nat} (h : n ≤ 1000) : ((List.range n).map fun (i : Nat) => PyData.int (0 + (i : Int))).length ≤ sizeLine := by
  rw [List.length_map, List.length_range]
  exact Nat.le_of_lt (small1000 h)
theorem zip_cons {α : Type} {L : List α} {t : Nat} {a : Nat × α} {rest : List (Nat × α)} (h : a :: rest = ((List.range' 0 L.length).zip L).drop t) : a.1 = t ∧ L[t]? = some a.2 ∧ rest = ((List.range' 0 L.length).zip L).drop (t + 1) := by
  have hl : t < ((List.range' 0 L.length).zip L).length := by
    rcases Nat.lt_or_ge t ((List.range' 0 L.length).zip L).length with q | q
    · exact q
    · rw [List.drop_eq_nil_of_le q] at h
      cases h
  have hl2 : t < L.length := by rw [List.length_zip, List.length_range'] at hl; omega
  rw [List.drop_eq_getElem_cons hl, List.getElem_zip, List.getElem_range'] at h
  injection h with h1 h2
  subst h1
  exact ⟨by show 0 + 1 * t = t; omega, List.getElem?_eq_getElem hl2, h2⟩
theorem fm_none {α β : Type} (l : List α) : (l.filterMap fun _ => (none : Option β)) = [] := by
  induction l with
  | nil => rfl
  | cons a l ih => rw [List.filterMap_cons, ih]
theorem max_le3 {x y z : Int} (h1 : x ≤ z) (h2 : y ≤ z) : ¬ z < (if y > x then y else x) := by split <;> omega
theorem tg_name {i : Nat} {x : PyData} {ρ : List Sl} {Q : List Sl → Prop} (h : Q (ρ.set i (.d x))) : dgName i x ρ Q := h
theorem alike_eq {dp n : Nat} {a b : PyData} (e : a = b) (h : SD dp n a) (h1 : dp ≤ 60) (h2 : n ≤ 200000) (hk : isTupB a = true ∨ ∃ xs, a = .list xs) : a = b ∧ okShow a ∧ SeqAt.shaped a = true ∧ PyData.eqv a a = true := ⟨e, h.show h1 h2 hk, h.shaped (by omega), h.refl⟩
theorem sd_pair {dp n : Nat} {a b : PyData} (h1 : SD dp n a) (h2 : SD dp n b) : SD (dp + 1) (2 * (n + 1)) (.list [a, b]) := sd_lst 2 (fun x hx => by
  rcases List.mem_cons.mp hx with e | e
  · rw [e]; exact h1
  · rw [List.mem_singleton.mp e]; exact h2) (Nat.le_refl 2)
theorem getD_nn {r : List Int} (h : ∀ x ∈ r, 0 ≤ x) (i : Nat) : 0 ≤ r.getD i 0 := by
  rw [List.getD_eq_getElem?_getD]
  cases q : r[i]? with
  | none => exact Int.le_refl _
  | some x => exact h x (List.mem_of_getElem? q)
end DL

namespace DL
open PySem PySem.Spec PyProof.Rows L2

/-! ### range with a step -/
def rangeC (lo c : Int) (n : Nat) : List PyData := (List.range n).map fun (i : Nat) => .int (lo + (i : Int) * c)
theorem it_rangeC {K : PySem.W.Frag} {F : Hp} {lo c : Int} {n : Nat} : ItOk K F (Itc lo c n) (rangeC lo c n) where
  go := fun i H e hi => by
    show i < n
    simpa [rangeC] using hi
  stop := fun H e => by
    show n ≤ _
    simp [rangeC]
  yld := fun i H x H' Fc z e1 e2 hz y => by
    obtain ⟨rfl, rfl⟩ := y
    have hz' : z = .int (lo + (i : Int) * c) := by
      unfold rangeC at hz
      rw [List.getElem?_map] at hz
      cases q : (List.range n)[i]? with
      | none => rw [q] at hz; cases hz
      | some j =>
        rw [q] at hz
        have hj : j = i := by
          have := (List.getElem?_eq_some_iff.mp q).2
          simpa using this.symm
        subst hj
        simpa using hz.symm
    subst hz'
    exact ⟨Fc, Same.refl _, e2, Same.refl _, fun a h n => absurd n h, .int _⟩
section
variable {X : Cx} {tg e e2 : Expr} {Ta Tb Tc : DT} {Tr : DTA} {p pos tpos : Pos}
def dRng3 (Tr : DTA) : DTA := fun ρ Q => Tr ρ fun xs ρ1 => match xs with
  | [.int i, .int j, .int c] => ∃ n, RgC i j c n ∧ Q (rangeC i c n) ρ1
  | _ => False
theorem di_range3 {a b c : Expr} (hg : Gl X "range") (hm : X.mg "range" = none) (ha : DA X [a, b, c] Tr) (hs : starEach [a, b, c] X.env = (false, eval a X.env) :: starEach [b, c] X.env := by rfl) (hpl : (backTo pos (starEach [b, c] X.env)).any (·.1) = false := by rfl) :
    DI X tg (.Call (.Name "range" p) [a, b, c] [] pos) (dRng3 Tr) :=
  pi_imp (pi_range3 hg hm ha hs hpl) fun σ H R q => by
    obtain ⟨G, F, ρ, Q, r, q, k⟩ := q
    refine ⟨G, F, ρ, _, r, q, fun vs xs ρ1 F1 H1 e1 r1 d1 q1 => ?_⟩
    split at q1
    · rename_i i j c
      cases d1 with
      | cons d1 d2 =>
        cases d2 with
        | cons d2 d3 =>
          cases d3 with
          | cons d3 d4 =>
            cases d4
            cases dp_int d1
            cases dp_int d2
            cases dp_int d3
            obtain ⟨n, hn, q1⟩ := q1
            exact ⟨i, j, c, n, rfl, hn, k _ ρ1 F1 H1 _ e1 r1 it_rangeC q1⟩
    · exact q1.elim
/-! ### a chain of two comparisons, as a test -/
theorem db_chain {a b c : Expr} {op op' : CmpOp} {r r' : R2} {o o' : PyData → PyData → (PyData → Prop) → Prop} (ho : OpR X (compareOp op) r) (od : OpD X.K r o) (ho' : OpR X (compareOp op') r') (od' : OpD X.K r' o') (ha : DE X a Ta) (hb : DE X b Tb) (hc : DE X c Tc)
    (hm : lastMarks [op, op'] [b, c] = false := by with_unfolding_all rfl) : DB X (.Compare a [op, op'] [b, c] pos) (dTst (dChain o o' Ta Tb Tc)) :=
  pt_imp (pt_chain ho ho' ha hb hc hm) fun σ H R q => cT_chain od od' (cB_tst q)
end

/-! ### o.f, o.g, .. = e, e', .. -/
def putFd (f : Str) (d : Fd) : List (Str × Fd) → List (Str × Fd)
  | [] => [(f, d)]
  | (g, e) :: r => if g = f then (g, d) :: r else (g, e) :: putFd f d r
def sFd : Sl → Option Fd
  | .d x => some (.d x)
  | .o p (.lst xs) => some (.own p xs)
  | _ => none
def putFds : List Str → List Sl → List (Str × Fd) → List (Str × Fd)
  | f :: ns, s :: ss, fs => match sFd s with
    | some d => putFds ns ss (putFd f d fs)
    | none => fs
  | _, _, fs => fs
def okFds : List Sl → Bool
  | [] => true
  | s :: ss => (sFd s).isSome && okFds ss
theorem putFd_len : ∀ (f : Str) (d : Fd) (fs : List (Str × Fd)), (putFd f d fs).length ≤ fs.length + 1
  | f, d, [] => by simp [putFd]
  | f, d, (g, e) :: r => by
    unfold putFd
    split
    · simp
    · have := putFd_len f d r
      simp only [List.length_cons]
      omega
theorem footF_put {f : Str} : ∀ {fs : List (Str × Fd)} {d : Fd}, (footF fs).Nodup → (∀ p xs, d = .own p xs → p ∉ footF fs) →
    (footF (putFd f d fs)).Nodup ∧ ∀ a ∈ footF (putFd f d fs), a ∈ footF fs ∨ ∃ xs, d = .own a xs
  | [], .d x, _, _ => ⟨List.nodup_nil, fun a ha => by cases ha⟩
  | [], .own p xs, _, _ => ⟨by simp [putFd, footF], fun a ha => by
    have : a = p := by simpa [putFd, footF] using ha
    subst this
    exact .inr ⟨xs, rfl⟩⟩
  | (g, .d y) :: r, d, nd, hd => by
    unfold putFd
    split
    · cases d with
      | d x => exact ⟨nd, fun a ha => .inl ha⟩
      | own p xs =>
        refine ⟨List.nodup_cons.mpr ⟨hd p xs rfl, nd⟩, fun a ha => ?_⟩
        rcases List.mem_cons.mp ha with e | e
        · subst e; exact .inr ⟨xs, rfl⟩
        · exact .inl e
    · exact footF_put (fs := r) nd hd
  | (g, .own b ys) :: r, d, nd, hd => by
    have nd' := List.nodup_cons.mp nd
    unfold putFd
    split
    · cases d with
      | d x => exact ⟨nd'.2, fun a ha => .inl (List.mem_cons_of_mem _ ha)⟩
      | own p xs =>
        refine ⟨List.nodup_cons.mpr ⟨fun h => hd p xs rfl (List.mem_cons_of_mem _ h), nd'.2⟩, fun a ha => ?_⟩
        rcases List.mem_cons.mp ha with e | e
        · subst e; exact .inr ⟨xs, rfl⟩
        · exact .inl (List.mem_cons_of_mem _ e)
    · obtain ⟨h1, h2⟩ := footF_put (f := f) (fs := r) (d := d) nd'.2 (fun p xs e h => hd p xs e (List.mem_cons_of_mem _ h))
      refine ⟨List.nodup_cons.mpr ⟨fun h => ?_, h1⟩, fun a ha => ?_⟩
      · rcases h2 b h with q | ⟨xs, q⟩
        · exact nd'.1 q
        · exact hd b xs q (List.mem_cons_self ..)
      · rcases List.mem_cons.mp ha with e | e
        · subst e; exact .inl (List.mem_cons_self ..)
        · rcases h2 a e with q | q
          · exact .inl (List.mem_cons_of_mem _ q)
          · exact .inr q
section
variable {K : PySem.W.Frag} {G F F' H H' : Hp} {σ σ2 : L2.St} {ρ ρ2 : List Sl}
/-- what stands in a field -/
def FdOk (K : PySem.W.Frag) (F H : Hp) (v : V) : Fd → Prop
  | .d x => Dp K F v x
  | .own p xs => v = .ref p ∧ ∃ us, H p = some (.lst us) ∧ DpAll K F us xs
theorem flds_put {f : Str} {v : V} {d : Fd} (hv : FdOk K F H v d) : ∀ {vfs : List (Str × V)} {fs : List (Str × Fd)}, Flds K F H vfs fs → Flds K F H (putF f v vfs) (putFd f d fs)
  | [], [], _ => by
    cases d with
    | d x => exact ⟨rfl, hv, trivial⟩
    | own p xs => exact ⟨rfl, hv.1, hv.2, trivial⟩
  | (n, w) :: r, (m, .d x) :: s, h => by
    obtain ⟨rfl, h2, h3⟩ := h
    show Flds K F H (if n = f then (n, v) :: r else (n, w) :: putF f v r) (if n = f then (n, d) :: s else (n, .d x) :: putFd f d s)
    by_cases q : n = f
    · rw [if_pos q, if_pos q]
      cases d with
      | d x => exact ⟨rfl, hv, h3⟩
      | own p xs => exact ⟨rfl, hv.1, hv.2, h3⟩
    · rw [if_neg q, if_neg q]
      exact ⟨rfl, h2, flds_put hv h3⟩
  | (n, w) :: r, (m, .own b xs) :: s, h => by
    obtain ⟨rfl, h2, h4, h3⟩ := h
    show Flds K F H (if n = f then (n, v) :: r else (n, w) :: putF f v r) (if n = f then (n, d) :: s else (n, .own b xs) :: putFd f d s)
    by_cases q : n = f
    · rw [if_pos q, if_pos q]
      cases d with
      | d x => exact ⟨rfl, hv, h3⟩
      | own p xs => exact ⟨rfl, hv.1, hv.2, h3⟩
    · rw [if_neg q, if_neg q]
      exact ⟨rfl, h2, h4, flds_put hv h3⟩
  | [], _ :: _, h => h.elim
  | _ :: _, [], h => by
    revert h
    simp [Flds]
theorem getElem?_app_at {α : Type} (a : List α) (x : α) (b : List α) : (a ++ x :: b)[a.length]? = some x := by
  rw [List.getElem?_append_right (Nat.le_refl _), Nat.sub_self]
  rfl
/-- a slot behind becomes a field of an own object -/
theorem Rep.putField {f : Str} {v : V} {s : Sl} {d : Fd} {i : Nat} {a C dx : Addr} {vfs : List (Str × V)} {fs : List (Str × Fd)} (R : Rep K G F H (σ ++ some v :: σ2) (ρ ++ s :: ρ2)) (hl : ρ.length = σ.length) (hs : sFd s = some d) (h : ρ[i]? = some (.o a (.ins C dx fs))) (hv : H a = some (.ins C dx vfs)) (hf : Flds K F H vfs fs) :
    Rep K G F (upd H a (.ins C dx (putF f v vfs))) (σ ++ σ2) (ρ.set i (.o a (.ins C dx (putFd f d fs))) ++ ρ2) ∧ Flds K F (upd H a (.ins C dx (putF f v vfs))) (putF f v vfs) (putFd f d fs) := by
  have hi : i < ρ.length := (List.getElem?_eq_some_iff.mp h).1
  have hx : (ρ ++ s :: ρ2)[i]? = some (.o a (.ins C dx fs)) := by rw [List.getElem?_append_left hi]; exact h
  have hat := R.sl _ _ (getElem?_app_at ρ s ρ2)
  have hlk : look (σ ++ some v :: σ2) ρ.length = some v := by
    rw [hl]
    exact look_of (getElem?_app_at σ _ σ2)
  rw [hlk] at hat
  have haf : a ∈ feet (ρ ++ s :: ρ2) := mem_feet hx (List.mem_cons_self ..)
  have ha := R.ap a haf
  have foot_s : ∀ b ∈ foot s, ∃ xs, d = .own b xs := fun b hb => by
    cases s with
    | un => cases hb
    | raw w => cases hb
    | fz w o => cases hb
    | d x => cases hb
    | o p ob =>
      cases ob with
      | lst xs =>
        have : b = p := by simpa [foot] using hb
        subst this
        cases hs
        exact ⟨xs, rfl⟩
      | ins _ _ _ => cases hs
      | rws _ => cases hs
      | dct _ => cases hs
  have foot_s' : ∀ p xs, d = .own p xs → p ∈ foot s := fun p xs e => by
    subst e
    cases s with
    | un => cases hs
    | raw w => cases hs
    | fz w o => cases hs
    | d x => cases hs
    | o q ob =>
      cases ob with
      | lst ys =>
        cases hs
        exact List.mem_cons_self ..
      | ins _ _ _ => cases hs
      | rws _ => cases hs
      | dct _ => cases hs
  have hsa : a ∉ foot s := fun q => feet_apart R.nd (i := i) (j := ρ.length) (by omega) hx (getElem?_app_at ρ s ρ2) (List.mem_cons_self ..) q
  have fd0 : FdOk K F H v d := by
    cases s with
    | un => cases hs
    | raw w => cases hs
    | fz w o => cases hs
    | d x =>
      cases hs
      obtain ⟨w, e1, e2⟩ := hat
      cases e1
      exact e2
    | o q ob =>
      cases ob with
      | lst ys =>
        cases hs
        obtain ⟨e1, us, e2, e3⟩ := hat
        injection e1 with e1
        exact ⟨e1, us, e2, e3⟩
      | ins _ _ _ => cases hs
      | rws _ => cases hs
      | dct _ => cases hs
  have nd0 : (foot (.o a (.ins C dx fs))).Nodup := foot_nodup R hx
  have nda := List.nodup_cons.mp nd0
  have far : ∀ b ∈ footF fs, b ≠ a := fun b hb q => nda.1 (q ▸ hb)
  have up : ∀ b, b ≠ a → upd H a (.ins C dx (putF f v vfs)) b = H b := fun b hb => upd_ne hb
  have hf1 : Flds K F (upd H a (.ins C dx (putF f v vfs))) vfs fs := flds_mono (Same.refl _) (fun b hb o ho => (up b (far b hb)).trans ho) hf
  have fd1 : FdOk K F (upd H a (.ins C dx (putF f v vfs))) v d := by
    cases d with
    | d x => exact fd0
    | own p xs =>
      obtain ⟨e1, us, e2, e3⟩ := fd0
      exact ⟨e1, us, (up p fun q => hsa (q ▸ foot_s' p xs rfl)).trans e2, e3⟩
  have hF2 := flds_put (f := f) fd1 hf1
  have disj : ∀ p xs, d = .own p xs → p ∉ footF fs := fun p xs e q => feet_apart R.nd (i := i) (j := ρ.length) (by omega) hx (getElem?_app_at ρ s ρ2) (List.mem_cons_of_mem _ q) (foot_s' p xs e)
  obtain ⟨nd1, mem1⟩ := footF_put (f := f) nda.2 disj
  have memN : ∀ b ∈ foot (.o a (.ins C dx (putFd f d fs))), b ∈ foot (.o a (.ins C dx fs)) ∨ b ∈ foot s := fun b hb => by
    rcases List.mem_cons.mp hb with e | e
    · exact .inl (e ▸ List.mem_cons_self ..)
    · rcases mem1 b e with q | ⟨xs, q⟩
      · exact .inl (List.mem_cons_of_mem _ q)
      · exact .inr (foot_s' b xs q)
  have ndN : (foot (.o a (.ins C dx (putFd f d fs)))).Nodup := by
    refine List.nodup_cons.mpr ⟨fun hb => ?_, nd1⟩
    rcases mem1 a hb with q | ⟨xs, q⟩
    · exact nda.1 q
    · exact hsa (foot_s' a xs q)
  obtain ⟨u, w, e1, e2, e3⟩ := set_split ρ i _ (.o a (.ins C dx (putFd f d fs))) h
  have eo : feet (ρ ++ s :: ρ2) = feet u ++ (foot (.o a (.ins C dx fs)) ++ feet w) ++ (foot s ++ feet ρ2) := by rw [feet_append, feet_cons, congrArg feet e1, feet_append, feet_cons]
  have en : feet (ρ.set i (.o a (.ins C dx (putFd f d fs))) ++ ρ2) = feet u ++ (foot (.o a (.ins C dx (putFd f d fs))) ++ feet w) ++ feet ρ2 := by rw [feet_append, e2, feet_append, feet_cons]
  have nd := R.nd
  rw [eo] at nd
  have memAll : ∀ b ∈ feet (ρ.set i (.o a (.ins C dx (putFd f d fs))) ++ ρ2), b ∈ feet (ρ ++ s :: ρ2) := fun b hb => by
    rw [en] at hb
    rw [eo]
    simp only [List.mem_append] at hb ⊢
    rcases hb with (hb | hb | hb) | hb
    · exact .inl (.inl hb)
    · rcases memN b hb with q | q
      · exact .inl (.inr (.inl q))
      · exact .inr (.inl q)
    · exact .inl (.inr (.inr hb))
    · exact .inr (.inr hb)
  refine ⟨⟨fun b o e => ?_, fun b o e => ?_, R.fg, ?_, fun j t e => ?_, ?_, fun b hb => R.ap b (memAll b hb)⟩, hF2⟩
  · rw [up b fun q => by rw [q, ha.1] at e; cases e]
    exact R.fh b o e
  · rw [up b fun q => by rw [q, ha.2] at e; cases e]
    exact R.gh b o e
  · have := R.len
    simp only [List.length_append, List.length_cons, List.length_set] at this ⊢
    omega
  · have other : ∀ {j' : Nat} {w : Option V}, (ρ ++ s :: ρ2)[j']? = some t → j' ≠ i → SlOk K F H w t → SlOk K F (upd H a (.ins C dx (putF f v vfs))) w t := fun {j' w} ht hj hk =>
      slOk_mono (Same.refl _) (fun b hb o ho => (up b fun q => feet_apart R.nd hj ht hx (q ▸ hb) (List.mem_cons_self ..)).trans ho) hk
    rcases Nat.lt_or_ge j ρ.length with q | q
    · rw [List.getElem?_append_left (by rw [List.length_set]; exact q)] at e
      rw [look_app_l (by omega)]
      have h0 : look (σ ++ some v :: σ2) j = look σ j := look_app_l (by omega)
      by_cases g : j = i
      · subst g
        rw [List.getElem?_set_self hi] at e
        cases e
        have h1 := R.sl j _ hx
        rw [h0] at h1
        exact ⟨h1.1, _, upd_same, hF2⟩
      · rw [List.getElem?_set_ne (Ne.symm g)] at e
        have ht : (ρ ++ s :: ρ2)[j]? = some t := by rw [List.getElem?_append_left q]; exact e
        have h1 := R.sl j t ht
        rw [h0] at h1
        exact other ht g h1
    · rw [List.getElem?_append_right (by rw [List.length_set]; exact q), List.length_set] at e
      have ht : (ρ ++ s :: ρ2)[j + 1]? = some t := by
        rw [List.getElem?_append_right (by omega)]
        have : j + 1 - ρ.length = (j - ρ.length) + 1 := by omega
        rw [this, List.getElem?_cons_succ]
        exact e
      have h1 := R.sl (j + 1) t ht
      have h0 : look (σ ++ some v :: σ2) (j + 1) = look (σ ++ σ2) j := by
        unfold look
        rw [List.getElem?_append_right (by omega), List.getElem?_append_right (by omega)]
        have : j + 1 - σ.length = (j - σ.length) + 1 := by omega
        rw [this, List.getElem?_cons_succ]
      rw [h0] at h1
      exact other ht (by omega) h1
  · rw [en]
    simp only [List.nodup_append, List.mem_append] at nd ⊢
    obtain ⟨⟨n1, ⟨n2, n3, n4⟩, n5⟩, ⟨n6, n7, n8⟩, n9⟩ := nd
    refine ⟨⟨n1, ⟨ndN, n3, fun x hx y hy => ?_⟩, fun x hx y hy => ?_⟩, n7, fun x hx y hy => ?_⟩
    · rcases memN x hx with q | q
      · exact n4 x q y hy
      · exact Ne.symm (n9 y (.inr (.inr hy)) x (.inl q))
    · rcases hy with hy | hy
      · rcases memN y hy with q | q
        · exact n5 x hx y (.inl q)
        · exact n9 x (.inl hx) y (.inl q)
      · exact n5 x hx y (.inr hy)
    · rcases hx with hx | hx | hx
      · exact n9 x (.inl hx) y (.inr hy)
      · rcases memN x hx with q | q
        · exact n9 x (.inr (.inl q)) y (.inr hy)
        · exact n8 x q y hy
      · exact n9 x (.inr (.inr hx)) y (.inr hy)
end
/-! the rule -/
section
variable {prog : Program} {w : World} {A : Around} {E : Value → Shared → Prop} {s : Shared} {env : Env}
theorem wpAny_assign_attr {o : Expr} {attr : Str} {pos : Pos} {u : Value} {Q : Unit → Shared → Prop} (h : wpAny (model prog w) A (eval o env) (fun ov s₂ => wpAny (model prog w) A (setAttr ov attr u) (fun _ => Q ()) E s₂) E s) : wpAny (model prog w) A (assign (.Attribute o attr pos) env u) Q E s := fun Γ p hΓ => by
  simp only [assign_Attribute, Sem.wp_bind', Sem.wp_holding, Sem.wp_cmd_standAt, Sem.wp_release, Sem.wp_pure']
  exact Sem.wp_mono _ Γ _ (fun ov _ s₂ h₂ => h₂ Γ _ hΓ) (fun _ _ _ h' => h') _ _ (h Γ _ hΓ)
end
def gFld (i : Nat) (C : Addr) (f : Str) : TG := fun v σ H Q => ∃ a dx vfs, σ[i]? = some (some (.ref a)) ∧ H a = some (.ins C dx vfs) ∧ vfs.length < 1000 ∧ Q σ (upd H a (.ins C dx (putF f v vfs)))
theorem pg_fld {X : Cx} {x f : Str} {npos pos : Pos} {C : Addr} (i : Nat) (hn : PE X (.Name x npos) (tVar i)) (c : Cls X.K C) (na : NoAttr X.K C f) : PG X (.Attribute (.Name x npos) f pos) (gFld i C f) := by
  refine ⟨fun pins s σ H v u Q I rv h => ?_⟩
  obtain ⟨a, dx, vfs, h1, h2, h3, q⟩ := h
  refine wpAny_assign_attr (thn (hn.run pins s σ H (fun y H1 => y = .ref a ∧ H1 = H) I ⟨.ref a, h1, rfl, rfl⟩) fun ov s1 ⟨y, H1, I1, ry, e1, e2⟩ => ?_)
  subst e1
  subst e2
  obtain rfl : ov = Value.ref a := ry
  exact setattr_ok I1 h2 c na h3 rv fun s2 I2 => ⟨σ, _, I2, q⟩
def gFlds (i : Nat) (C : Addr) : List Str → TGs
  | [] => gNil
  | f :: r => gCons (gFld i C f) (gFlds i C r)
end DL

namespace DL
open PySem PySem.Spec PyProof.Rows L2
theorem set_same {α : Type} : ∀ {l : List α} {i : Nat} {x : α}, l[i]? = some x → l.set i x = l
  | [], _, _, h => by simp at h
  | y :: l, 0, x, h => by
    have : y = x := by simpa using h
    rw [this]; rfl
  | y :: l, i + 1, x, h => by
    rw [List.set_cons_succ, set_same (l := l) (by simpa using h)]
theorem gFlds_run {K : PySem.W.Frag} {G F : Hp} {σ : L2.St} {i : Nat} {C a dx : Addr} {R : L2.St → Hp → Prop} : ∀ {ns : List Str} {vs : List V} {ss ρ : List Sl} {H : Hp} {fs : List (Str × Fd)}, Rep K G F H (σ ++ vs.map some) (ρ ++ ss) → ρ.length = σ.length → okFds ss = true → vs.length = ns.length → ρ[i]? = some (.o a (.ins C dx fs)) → fs.length + ns.length ≤ 1000 →
    (∀ H', Rep K G F H' σ (ρ.set i (.o a (.ins C dx (putFds ns ss fs)))) → R σ H') → gFlds i C ns vs σ H R
  | [], [], ss, ρ, H, fs, r, hl, _, _, hi, _, k => by
    have hss : ss = [] := by
      have := r.len
      simp only [List.length_append, List.map_nil, List.length_nil] at this
      exact List.length_eq_zero_iff.mp (by omega)
    subst hss
    rw [List.append_nil, List.map_nil, List.append_nil] at r
    refine ⟨rfl, k H ?_⟩
    show Rep K G F H σ (ρ.set i (.o a (.ins C dx fs)))
    rw [set_same hi]
    exact r
  | f :: ns, v :: vs, [], ρ, H, fs, r, hl, _, _, _, _, _ => by
    have := r.len
    simp only [List.length_append, List.map_cons, List.length_cons, List.length_nil, List.length_map] at this
    omega
  | f :: ns, v :: vs, s :: ss, ρ, H, fs, r, hl, hok, hv, hi, hz, k => by
    rw [okFds, Bool.and_eq_true] at hok
    obtain ⟨d, hd⟩ := Option.isSome_iff_exists.mp hok.1
    have hlt : i < ρ.length := (List.getElem?_eq_some_iff.mp hi).1
    have h0 := r.sl i (.o a (.ins C dx fs)) (by rw [List.getElem?_append_left hlt]; exact hi)
    rw [look_app_l (by omega)] at h0
    obtain ⟨h1, vfs, h2, h3⟩ := h0
    have hlen : vfs.length = fs.length := by
      have := congrArg List.length (flds_names h3)
      simpa using this
    rw [List.length_cons] at hz
    obtain ⟨r1, _⟩ := Rep.putField (f := f) (σ2 := vs.map some) (ρ2 := ss) r hl hd hi h2 h3
    refine ⟨v, vs, rfl, a, dx, vfs, look_some h1, h2, by omega, ?_⟩
    have hi' : (ρ.set i (.o a (.ins C dx (putFd f d fs))))[i]? = some (.o a (.ins C dx (putFd f d fs))) := List.getElem?_set_self hlt
    refine gFlds_run (ns := ns) r1 (by rw [List.length_set]; exact hl) hok.2 (by simpa using hv) hi' (by have := putFd_len f d fs; omega) (fun H' r' => k H' ?_)
    rw [List.set_set] at r'
    have e : putFds (f :: ns) (s :: ss) fs = putFds ns ss (putFd f d fs) := by
      rw [putFds, hd]
    rw [e]
    exact r'
  | [], _ :: _, _, _, _, _, _, _, _, hv, _, _, _ => by cases hv
  | _ :: _, [], _, _, _, _, _, _, _, hv, _, _, _ => by cases hv
section
variable {X : Cx} {es : List Expr} {pos : Pos} {U : DTM}
/-- o.f, o.g, .. = e, e', .. -/
theorem ds_parF {i : Nat} {C : Addr} {nm ns : List Str} {ts : List Expr} {kt k2 : Nat} {pt pt2 : Pos} (hc : X.calm = true) (hm : DM X es U) (hg : PGs X ts (gFlds i C ns)) (hl : es.length = ns.length)
    (hn : (assignEach ts X.env).length = ns.length := by rfl) (hst : (assignEach ts X.env).findIdx? (·.1) = none := by rfl)
    (hs : swapsWithSole [.Tuple ts kt pt] (.Tuple es k2 pt2) pos.line X.env = pure false := by rfl) (hw : swappedStores [.Tuple ts kt pt] (.Tuple es k2 pt2) X.env = pure none := by rfl)
    (h1 : (assignEach [.Tuple ts kt pt] X.env).map (·.2) = [assign (.Tuple ts kt pt) X.env] := by rfl) : DS X (.Assign [.Tuple ts kt pt] (.Tuple es k2 pt2) pos)
      (fun D ρ => U ρ fun ss ρ1 => (ss.length = ns.length ∧ ss.length ≤ sizeLine ∧ okFds ss = true) ∧ insAt ρ1 i C nm fun a dx fs => fs.length + ns.length ≤ 1000 ∧ D.nx (ρ1.set i (.o a (.ins C dx (putFds ns ss fs))))) :=
  ps_imp (ps_asg (pe_tup hm) (pg_tup hc hg hn hst) hs hw h1) fun E σ H q => by
    obtain ⟨G, F, ρ, D, r, q, l⟩ := q
    refine ⟨G, F, ρ, _, r, q, fun vs ss ρ1 F1 H1 e1 r1 l1 q1 => ?_⟩
    have hv : vs.length = ss.length := by
      have := r1.len
      simp only [List.length_append, List.length_map] at this
      omega
    obtain ⟨⟨q11, q12, q13⟩, q1⟩ := q1
    obtain ⟨a, dx, fs, g1, hnm, hz, q1⟩ := insAt_of q1
    refine ⟨by rw [hv]; exact q12, fun p hp => ⟨p, vs, rfl, SqT.of upd_same, hv.trans q11, ?_⟩⟩
    have r2 : Rep X.K G F1 (upd H1 p (.tup vs)) (σ ++ vs.map some) (ρ1 ++ ss) := r1.newOwn hp
    exact gFlds_run r2 l1 q13 (hv.trans q11) g1 hz fun H' r' => l.nx _ _ F1 H' e1 r' q1
end
/-! ### methods whose answer is a new object -/
abbrev DTBN := Ob → List PyData → (Ob → Ob → Prop) → Prop
def spMN (K : PySem.W.Frag) (n : Nat) (T : DTBN) : Sp := fun vs H Q _ => vs.length = n ∧ ∃ G F a ob xs Qd, Rep K G F H (vs.map some) (.o a ob :: List.map Sl.d xs) ∧ T ob xs Qd ∧
  ∀ p ob2 ob' F' H', Same F F' → RepH K G F' H' [.o a ob', .o p ob2] → Qd ob2 ob' → Q (.ref p) H'
structure ClMN (P : Program) (w : World) (K : PySem.W.Frag) (mg : Str → Option Value) (base : Heap) (k : Nat) (C : Addr) (m : Str) (n : Nat) (T : DTBN) : Prop where
  ex : ∃ (f : Addr) (fd : FuncData) (ps : List Str), FnOk P w K mg base CX0 k f fd ps (spMN K n T) ∧ Meth K C m f ∧ Binds K fd ps []
  len : ∀ ob xs Q, T ob xs Q → xs.length + 1 = n
theorem feet_two (s t : Sl) : feet [s, t] = foot s ++ foot t := by rw [feet_cons, feet_one]
theorem Rep.two {K : PySem.W.Frag} {G F H : Hp} {σ : L2.St} {rr : List Sl} {a p : Addr} {ob' ob2 : Ob} (R : Rep K G F H σ ((.o a ob' :: rr) ++ [.o p ob2])) : RepH K G F H [.o a ob', .o p ob2] where
  fh := R.fh
  gh := R.gh
  fg := R.fg
  nd := by
    refine R.nd.sublist ?_
    rw [feet_two, List.cons_append, feet_cons, feet_append, feet_one]
    exact List.Sublist.append (List.Sublist.refl _) (List.sublist_append_right _ _)
  ap := fun b hb => R.ap b (by
    rw [feet_cons, feet_one] at hb
    rw [List.cons_append, feet_cons, feet_append, feet_one]
    rcases List.mem_append.mp hb with q | q
    · exact List.mem_append_left _ q
    · exact List.mem_append_right _ (List.mem_append_right _ q))
  ob := fun b ob h => by
    have : Sl.o b ob ∈ (.o a ob' :: rr) ++ [.o p ob2] := by
      rcases List.mem_cons.mp h with e | e
      · rw [e]; exact List.mem_cons_self ..
      · rw [List.mem_singleton.mp e]; exact List.mem_append_right _ (List.mem_cons_self ..)
    obtain ⟨j, hj⟩ := List.getElem?_of_mem this
    exact (R.sl j _ hj).2
section
variable {P : Program} {w : World} {K : PySem.W.Frag} {mg : Str → Option Value} {base : Heap}
theorem clMN_of {C : Addr} {m qual : Str} {st : Stmt} {N ps : List Str} {k n : Nat} {T : DTBN} {TB : DTS} (D : DefM K C m qual st ps) (S : FnScope N ps (defScope st)) (hn : ps.length = n) (len : ∀ ob xs Q, T ob xs Q → xs.length + 1 = n)
    (hb : ∀ (f : Addr) (cdv : Value) (A : Around) (outer : List Env) (s : Shared) (H : Hp) (E : XK), Room k (A.deeper (envOfC qual (defScope st) s.heap.objs.size f cdv)) →
      DSs (cxOf CX0 P w K mg base N qual (defScope st) f cdv A outer s H E).nox (defBody st) TB)
    (hT : ∀ a ob xs Q, T ob xs Q → TB { nx := fun _ => False, rt := fun _ _ => False, ro := fun ob2 => endB a (Q ob2) } (.o a ob :: List.map Sl.d xs ++ List.replicate (N.length - ps.length) .un)) : ClMN P w K mg base (k + 1) C m n T := by
  subst hn
  obtain ⟨f, fd, F, hm, hbi⟩ := D.ex
  refine ⟨⟨f, fd, ps, ?_, hm, hbi⟩, len⟩
  refine F.ok S (fun vs H Q E h => h.1) (fun cdv A outer s H vs Q E hr h => ?_)
  obtain ⟨hl, G, Fz, a, ob, xs, Qd, r, q, kk⟩ := h
  refine ⟨_, hb f cdv A outer s H E hr, G, Fz, (.o a ob :: List.map Sl.d xs) ++ List.replicate (N.length - ps.length) .un, _, ?_, hT a ob xs Qd q, ⟨?_, ?_, ?_, ?_, ?_⟩⟩
  · unfold L2.start
    rw [hl]
    exact r.start _
  · intro σ ρ F' H' e r' h'
    exact h'.elim
  · intro v d σ ρ F' H' e r' dv h'
    exact h'.elim
  · intro σ ρ F' H' e r' h'
    exact h'.elim
  · intro σ ρ F' H' e r' h'
    exact h'.elim
  · intro p ob2 σ ρ F' H' e r' hl' h'
    obtain ⟨ob', rr, rfl, h2⟩ := endB_of h'
    exact kk p ob2 ob' F' H' e r'.two h2
end
section
variable {X : Cx} {k j n : Nat} {C : Addr} {nm : List Str} {y m : Str} {pos npos apos : Pos} {T : DTBN} {pl : Sem Bool}
def dMethN (i : Nat) (C : Addr) (nm : List Str) (T : DTBN) : DTN := fun ρ Q => insAt ρ i C nm fun _ _ _ => match ρ[i]? with
  | some (.o a ob) => T ob [] fun ob2 ob' => Q ob2 (ρ.set i (.o a ob'))
  | _ => False
theorem dn_meth0 (i : Nat) (c : Cls X.K C) (cm : ClMN X.prog X.w X.K X.mg X.base k C m n T) (hnm : fAt m nm = none) (hr : Room j X.A) (hkj : k ≤ j) (hn : PE X (.Name y npos) (tVar i))
    (ht : eval (.Call (.Attribute (.Name y npos) m apos) [] [] pos) X.env = (do
      let ov ← eval (.Name y npos) X.env
      standAt apos.atName
      let (f, first) ← holding [ov] (getMethod ov m pl)
      callWith pos f first (backTo pos (starEach [] X.env)) (backToKw pos (keywordEach [] X.env))) := by rfl) :
    DN X (.Call (.Attribute (.Name y npos) m apos) [] [] pos) (dMethN i C nm T) := by
  obtain ⟨f, fd, ps, F, hm, hb⟩ := cm.ex
  refine pe_imp (pe_meth0 hn c hm F (hr.mono hkj) hb .nil pass0 ht) fun σ H R q => ?_
  obtain ⟨G, F, ρ, Q, r, q, kk⟩ := q
  obtain ⟨a0, dx0, fs0, g0, hnm0, q⟩ := insAt_of q
  obtain ⟨l0, vfs0, h01, h02⟩ := r.sl i _ g0
  refine ⟨.ref a0, look_some l0, a0, dx0, vfs0, rfl, h01, lookup_off (by rw [flds_names h02, hnm0]; exact hnm), ?_⟩
  simp only [g0] at q
  have hi : i < ρ.length := (List.getElem?_eq_some_iff.mp g0).1
  refine ⟨by have := cm.len _ _ _ q; simpa using this, lent (foot (.o a0 (.ins C dx0 fs0))) F H, F, a0, _, [], _, by simpa using r.toBor g0 (vs := []) (xs := []) .nil, q, fun p ob2 ob' F' H' e' h' qd => ?_⟩
  have h1 : RepH X.K (lent (foot (.o a0 (.ins C dx0 fs0))) F H) F' H' [.o a0 ob'] := by
    refine ⟨h'.fh, h'.gh, h'.fg, h'.nd.sublist ?_, fun b hb => h'.ap b ?_, fun b ob h => h'.ob b ob ?_⟩
    · rw [feet_two, feet_one]
      exact List.sublist_append_left _ _
    · rw [feet_one] at hb
      rw [feet_cons]
      exact List.mem_append_left _ hb
    · rw [List.mem_singleton.mp h]
      exact List.mem_cons_self ..
  have r2 := r.fromBor g0 e' h1
  have nd2 := h'.nd
  rw [feet_cons, feet_one] at nd2
  have apP : ∀ b ∈ foot (.o p ob2), F' b = none ∧ lent (foot (.o a0 (.ins C dx0 fs0))) F H b = none := fun b hb => h'.ap b (by rw [feet_cons, feet_one]; exact List.mem_append_right _ hb)
  have hH : ∀ b ∈ foot (.o p ob2), F b = none → b ∉ foot (.o a0 (.ins C dx0 fs0)) → H b = none := fun b hb hF hn => by
    have := (apP b hb).2
    rw [lent_off hn hF] at this
    exact this
  have r3 : Rep X.K G F' H' (σ ++ some (.ref p) :: []) (ρ.set i (.o a0 ob') ++ .o p ob2 :: []) := by
    have r2' : Rep X.K G F' H' (σ ++ []) (ρ.set i (.o a0 ob') ++ []) := by
      rw [List.append_nil, List.append_nil]
      exact r2
    refine r2'.insS (by rw [List.length_set]; exact r.len) ⟨rfl, h'.ob p ob2 (List.mem_cons_of_mem _ (List.mem_cons_self ..))⟩ ((List.nodup_append.mp nd2).2.1) (fun b hb hb2 => ?_) (fun b hb => ⟨(apP b hb).1, ?_⟩)
    · rw [List.append_nil] at hb2
      obtain ⟨s, hs, hbs⟩ := List.mem_flatMap.mp hb2
      obtain ⟨j, hj⟩ := List.getElem?_of_mem hs
      by_cases q : j = i
      · subst q
        rw [List.getElem?_set_self hi] at hj
        cases hj
        exact (List.nodup_append.mp nd2).2.2 b hbs b hb rfl
      · rw [List.getElem?_set_ne (Ne.symm q)] at hj
        have hbf : b ∈ feet ρ := mem_feet hj hbs
        have hno : b ∉ foot (.o a0 (.ins C dx0 fs0)) := fun z => feet_apart r.nd q hj g0 hbs z
        have h4 := hH b hb (r.ap b hbf).1 hno
        obtain ⟨o, ho⟩ := r.there hbf
        rw [ho] at h4; cases h4
    · cases q : G b with
      | none => rfl
      | some o =>
        have hF : F b = none := by
          cases z : F b with
          | none => rfl
          | some u =>
            have := r.fg b (by rw [z]; simp)
            rw [q] at this; cases this
        have hno : b ∉ foot (.o a0 (.ins C dx0 fs0)) := fun z => by
          have := (r.ap b (mem_feet g0 z)).2
          rw [q] at this; cases this
        have h4 := hH b hb hF hno
        rw [r.gh b o q] at h4; cases h4
  exact kk p ob2 _ F' H' e' r3 (by rw [List.length_set]; exact r.len) qd
end
/-! ### a new list made by looking at own objects -/
def dnBor (Tn : DTN) : DTN := fun ρ Q => Tn (frzAll ρ) fun ob _ => match ob with
  | .lst xs => noLsts xs = true ∧ Q (.lst xs) ρ
  | _ => False
theorem dn_bor {X : Cx} {e : Expr} {Tn : DTN} (h : DN X e Tn) : DN X e (dnBor Tn) := pe_imp h fun σ H R q => by
  obtain ⟨G, F, ρ, Q, r, q, k⟩ := q
  refine ⟨G, _, _, _, r.lookAll, q, fun p ob ρ' F' H' e1 r1 l1 q1 => ?_⟩
  split at q1
  rotate_left
  · exact q1.elim
  rename_i xs
  have hd : ∀ b ∈ feet ρ, ∃ o, F' b = some o ∧ Held o := fun b hb => by
    obtain ⟨o, h1, h2⟩ := r.held hb
    exact ⟨o, e1 b o ((inF_at hb).trans h1), h2⟩
  obtain ⟨_, vs, hp, dp⟩ := r1.sl _ _ (getElem?_app_last ρ' _)
  have apP := r1.ap p (mem_feet (getElem?_app_last ρ' (Sl.o p (.lst xs))) (List.mem_cons_self ..))
  have r2 := r.lookEnd e1 (r1.drop l1)
  have hpf : p ∉ feet ρ := fun z => by
    obtain ⟨o, h1, _⟩ := hd p z
    rw [apP.1] at h1; cases h1
  have r3 : Rep X.K G (offF ρ F') H' (σ ++ some (.ref p) :: []) (ρ ++ .o p (.lst xs) :: []) := by
    have r2' : Rep X.K G (offF ρ F') H' (σ ++ []) (ρ ++ []) := by
      rw [List.append_nil, List.append_nil]
      exact r2
    refine r2'.insS r.len ⟨rfl, vs, hp, dpa_off hd xs vs q1.1 dp⟩ (by simp [foot]) (fun b hb hb2 => ?_) (fun b hb => ?_)
    · have e : b = p := by simpa [foot] using hb
      subst e
      rw [List.append_nil] at hb2
      exact hpf hb2
    · have e : b = p := by simpa [foot] using hb
      subst e
      exact ⟨(offF_off hpf).trans apP.1, apP.2⟩
  exact k p (.lst xs) ρ _ H' (r.offF_same e1) r3 r.len q1.2
theorem oBestI_lst (f : Int → List Int → Int) (x : Int) (xs : List Int) (k : PyData → Prop) : oBestI f [.list (.int x :: xs.map .int)] k ↔ k (.int (f x xs)) := by
  show (match intsD ((x :: xs).map PyData.int) with
    | some (x :: r) => k (.int (f x r))
    | _ => False) ↔ _
  rw [ints_map]
theorem oBestI_tup (f : Int → List Int → Int) (x : Int) (xs : List Int) (k : PyData → Prop) : oBestI f [.tuple (.int x :: xs.map .int)] k ↔ k (.int (f x xs)) := by
  show (match intsD ((x :: xs).map PyData.int) with
    | some (x :: r) => k (.int (f x r))
    | _ => False) ↔ _
  rw [ints_map]
end DL

namespace LW
open PySem PySem.Spec PyProof.Rows L2 DL
def topS (i : Nat) : Stmt := PySem.Challenge.pw_servedever_k46_whole_arrivals_put_togeth.main.body.getD i (.Pass ⟨0, 0, 0, 0⟩)
abbrev s__wall : Stmt := topS 0
theorem sc__wall : FnScope (["k"] : List Str) (["k"] : List Str) (defScope s__wall) := ⟨rfl, rfl, rfl, by decide +kernel, rfl, by decide +kernel, by decide +kernel⟩
abbrev s_is_number : Stmt := topS 7
theorem sc_is_number : FnScope (["thing"] : List Str) (["thing"] : List Str) (defScope s_is_number) := ⟨rfl, rfl, rfl, by decide +kernel, rfl, by decide +kernel, by decide +kernel⟩
abbrev s_is_index : Stmt := topS 8
theorem sc_is_index : FnScope (["thing"] : List Str) (["thing"] : List Str) (defScope s_is_index) := ⟨rfl, rfl, rfl, by decide +kernel, rfl, by decide +kernel, by decide +kernel⟩
abbrev s_is_sized : Stmt := topS 9
theorem sc_is_sized : FnScope (["thing", "many"] : List Str) (["thing", "many"] : List Str) (defScope s_is_sized) := ⟨rfl, rfl, rfl, by decide +kernel, rfl, by decide +kernel, by decide +kernel⟩
abbrev s_is_tuple_of : Stmt := topS 10
theorem sc_is_tuple_of : FnScope (["thing", "is_one", "one"] : List Str) (["thing", "is_one"] : List Str) (defScope s_is_tuple_of) := ⟨rfl, rfl, rfl, by decide +kernel, rfl, by decide +kernel, by decide +kernel⟩
abbrev s_common_divisor : Stmt := topS 11
theorem sc_common_divisor : FnScope (["one", "other"] : List Str) (["one", "other"] : List Str) (defScope s_common_divisor) := ⟨rfl, rfl, rfl, by decide +kernel, rfl, by decide +kernel, by decide +kernel⟩
abbrev s_is_fraction : Stmt := topS 12
theorem sc_is_fraction : FnScope (["thing"] : List Str) (["thing"] : List Str) (defScope s_is_fraction) := ⟨rfl, rfl, rfl, by decide +kernel, rfl, by decide +kernel, by decide +kernel⟩
abbrev s_is_indexes : Stmt := topS 13
theorem sc_is_indexes : FnScope (["thing"] : List Str) (["thing"] : List Str) (defScope s_is_indexes) := ⟨rfl, rfl, rfl, by decide +kernel, rfl, by decide +kernel, by decide +kernel⟩
abbrev s_is_rows : Stmt := topS 14
theorem sc_is_rows : FnScope (["thing"] : List Str) (["thing"] : List Str) (defScope s_is_rows) := ⟨rfl, rfl, rfl, by decide +kernel, rfl, by decide +kernel, by decide +kernel⟩
abbrev s_made : Stmt := topS 16
theorem sc_made : FnScope (["a", "b", "its"] : List Str) (["a", "b"] : List Str) (defScope s_made) := ⟨rfl, rfl, rfl, by decide +kernel, rfl, by decide +kernel, by decide +kernel⟩
abbrev s_whole : Stmt := topS 17
theorem sc_whole : FnScope (["n"] : List Str) (["n"] : List Str) (defScope s_whole) := ⟨rfl, rfl, rfl, by decide +kernel, rfl, by decide +kernel, by decide +kernel⟩
abbrev s_added : Stmt := topS 18
theorem sc_added : FnScope (["one", "other"] : List Str) (["one", "other"] : List Str) (defScope s_added) := ⟨rfl, rfl, rfl, by decide +kernel, rfl, by decide +kernel, by decide +kernel⟩
abbrev s_negative : Stmt := topS 19
theorem sc_negative : FnScope (["one"] : List Str) (["one"] : List Str) (defScope s_negative) := ⟨rfl, rfl, rfl, by decide +kernel, rfl, by decide +kernel, by decide +kernel⟩
abbrev s_less : Stmt := topS 20
theorem sc_less : FnScope (["one", "other"] : List Str) (["one", "other"] : List Str) (defScope s_less) := ⟨rfl, rfl, rfl, by decide +kernel, rfl, by decide +kernel, by decide +kernel⟩
abbrev s_times : Stmt := topS 21
theorem sc_times : FnScope (["one", "other"] : List Str) (["one", "other"] : List Str) (defScope s_times) := ⟨rfl, rfl, rfl, by decide +kernel, rfl, by decide +kernel, by decide +kernel⟩
abbrev s_is_less : Stmt := topS 22
theorem sc_is_less : FnScope (["one", "other"] : List Str) (["one", "other"] : List Str) (defScope s_is_less) := ⟨rfl, rfl, rfl, by decide +kernel, rfl, by decide +kernel, by decide +kernel⟩
abbrev s_greatest : Stmt := topS 23
theorem sc_greatest : FnScope (["some", "found", "one"] : List Str) (["some"] : List Str) (defScope s_greatest) := ⟨rfl, rfl, rfl, by decide +kernel, rfl, by decide +kernel, by decide +kernel⟩
abbrev s_floor : Stmt := topS 24
theorem sc_floor : FnScope (["one"] : List Str) (["one"] : List Str) (defScope s_floor) := ⟨rfl, rfl, rfl, by decide +kernel, rfl, by decide +kernel, by decide +kernel⟩
abbrev s_checked_arrivals : Stmt := topS 29
theorem sc_checked_arrivals : FnScope (["streams", "thing", "index", "comes"] : List Str) (["streams", "thing"] : List Str) (defScope s_checked_arrivals) := ⟨rfl, rfl, rfl, by decide +kernel, rfl, by decide +kernel, by decide +kernel⟩
abbrev s_excesses : Stmt := topS 30
theorem sc_excesses : FnScope (["rate", "comes", "found", "best", "begin", "turn", "one"] : List Str) (["rate", "comes"] : List Str) (defScope s_excesses) := ⟨rfl, rfl, rfl, by decide +kernel, rfl, by decide +kernel, by decide +kernel⟩
abbrev s_comes_of : Stmt := topS 31
theorem sc_comes_of : FnScope (["arrivals", "stream", "comes"] : List Str) (["arrivals", "stream"] : List Str) (defScope s_comes_of) := ⟨rfl, rfl, rfl, by decide +kernel, rfl, by decide +kernel, by decide +kernel⟩
abbrev s_first_breach : Stmt := topS 32
theorem sc_first_breach : FnScope (["bound", "arrivals", "found", "stream", "rate", "burst", "comes", "breaches", "end", "turn", "best", "begin"] : List Str) (["bound", "arrivals"] : List Str) (defScope s_first_breach) := ⟨rfl, rfl, rfl, by decide +kernel, rfl, by decide +kernel, by decide +kernel⟩
abbrev s_latest_begin : Stmt := topS 33
theorem sc_latest_begin : FnScope (["its", "comes", "end", "rate", "burst", "begin", "best"] : List Str) (["its", "comes", "end"] : List Str) (defScope s_latest_begin) := ⟨rfl, rfl, rfl, by decide +kernel, rfl, by decide +kernel, by decide +kernel⟩
abbrev s_keeps : Stmt := topS 34
theorem sc_keeps : FnScope (["bound", "arrivals"] : List Str) (["bound", "arrivals"] : List Str) (defScope s_keeps) := ⟨rfl, rfl, rfl, by decide +kernel, rfl, by decide +kernel, by decide +kernel⟩
abbrev s_check_rate : Stmt := topS 35
theorem sc_check_rate : FnScope (["rate"] : List Str) (["rate"] : List Str) (defScope s_check_rate) := ⟨rfl, rfl, rfl, by decide +kernel, rfl, by decide +kernel, by decide +kernel⟩
abbrev s_least_burst : Stmt := topS 36
theorem sc_least_burst : FnScope (["rate", "comes", "best", "begin"] : List Str) (["rate", "comes"] : List Str) (defScope s_least_burst) := ⟨rfl, rfl, rfl, by decide +kernel, rfl, by decide +kernel, by decide +kernel⟩
abbrev s_least_bound : Stmt := topS 37
theorem sc_least_bound : FnScope (["rates", "arrivals", "found", "stream", "rate", "comes", "burst"] : List Str) (["rates", "arrivals"] : List Str) (defScope s_least_bound) := ⟨rfl, rfl, rfl, by decide +kernel, rfl, by decide +kernel, by decide +kernel⟩
abbrev s_check_turns : Stmt := topS 39
theorem sc_check_turns : FnScope (["turns"] : List Str) (["turns"] : List Str) (defScope s_check_turns) := ⟨rfl, rfl, rfl, by decide +kernel, rfl, by decide +kernel, by decide +kernel⟩
abbrev s_by_sums : Stmt := topS 40
theorem sc_by_sums : FnScope (["sums", "ahead", "later"] : List Str) (["sums"] : List Str) (defScope s_by_sums) := ⟨rfl, rfl, rfl, by decide +kernel, rfl, by decide +kernel, by decide +kernel⟩
abbrev s_together : Stmt := topS 41
theorem sc_together : FnScope (["columns", "turns", "turn", "comes"] : List Str) (["columns", "turns"] : List Str) (defScope s_together) := ⟨rfl, rfl, rfl, by decide +kernel, rfl, by decide +kernel, by decide +kernel⟩
abbrev s_steady : Stmt := topS 42
theorem sc_steady : FnScope (["bound", "turns", "columns", "rate", "burst", "n"] : List Str) (["bound", "turns"] : List Str) (defScope s_steady) := ⟨rfl, rfl, rfl, by decide +kernel, rfl, by decide +kernel, by decide +kernel⟩
abbrev s_all_at_once : Stmt := topS 43
theorem sc_all_at_once : FnScope (["bound", "turns", "columns", "rate", "burst", "n"] : List Str) (["bound", "turns"] : List Str) (defScope s_all_at_once) := ⟨rfl, rfl, rfl, by decide +kernel, rfl, by decide +kernel, by decide +kernel⟩
abbrev s_both : Stmt := topS 44
theorem sc_both : FnScope (["one", "other", "found", "mine", "its", "comes", "first", "second"] : List Str) (["one", "other"] : List Str) (defScope s_both) := ⟨rfl, rfl, rfl, by decide +kernel, rfl, by decide +kernel, by decide +kernel⟩
abbrev s_later : Stmt := topS 45
theorem sc_later : FnScope (["arrivals", "n"] : List Str) (["arrivals", "n"] : List Str) (defScope s_later) := ⟨rfl, rfl, rfl, by decide +kernel, rfl, by decide +kernel, by decide +kernel⟩
abbrev s_total_of : Stmt := topS 46
theorem sc_total_of : FnScope (["arrivals", "stream", "comes"] : List Str) (["arrivals", "stream"] : List Str) (defScope s_total_of) := ⟨rfl, rfl, rfl, by decide +kernel, rfl, by decide +kernel, by decide +kernel⟩
abbrev s_check_heaps : Stmt := topS 48
theorem sc_check_heaps : FnScope (["services", "heaps"] : List Str) (["services", "heaps"] : List Str) (defScope s_check_heaps) := ⟨rfl, rfl, rfl, by decide +kernel, rfl, by decide +kernel, by decide +kernel⟩
abbrev s_served_by : Stmt := topS 49
theorem sc_served_by : FnScope (["services", "number", "heaps", "one", "heap"] : List Str) (["services", "number", "heaps"] : List Str) (defScope s_served_by) := ⟨rfl, rfl, rfl, by decide +kernel, rfl, by decide +kernel, by decide +kernel⟩
abbrev s_played : Stmt := topS 53
theorem sc_played : FnScope (["services", "arrivals", "numbers", "lines", "heaps", "gone", "its", "comes", "number", "line", "one"] : List Str) (["services", "arrivals", "numbers"] : List Str) (defScope s_played) := ⟨rfl, rfl, rfl, by decide +kernel, rfl, by decide +kernel, by decide +kernel⟩
abbrev s_lines_behind : Stmt := topS 54
theorem sc_lines_behind : FnScope (["services", "arrivals", "numbers"] : List Str) (["services", "arrivals", "numbers"] : List Str) (defScope s_lines_behind) := ⟨rfl, rfl, rfl, by decide +kernel, rfl, by decide +kernel, by decide +kernel⟩
abbrev s_heaps_in : Stmt := topS 55
theorem sc_heaps_in : FnScope (["services", "arrivals", "numbers"] : List Str) (["services", "arrivals", "numbers"] : List Str) (defScope s_heaps_in) := ⟨rfl, rfl, rfl, by decide +kernel, rfl, by decide +kernel, by decide +kernel⟩
abbrev s_gone_in : Stmt := topS 56
theorem sc_gone_in : FnScope (["services", "arrivals", "numbers"] : List Str) (["services", "arrivals", "numbers"] : List Str) (defScope s_gone_in) := ⟨rfl, rfl, rfl, by decide +kernel, rfl, by decide +kernel, by decide +kernel⟩
abbrev s_last_lines : Stmt := topS 57
theorem sc_last_lines : FnScope (["services", "arrivals", "numbers", "lines"] : List Str) (["services", "arrivals", "numbers"] : List Str) (defScope s_last_lines) := ⟨rfl, rfl, rfl, by decide +kernel, rfl, by decide +kernel, by decide +kernel⟩
abbrev s_greatest_lines : Stmt := topS 58
theorem sc_greatest_lines : FnScope (["services", "arrivals", "numbers", "lines", "stream", "one"] : List Str) (["services", "arrivals", "numbers"] : List Str) (defScope s_greatest_lines) := ⟨rfl, rfl, rfl, by decide +kernel, rfl, by decide +kernel, by decide +kernel⟩
abbrev s__law_bag : Stmt := topS 60
theorem sc__law_bag : FnScope (["script", "cell"] : List Str) (["script"] : List Str) (defScope s__law_bag) := ⟨rfl, rfl, rfl, by decide +kernel, rfl, by decide +kernel, by decide +kernel⟩
abbrev s__law_take : Stmt := topS 61
theorem sc__law_take : FnScope (["bag", "many", "cell", "stirred", "value", "begin", "second"] : List Str) (["bag", "many"] : List Str) (defScope s__law_take) := ⟨rfl, rfl, rfl, by decide +kernel, rfl, by decide +kernel, by decide +kernel⟩
abbrev s__law_some : Stmt := topS 62
theorem sc__law_some : FnScope (["bag", "things"] : List Str) (["bag", "things"] : List Str) (defScope s__law_some) := ⟨rfl, rfl, rfl, by decide +kernel, rfl, by decide +kernel, by decide +kernel⟩
abbrev s__law_alike : Stmt := topS 63
theorem sc__law_alike : FnScope (["found", "due"] : List Str) (["found", "due"] : List Str) (defScope s__law_alike) := ⟨rfl, rfl, rfl, by decide +kernel, rfl, by decide +kernel, by decide +kernel⟩
abbrev s__law_gcd : Stmt := topS 64
theorem sc__law_gcd : FnScope (["a", "b"] : List Str) (["a", "b"] : List Str) (defScope s__law_gcd) := ⟨rfl, rfl, rfl, by decide +kernel, rfl, by decide +kernel, by decide +kernel⟩
abbrev s__law_fraction : Stmt := topS 65
theorem sc__law_fraction : FnScope (["a", "b", "low", "sign"] : List Str) (["a", "b"] : List Str) (defScope s__law_fraction) := ⟨rfl, rfl, rfl, by decide +kernel, rfl, by decide +kernel, by decide +kernel⟩
abbrev s__law_plus : Stmt := topS 66
theorem sc__law_plus : FnScope (["one", "other"] : List Str) (["one", "other"] : List Str) (defScope s__law_plus) := ⟨rfl, rfl, rfl, by decide +kernel, rfl, by decide +kernel, by decide +kernel⟩
abbrev s__law_minus : Stmt := topS 67
theorem sc__law_minus : FnScope (["one", "other"] : List Str) (["one", "other"] : List Str) (defScope s__law_minus) := ⟨rfl, rfl, rfl, by decide +kernel, rfl, by decide +kernel, by decide +kernel⟩
abbrev s__law_times : Stmt := topS 68
theorem sc__law_times : FnScope (["one", "other"] : List Str) (["one", "other"] : List Str) (defScope s__law_times) := ⟨rfl, rfl, rfl, by decide +kernel, rfl, by decide +kernel, by decide +kernel⟩
abbrev s__law_less : Stmt := topS 69
theorem sc__law_less : FnScope (["one", "other"] : List Str) (["one", "other"] : List Str) (defScope s__law_less) := ⟨rfl, rfl, rfl, by decide +kernel, rfl, by decide +kernel, by decide +kernel⟩
abbrev s__law_floor : Stmt := topS 70
theorem sc__law_floor : FnScope (["one"] : List Str) (["one"] : List Str) (defScope s__law_floor) := ⟨rfl, rfl, rfl, by decide +kernel, rfl, by decide +kernel, by decide +kernel⟩
abbrev s__law_streams : Stmt := topS 71
theorem sc__law_streams : FnScope (["bag", "most"] : List Str) (["bag", "most"] : List Str) (defScope s__law_streams) := ⟨rfl, rfl, rfl, by decide +kernel, rfl, by decide +kernel, by decide +kernel⟩
abbrev s__law_services : Stmt := topS 72
theorem sc__law_services : FnScope (["bag", "streams", "most", "found", "k", "stream"] : List Str) (["bag", "streams", "most"] : List Str) (defScope s__law_services) := ⟨rfl, rfl, rfl, by decide +kernel, rfl, by decide +kernel, by decide +kernel⟩
abbrev s__law_rates : Stmt := topS 73
theorem sc__law_rates : FnScope (["bag", "streams", "under", "stream"] : List Str) (["bag", "streams"] : List Str) (defScope s__law_rates) := ⟨rfl, rfl, rfl, by decide +kernel, rfl, by decide +kernel, by decide +kernel⟩
abbrev s__law_bound : Stmt := topS 74
theorem sc__law_bound : FnScope (["bag", "rates", "found", "rate", "burst"] : List Str) (["bag", "rates"] : List Str) (defScope s__law_bound) := ⟨rfl, rfl, rfl, by decide +kernel, rfl, by decide +kernel, by decide +kernel⟩
abbrev s__law_breach : Stmt := topS 75
theorem sc__law_breach : FnScope (["bound", "comes", "k", "rate", "burst", "end", "begin", "many", "turn"] : List Str) (["bound", "comes", "k"] : List Str) (defScope s__law_breach) := ⟨rfl, rfl, rfl, by decide +kernel, rfl, by decide +kernel, by decide +kernel⟩
abbrev s__law_keeps : Stmt := topS 76
theorem sc__law_keeps : FnScope (["bound", "comes", "k"] : List Str) (["bound", "comes"] : List Str) (defScope s__law_keeps) := ⟨rfl, rfl, rfl, by decide +kernel, rfl, by decide +kernel, by decide +kernel⟩
abbrev s__law_played : Stmt := topS 77
theorem sc__law_played : FnScope (["services", "comes", "numbers", "lines", "found", "turn", "number", "heaps", "gone", "a", "b"] : List Str) (["services", "comes", "numbers"] : List Str) (defScope s__law_played) := ⟨rfl, rfl, rfl, by decide +kernel, rfl, by decide +kernel, by decide +kernel⟩
abbrev s__law_let : Stmt := topS 78
theorem sc__law_let : FnScope (["bound", "k", "comes", "rate", "burst", "owed", "one"] : List Str) (["bound", "k", "comes"] : List Str) (defScope s__law_let) := ⟨rfl, rfl, rfl, by decide +kernel, rfl, by decide +kernel, by decide +kernel⟩
abbrev s__law_kept_comes : Stmt := topS 79
theorem sc__law_kept_comes : FnScope (["bag", "bound", "turns", "columns", "k", "comes", "eager", "turn", "most"] : List Str) (["bag", "bound", "turns"] : List Str) (defScope s__law_kept_comes) := ⟨rfl, rfl, rfl, by decide +kernel, rfl, by decide +kernel, by decide +kernel⟩
abbrev s_law : Stmt := topS 80
theorem sc_law : FnScope ("script" :: "bag" :: "lap" :: "streams" :: "services" :: "turns" :: "first" :: "second" :: "one" :: "other" :: "sums" :: "whole_v" :: "rates" :: "least" :: "a" :: "b" :: "c" :: "numbers" :: "lines" :: "mine" :: "its" :: "told" :: "found" :: "n" :: "late" :: "idle" :: "half" :: "turn" :: "most" :: "even" :: "k" :: "rate" :: "burst" :: "some" :: "comes" :: "row" :: [] : List Str) (["script"] : List Str) (defScope s_law) := ⟨rfl, rfl, rfl, by decide +kernel, rfl, by decide +kernel, by decide +kernel⟩
abbrev s_Lines___init__ : Stmt := inClass (topS 51) 0
theorem sc_Lines___init__ : FnScope ["self", "services"] ["self", "services"] (defScope s_Lines___init__) := ⟨rfl, rfl, rfl, by decide +kernel, rfl, by decide +kernel, by decide +kernel⟩
abbrev s_Lines_lines : Stmt := inClass (topS 51) 2
theorem sc_Lines_lines : FnScope ["self"] ["self"] (defScope s_Lines_lines) := ⟨rfl, rfl, rfl, by decide +kernel, rfl, by decide +kernel, by decide +kernel⟩
abbrev s_Lines_turns : Stmt := inClass (topS 51) 3
theorem sc_Lines_turns : FnScope ["self"] ["self"] (defScope s_Lines_turns) := ⟨rfl, rfl, rfl, by decide +kernel, rfl, by decide +kernel, by decide +kernel⟩
abbrev s_Lines_arrivals : Stmt := inClass (topS 51) 4
theorem sc_Lines_arrivals : FnScope ["self"] ["self"] (defScope s_Lines_arrivals) := ⟨rfl, rfl, rfl, by decide +kernel, rfl, by decide +kernel, by decide +kernel⟩
abbrev s_Lines_numbers : Stmt := inClass (topS 51) 5
theorem sc_Lines_numbers : FnScope ["self"] ["self"] (defScope s_Lines_numbers) := ⟨rfl, rfl, rfl, by decide +kernel, rfl, by decide +kernel, by decide +kernel⟩
abbrev s_Lines_turn : Stmt := inClass (topS 51) 6
theorem sc_Lines_turn : FnScope ["self", "comes", "number", "heaps", "gone", "line", "its", "heap"] ["self", "comes", "number"] (defScope s_Lines_turn) := ⟨rfl, rfl, rfl, by decide +kernel, rfl, by decide +kernel, by decide +kernel⟩
abbrev s_Lines_twin : Stmt := inClass (topS 51) 8
theorem sc_Lines_twin : FnScope ["self", "other"] ["self"] (defScope s_Lines_twin) := ⟨rfl, rfl, rfl, by decide +kernel, rfl, by decide +kernel, by decide +kernel⟩
def Lines_fields : List Str := ["services", "came", "done", "lying"]
structure Lines_ok (K : PySem.W.Frag) (mg : Str → Option Value) (C : Addr) : Prop where
  cl : Cls K C
  na_services : NoAttr K C "services"
  na_came : NoAttr K C "came"
  na_done : NoAttr K C "done"
  na_lying : NoAttr K C "lying"
  di : DefI K mg "Lines" C "Lines.__init__" s_Lines___init__ ["self", "services"]
  d_lines : DefM K C "lines" "Lines.lines" s_Lines_lines ["self"]
  d_turn : DefM K C "turn" "Lines.turn" s_Lines_turn ["self", "comes", "number"]
  d_arrivals : DefM K C "arrivals" "Lines.arrivals" s_Lines_arrivals ["self"]
  d_numbers : DefM K C "numbers" "Lines.numbers" s_Lines_numbers ["self"]
  d_turns : DefM K C "turns" "Lines.turns" s_Lines_turns ["self"]
  d_twin : DefM K C "twin" "Lines.twin" s_Lines_twin ["self"]
structure Txt (K : PySem.W.Frag) (mg : Str → Option Value) : Prop where
  nb : Nb mg
  d_is_number : Def K mg "is_number" s_is_number ["thing"]
  d_is_index : Def K mg "is_index" s_is_index ["thing"]
  d_is_sized : Def K mg "is_sized" s_is_sized ["thing", "many"]
  d_is_tuple_of : Def K mg "is_tuple_of" s_is_tuple_of ["thing", "is_one"]
  d_common_divisor : Def K mg "common_divisor" s_common_divisor ["one", "other"]
  d_is_fraction : Def K mg "is_fraction" s_is_fraction ["thing"]
  d_is_indexes : Def K mg "is_indexes" s_is_indexes ["thing"]
  d_is_rows : Def K mg "is_rows" s_is_rows ["thing"]
  d_made : Def K mg "made" s_made ["a", "b"]
  d_whole : Def K mg "whole" s_whole ["n"]
  d_added : Def K mg "added" s_added ["one", "other"]
  d_negative : Def K mg "negative" s_negative ["one"]
  d_less : Def K mg "less" s_less ["one", "other"]
  d_times : Def K mg "times" s_times ["one", "other"]
  d_is_less : Def K mg "is_less" s_is_less ["one", "other"]
  d_greatest : Def K mg "greatest" s_greatest ["some"]
  d_floor : Def K mg "floor" s_floor ["one"]
  d_checked_arrivals : Def K mg "checked_arrivals" s_checked_arrivals ["streams", "thing"]
  d_excesses : Def K mg "excesses" s_excesses ["rate", "comes"]
  d_comes_of : Def K mg "comes_of" s_comes_of ["arrivals", "stream"]
  d_first_breach : Def K mg "first_breach" s_first_breach ["bound", "arrivals"]
  d_latest_begin : Def K mg "latest_begin" s_latest_begin ["its", "comes", "end"]
  d_keeps : Def K mg "keeps" s_keeps ["bound", "arrivals"]
  d_check_rate : Def K mg "check_rate" s_check_rate ["rate"]
  d_least_burst : Def K mg "least_burst" s_least_burst ["rate", "comes"]
  d_least_bound : Def K mg "least_bound" s_least_bound ["rates", "arrivals"]
  d_check_turns : Def K mg "check_turns" s_check_turns ["turns"]
  d_by_sums : Def K mg "by_sums" s_by_sums ["sums"]
  d_together : Def K mg "together" s_together ["columns", "turns"]
  d_steady : Def K mg "steady" s_steady ["bound", "turns"]
  d_all_at_once : Def K mg "all_at_once" s_all_at_once ["bound", "turns"]
  d_both : Def K mg "both" s_both ["one", "other"]
  d_later : Def K mg "later" s_later ["arrivals", "n"]
  d_total_of : Def K mg "total_of" s_total_of ["arrivals", "stream"]
  d_check_heaps : Def K mg "check_heaps" s_check_heaps ["services", "heaps"]
  d_served_by : Def K mg "served_by" s_served_by ["services", "number", "heaps"]
  d_played : Def K mg "played" s_played ["services", "arrivals", "numbers"]
  d_lines_behind : Def K mg "lines_behind" s_lines_behind ["services", "arrivals", "numbers"]
  d_heaps_in : Def K mg "heaps_in" s_heaps_in ["services", "arrivals", "numbers"]
  d_gone_in : Def K mg "gone_in" s_gone_in ["services", "arrivals", "numbers"]
  d_last_lines : Def K mg "last_lines" s_last_lines ["services", "arrivals", "numbers"]
  d_greatest_lines : Def K mg "greatest_lines" s_greatest_lines ["services", "arrivals", "numbers"]
  d__law_bag : Def K mg "_law_bag" s__law_bag ["script"]
  d__law_take : Def K mg "_law_take" s__law_take ["bag", "many"]
  d__law_some : Def K mg "_law_some" s__law_some ["bag", "things"]
  d__law_alike : Def K mg "_law_alike" s__law_alike ["found", "due"]
  d__law_gcd : Def K mg "_law_gcd" s__law_gcd ["a", "b"]
  d__law_fraction : Def K mg "_law_fraction" s__law_fraction ["a", "b"]
  d__law_plus : Def K mg "_law_plus" s__law_plus ["one", "other"]
  d__law_minus : Def K mg "_law_minus" s__law_minus ["one", "other"]
  d__law_times : Def K mg "_law_times" s__law_times ["one", "other"]
  d__law_less : Def K mg "_law_less" s__law_less ["one", "other"]
  d__law_floor : Def K mg "_law_floor" s__law_floor ["one"]
  d__law_streams : Def K mg "_law_streams" s__law_streams ["bag", "most"]
  d__law_services : Def K mg "_law_services" s__law_services ["bag", "streams", "most"]
  d__law_rates : Def K mg "_law_rates" s__law_rates ["bag", "streams"]
  d__law_bound : Def K mg "_law_bound" s__law_bound ["bag", "rates"]
  d__law_breach : Def K mg "_law_breach" s__law_breach ["bound", "comes", "k"]
  d__law_keeps : Def K mg "_law_keeps" s__law_keeps ["bound", "comes"]
  d__law_played : Def K mg "_law_played" s__law_played ["services", "comes", "numbers"]
  d__law_let : Def K mg "_law_let" s__law_let ["bound", "k", "comes"]
  d__law_kept_comes : Def K mg "_law_kept_comes" s__law_kept_comes ["bag", "bound", "turns"]
  d_law : Def K mg "law" s_law ["script"]
  c_MOST_TURNS : Kc K mg "MOST_TURNS" (.int 5000)
  c_ZERO : Kc K mg "ZERO" (.tuple [(.int 0), (.int 1)])
  c_ONE : Kc K mg "ONE" (.tuple [(.int 1), (.int 1)])
  o_Lines : ∃ C, Lines_ok K mg C
variable {P : Program} {w : World} {K : PySem.W.Frag} {mg : Str → Option Value} {base : Heap}
/-! ### forms -/
def isNumB : PyData → Bool
  | .int _ => true
  | _ => false
abbrev okAny : PyData → Prop := fun _ => True
def T_forms_is_number : DTP := ofP isNumB okAny
theorem ok_is_number (t : Txt K mg) : Cl P w K mg base 1 "is_number" 1 T_forms_is_number := by
  have nb := t.nb
  refine cl_of t.d_is_number sc_is_number rfl (by intro xs Q h; unfold T_forms_is_number ofP at h; split at h <;> first | rfl | exact h.elim) (fun f cdv A outer s H E hr => (dss_one (ds_ret (de_and (de_isi kits_int (by intro x; cases x <;> rfl) (by rfl) nb.isinstance_ (de_var 0 (pv 0)) (pe_bltn (v := .ty "int") (by rfl) nb.int_ (by decide +kernel) rfl)) (de_one (de_not (de_isi kits_bool (by intro x; cases x <;> rfl) (by rfl) nb.isinstance_ (de_var 0 (pv 0)) (pe_bltn (v := .ty "bool") (by rfl) nb.bool_ (by decide +kernel) rfl)))))))) (fun xs Q h => ?_)
  unfold T_forms_is_number ofP at h
  split at h
  rotate_left
  · exact h.elim
  rename_i x
  cases x <;> (simp only [↓DL.dVar, ↓DL.dC, ↓DL.dU, ↓DL.dOp, ↓DL.dBor, ↓DL.dBorT, ↓DL.dnLst, ↓DL.dFz, ↓DL.dSetN, ↓DL.dmNil, ↓DL.dmDat, ↓DL.dmNew, ↓DL.dPar, ↓DL.setAt0, ↓DL.setAt1, ↓DL.setAt2, ↓DL.ownAt, ↓DL.dSetIx, ↓DL.dAugIx, ↓DL.dCallB, ↓DL.insAt, ↓DL.dFld, ↓DL.dFldD, ↓DL.dFldN, ↓DL.fownAt, ↓DL.dAppF, ↓DL.dMeth, ↓DL.daNil, ↓DL.dMake, ↓DL.dZip2, ↓DL.dZip3, ↓DL.oAddL, ↓DL.oMulL, ↓DL.dnOp, ↓DL.oListN, ↓DL.dnU, ↓DL.dChain, ↓DL.dgLst, ↓DL.dmRaw, ↓DL.dmVarR, ↓DL.dCallM, ↓DL.dCallL, ↓DL.oRepr, ↓DL.asInt, ↓DL.asBool, ↓DL.asTup, ↓DL.asLst, ↓DL.asSeq, ↓DL.oI0, ↓DL.oI, ↓DL.oNeg, ↓DL.oEq_int, ↓DL.oNe_int, ↓DL.oIsN, ↓DL.oNotN, ↓DL.oIsB, ↓DL.oNotB, ↓DL.dTst, ↓DL.dNotB, ↓DL.dAndB, ↓DL.dOrB, ↓DL.dAndV, ↓DL.dOrV, ↓DL.dNotV, ↓DL.dIf, ↓DL.dNil, ↓DL.dCons, ↓DL.dStar, ↓DL.dTup, ↓DL.dLst, ↓DL.itemAt0, ↓DL.itemAt1, ↓DL.itemAt2, ↓DL.itemAt3, ↓DL.oIx, ↓DL.dNoPart, ↓DL.dPart, ↓DL.dSl, ↓DL.dgName, ↓DL.dgNil, ↓DL.dgCons, ↓DL.dgTup, ↓DL.dNext, ↓DL.dSeq, ↓DL.dBreak, ↓DL.dCont, ↓DL.dDrop, ↓DL.dRet, ↓DL.dRetN, ↓DL.dIfS, ↓DL.dNever, ↓DL.dAsg, ↓DL.dAug, ↓DL.dOwn, ↓DL.dApp, ↓DL.dFrz, ↓DL.dFrzS, ↓DL.dIt, ↓DL.dItL, ↓DL.dItT, ↓DL.dRng1, ↓DL.dRng2, ↓DL.dZip, ↓DL.dFor, ↓DL.dYes, ↓DL.turnD, ↓DL.dLc, ↓DL.dRetO, ↓DL.dnCall, ↓DL.dnMove, ↓DL.frzAll, ↓DL.frz1, ↓DL.noLst, ↓DL.noLsts, ↓DL.dFz, ↓DL.dCall, ↓DL.dCB, ↓DL.oLen, ↓DL.oAbs, ↓DL.oInt2, ↓DL.oInt, ↓DL.oTuple, ↓DL.oList, ↓DL.dIsi, ↓DL.dEnum, ↓DL.oAdd, ↓DL.oMul, ↓DL.putAll, ↓DL.isNone, ↓DL.isIntB, ↓DL.isBoolB, ↓DL.isTupB, ↓DL.isStrB, ↓List.map_cons, ↓List.map_nil, ↓List.length_cons, ↓List.length_nil, ↓List.replicate_succ, ↓List.replicate_zero, ↓List.cons_append, ↓List.nil_append, ↓List.append_nil, ↓List.getElem?_cons_zero, ↓List.getElem?_cons_succ, ↓List.set_cons_zero, ↓List.set_cons_succ, Nat.reduceAdd, Nat.reduceSub, Nat.sub_self, Nat.add_sub_cancel, Nat.zero_add, ↓List.append_assoc, ↓DL.ifd_t, ↓DL.ifd_f, ↓DL.sz0, ↓DL.sz1, ↓DL.sz2, ↓DL.sz3, ↓DL.sz4, ↓DL.sz5, ↓DL.sz6, ↓DL.sz7, ↓DL.sz8, ↓DL.sz9, ↓DL.sz10, ↓DL.sz11, ↓DL.sz12, ↓DL.sz13, ↓DL.sz14, ↓DL.sz15, Bool.false_eq_true, ↓Bool.not_true, ↓Bool.not_false, ↓true_and, ↓and_true]; exact h.2)
def isIdxB : PyData → Bool
  | .int i => decide (i ≥ 0)
  | _ => false
def T_forms_is_index : DTP := ofP isIdxB okAny
theorem ok_is_index (t : Txt K mg) : Cl P w K mg base 2 "is_index" 1 T_forms_is_index := by
  have nb := t.nb
  have c_is_number := ok_is_number (P := P) (w := w) (base := base) t
  refine cl_of t.d_is_index sc_is_index rfl (by intro xs Q h; unfold T_forms_is_index ofP at h; split at h <;> first | rfl | exact h.elim) (fun f cdv A outer s H E hr => (dss_one (ds_ret (de_and (de_callC c_is_number hr (by decide) (by rfl) (da_cons (de_var 0 (pv 0)) da_nil)) (de_one (de_cmp op_ge od_ge (de_var 0 (pv 0)) de_int (nomark _))))))) (fun xs Q h => ?_)
  unfold T_forms_is_index ofP at h
  split at h
  rotate_left
  · exact h.elim
  rename_i x
  cases x <;> (simp only [↓DL.dVar, ↓DL.dC, ↓DL.dU, ↓DL.dOp, ↓DL.dBor, ↓DL.dBorT, ↓DL.dnLst, ↓DL.dFz, ↓DL.dSetN, ↓DL.dmNil, ↓DL.dmDat, ↓DL.dmNew, ↓DL.dPar, ↓DL.setAt0, ↓DL.setAt1, ↓DL.setAt2, ↓DL.ownAt, ↓DL.dSetIx, ↓DL.dAugIx, ↓DL.dCallB, ↓DL.insAt, ↓DL.dFld, ↓DL.dFldD, ↓DL.dFldN, ↓DL.fownAt, ↓DL.dAppF, ↓DL.dMeth, ↓DL.daNil, ↓DL.dMake, ↓DL.dZip2, ↓DL.dZip3, ↓DL.oAddL, ↓DL.oMulL, ↓DL.dnOp, ↓DL.oListN, ↓DL.dnU, ↓DL.dChain, ↓DL.dgLst, ↓DL.dmRaw, ↓DL.dmVarR, ↓DL.dCallM, ↓DL.dCallL, ↓DL.oRepr, ↓DL.asInt, ↓DL.asBool, ↓DL.asTup, ↓DL.asLst, ↓DL.asSeq, ↓DL.oI0, ↓DL.oI, ↓DL.oNeg, ↓DL.oEq_int, ↓DL.oNe_int, ↓DL.oIsN, ↓DL.oNotN, ↓DL.oIsB, ↓DL.oNotB, ↓DL.dTst, ↓DL.dNotB, ↓DL.dAndB, ↓DL.dOrB, ↓DL.dAndV, ↓DL.dOrV, ↓DL.dNotV, ↓DL.dIf, ↓DL.dNil, ↓DL.dCons, ↓DL.dStar, ↓DL.dTup, ↓DL.dLst, ↓DL.itemAt0, ↓DL.itemAt1, ↓DL.itemAt2, ↓DL.itemAt3, ↓DL.oIx, ↓DL.dNoPart, ↓DL.dPart, ↓DL.dSl, ↓DL.dgName, ↓DL.dgNil, ↓DL.dgCons, ↓DL.dgTup, ↓DL.dNext, ↓DL.dSeq, ↓DL.dBreak, ↓DL.dCont, ↓DL.dDrop, ↓DL.dRet, ↓DL.dRetN, ↓DL.dIfS, ↓DL.dNever, ↓DL.dAsg, ↓DL.dAug, ↓DL.dOwn, ↓DL.dApp, ↓DL.dFrz, ↓DL.dFrzS, ↓DL.dIt, ↓DL.dItL, ↓DL.dItT, ↓DL.dRng1, ↓DL.dRng2, ↓DL.dZip, ↓DL.dFor, ↓DL.dYes, ↓DL.turnD, ↓DL.dLc, ↓DL.dRetO, ↓DL.dnCall, ↓DL.dnMove, ↓DL.frzAll, ↓DL.frz1, ↓DL.noLst, ↓DL.noLsts, ↓DL.dFz, ↓DL.dCall, ↓DL.dCB, ↓DL.oLen, ↓DL.oAbs, ↓DL.oInt2, ↓DL.oInt, ↓DL.oTuple, ↓DL.oList, ↓DL.dIsi, ↓DL.dEnum, ↓DL.oAdd, ↓DL.oMul, ↓DL.putAll, ↓DL.isNone, ↓DL.isIntB, ↓DL.isBoolB, ↓DL.isTupB, ↓DL.isStrB, ↓List.map_cons, ↓List.map_nil, ↓List.length_cons, ↓List.length_nil, ↓List.replicate_succ, ↓List.replicate_zero, ↓List.cons_append, ↓List.nil_append, ↓List.append_nil, ↓List.getElem?_cons_zero, ↓List.getElem?_cons_succ, ↓List.set_cons_zero, ↓List.set_cons_succ, Nat.reduceAdd, Nat.reduceSub, Nat.sub_self, Nat.add_sub_cancel, Nat.zero_add, ↓List.append_assoc, ↓DL.ifd_t, ↓DL.ifd_f, ↓DL.sz0, ↓DL.sz1, ↓DL.sz2, ↓DL.sz3, ↓DL.sz4, ↓DL.sz5, ↓DL.sz6, ↓DL.sz7, ↓DL.sz8, ↓DL.sz9, ↓DL.sz10, ↓DL.sz11, ↓DL.sz12, ↓DL.sz13, ↓DL.sz14, ↓DL.sz15, Bool.false_eq_true, ↓Bool.not_true, ↓Bool.not_false, ↓true_and, ↓and_true, T_forms_is_number, ofP, isNumB, okAny]; exact h.2)
def isSzB : PyData → Int → Bool
  | .tuple xs, n => decide ((xs.length : Int) = n)
  | _, _ => false
def T_forms_is_sized : DTP := fun xs Q => match xs with
  | [x, .int n] => Q (.bool (isSzB x n))
  | _ => False
theorem ok_is_sized (t : Txt K mg) : Cl P w K mg base 1 "is_sized" 2 T_forms_is_sized := by
  have nb := t.nb
  refine cl_of t.d_is_sized sc_is_sized rfl (by intro xs Q h; unfold T_forms_is_sized at h; split at h <;> first | rfl | exact h.elim) (fun f cdv A outer s H E hr => (dss_one (ds_ret (de_and (de_isi kits_tuple (by intro x; cases x <;> rfl) (by rfl) nb.isinstance_ (de_var 0 (pv 0)) (pe_bltn (v := .ty "tuple") (by rfl) nb.tuple_ (by decide +kernel) rfl)) (de_one (de_cmp (op_eqD hr.units) od_eq (de_blt call_len_seq od_len (by rfl) nb.len_ PySem.boot_len (da_cons (de_var 0 (pv 0)) da_nil)) (de_var 1 (pv 1)) (nomark _))))))) (fun xs Q h => ?_)
  unfold T_forms_is_sized at h
  split at h
  rotate_left
  · exact h.elim
  rename_i x y
  cases x <;> (simp only [↓DL.dVar, ↓DL.dC, ↓DL.dU, ↓DL.dOp, ↓DL.dBor, ↓DL.dBorT, ↓DL.dnLst, ↓DL.dFz, ↓DL.dSetN, ↓DL.dmNil, ↓DL.dmDat, ↓DL.dmNew, ↓DL.dPar, ↓DL.setAt0, ↓DL.setAt1, ↓DL.setAt2, ↓DL.ownAt, ↓DL.dSetIx, ↓DL.dAugIx, ↓DL.dCallB, ↓DL.insAt, ↓DL.dFld, ↓DL.dFldD, ↓DL.dFldN, ↓DL.fownAt, ↓DL.dAppF, ↓DL.dMeth, ↓DL.daNil, ↓DL.dMake, ↓DL.dZip2, ↓DL.dZip3, ↓DL.oAddL, ↓DL.oMulL, ↓DL.dnOp, ↓DL.oListN, ↓DL.dnU, ↓DL.dChain, ↓DL.dgLst, ↓DL.dmRaw, ↓DL.dmVarR, ↓DL.dCallM, ↓DL.dCallL, ↓DL.oRepr, ↓DL.asInt, ↓DL.asBool, ↓DL.asTup, ↓DL.asLst, ↓DL.asSeq, ↓DL.oI0, ↓DL.oI, ↓DL.oNeg, ↓DL.oEq_int, ↓DL.oNe_int, ↓DL.oIsN, ↓DL.oNotN, ↓DL.oIsB, ↓DL.oNotB, ↓DL.dTst, ↓DL.dNotB, ↓DL.dAndB, ↓DL.dOrB, ↓DL.dAndV, ↓DL.dOrV, ↓DL.dNotV, ↓DL.dIf, ↓DL.dNil, ↓DL.dCons, ↓DL.dStar, ↓DL.dTup, ↓DL.dLst, ↓DL.itemAt0, ↓DL.itemAt1, ↓DL.itemAt2, ↓DL.itemAt3, ↓DL.oIx, ↓DL.dNoPart, ↓DL.dPart, ↓DL.dSl, ↓DL.dgName, ↓DL.dgNil, ↓DL.dgCons, ↓DL.dgTup, ↓DL.dNext, ↓DL.dSeq, ↓DL.dBreak, ↓DL.dCont, ↓DL.dDrop, ↓DL.dRet, ↓DL.dRetN, ↓DL.dIfS, ↓DL.dNever, ↓DL.dAsg, ↓DL.dAug, ↓DL.dOwn, ↓DL.dApp, ↓DL.dFrz, ↓DL.dFrzS, ↓DL.dIt, ↓DL.dItL, ↓DL.dItT, ↓DL.dRng1, ↓DL.dRng2, ↓DL.dZip, ↓DL.dFor, ↓DL.dYes, ↓DL.turnD, ↓DL.dLc, ↓DL.dRetO, ↓DL.dnCall, ↓DL.dnMove, ↓DL.frzAll, ↓DL.frz1, ↓DL.noLst, ↓DL.noLsts, ↓DL.dFz, ↓DL.dCall, ↓DL.dCB, ↓DL.oLen, ↓DL.oAbs, ↓DL.oInt2, ↓DL.oInt, ↓DL.oTuple, ↓DL.oList, ↓DL.dIsi, ↓DL.dEnum, ↓DL.oAdd, ↓DL.oMul, ↓DL.putAll, ↓DL.isNone, ↓DL.isIntB, ↓DL.isBoolB, ↓DL.isTupB, ↓DL.isStrB, ↓List.map_cons, ↓List.map_nil, ↓List.length_cons, ↓List.length_nil, ↓List.replicate_succ, ↓List.replicate_zero, ↓List.cons_append, ↓List.nil_append, ↓List.append_nil, ↓List.getElem?_cons_zero, ↓List.getElem?_cons_succ, ↓List.set_cons_zero, ↓List.set_cons_succ, Nat.reduceAdd, Nat.reduceSub, Nat.sub_self, Nat.add_sub_cancel, Nat.zero_add, ↓List.append_assoc, ↓DL.ifd_t, ↓DL.ifd_f, ↓DL.sz0, ↓DL.sz1, ↓DL.sz2, ↓DL.sz3, ↓DL.sz4, ↓DL.sz5, ↓DL.sz6, ↓DL.sz7, ↓DL.sz8, ↓DL.sz9, ↓DL.sz10, ↓DL.sz11, ↓DL.sz12, ↓DL.sz13, ↓DL.sz14, ↓DL.sz15, Bool.false_eq_true, ↓Bool.not_true, ↓Bool.not_false, ↓true_and, ↓and_true]; exact h)
theorem ok_is_tuple_of (t : Txt K mg) {k : Nat} {g : Addr} {f : PyData → Bool} {p : PyData → Prop} (cv : ClV P w K mg base k g 1 (ofP f p)) : ClF P w K mg base (k + 1) "is_tuple_of" 2 (ofF g f p) := by
  have nb := t.nb
  refine clF_of t.d_is_tuple_of sc_is_tuple_of rfl ofF_len (fun f cdv A outer s H E hr => (dss_one (ds_ret (de_and (de_isi kits_tuple (by intro x; cases x <;> rfl) (by rfl) nb.isinstance_ (de_var 0 (pv 0)) (pe_bltn (v := .ty "tuple") (by rfl) nb.tuple_ (by decide +kernel) rfl)) (de_one (de_blt (cr_all rfl) od_bools (by rfl) nb.all_ (by decide +kernel) (da_cons (de_lc (own := [("one", 2)]) rfl sc_is_tuple_of.nd (di_seq (de_var 0 (pv 0))) (blkOk_by (by kernel_rfl)) (fun _ _ _ _ _ => (dw_name (i := 2) (pg_name (i := 2) sc_is_tuple_of.nd rfl (by first | exact .inl rfl | exact .inr rfl)) (by decide))) (fun _ _ _ _ _ => dts_nil) (fun _ _ _ _ _ => (de_callL 1 cv hr (Nat.le_refl _) (da_cons (de_var 2 (pv 2)) da_nil)))) da_nil))))))) (fun ss Q h => ?_)
  unfold ofF at h
  split at h
  rotate_left
  · exact h.elim
  rename_i x v
  obtain ⟨⟨rfl, hp⟩, h⟩ := h
  cases x with
  | tuple xs =>
    refine .t rfl ⟨hp.1, comp_mapD (f := fun x => .bool (f x)) rfl (fun a ha kk h => .t rfl ⟨rfl, hp.2 a ha, h⟩) ?_⟩
    have e2 : tupB f (.tuple xs) = (xs.map f).all id := by
      unfold tupB
      rw [List.all_map]
      rfl
    rw [e2] at h
    exact (oBools_map _ f xs _).mpr h
  | _ => exact .f rfl h
def T_forms_is_indexes : DTP := ofP (tupB isIdxB) (tupP okAny)
theorem ok_is_indexes (t : Txt K mg) : Cl P w K mg base 4 "is_indexes" 1 T_forms_is_indexes := by
  have nb := t.nb
  have c_is_index := ok_is_index (P := P) (w := w) (base := base) t
  obtain ⟨g_is_index, cm_is_index, cv_is_index⟩ := c_is_index.toV
  have ct_is_index := ok_is_tuple_of (P := P) (w := w) (base := base) t cv_is_index
  refine cl_of t.d_is_indexes sc_is_indexes rfl (by intro xs Q h; unfold T_forms_is_indexes ofP at h; split at h <;> first | rfl | exact h.elim) (fun f cdv A outer s H E hr => (dss_one (ds_ret (de_callM ct_is_index hr (by decide) (by rfl) (dm_dat (de_var 0 (pv 0)) (dm_raw (pe_glob (v := .ref g_is_index) (by rfl) cm_is_index rfl) dm_nil)))))) (fun xs Q h => ?_)
  unfold T_forms_is_indexes ofP at h
  split at h
  rotate_left
  · exact h.elim
  rename_i x
  exact ⟨rfl, ⟨rfl, h.1⟩, h.2⟩
def T_forms_is_rows : DTP := ofP (tupB (tupB isIdxB)) (tupP (tupP okAny))
theorem ok_is_rows (t : Txt K mg) : Cl P w K mg base 6 "is_rows" 1 T_forms_is_rows := by
  have nb := t.nb
  have c_is_indexes := ok_is_indexes (P := P) (w := w) (base := base) t
  obtain ⟨g_is_indexes, cm_is_indexes, cv_is_indexes⟩ := c_is_indexes.toV
  have ct_is_indexes := ok_is_tuple_of (P := P) (w := w) (base := base) t cv_is_indexes
  refine cl_of t.d_is_rows sc_is_rows rfl (by intro xs Q h; unfold T_forms_is_rows ofP at h; split at h <;> first | rfl | exact h.elim) (fun f cdv A outer s H E hr => (dss_one (ds_ret (de_callM ct_is_indexes hr (by decide) (by rfl) (dm_dat (de_var 0 (pv 0)) (dm_raw (pe_glob (v := .ref g_is_indexes) (by rfl) cm_is_indexes rfl) dm_nil)))))) (fun xs Q h => ?_)
  unfold T_forms_is_rows ofP at h
  split at h
  rotate_left
  · exact h.elim
  rename_i x
  exact ⟨rfl, ⟨rfl, h.1⟩, h.2⟩

end LW

namespace LW
open PySem PySem.Spec PyProof.Rows L2 DL
variable {P : Program} {w : World} {K : PySem.W.Frag} {mg : Str → Option Value} {base : Heap}
/-! ### fractions -/
def T_forms_common_divisor : DTP := fun xs Q => match xs with
  | [.int a, .int b] => Q (.int ((Int.gcd a b : Nat) : Int))
  | _ => False
theorem ok_common_divisor (t : Txt K mg) : Cl P w K mg base 1 "common_divisor" 2 T_forms_common_divisor := by
  have nb := t.nb
  refine cl_of t.d_common_divisor sc_common_divisor rfl (by intro xs Q h; unfold T_forms_common_divisor at h; split at h <;> first | rfl | exact h.elim) (fun f cdv A outer s H E hr => (dss_cons (ds_par (i := 0) (j := 1) rfl sc_common_divisor.nd rfl rfl (by decide) rfl rfl (dm_dat (de_blt call_abs od_abs (by rfl) nb.abs_ (by decide +kernel) (da_cons (de_var 0 (pv 0)) da_nil)) (dm_dat (de_blt call_abs od_abs (by rfl) nb.abs_ (by decide +kernel) (da_cons (de_var 1 (pv 1)) da_nil)) dm_nil)) (by rfl))
 (dss_cons (ds_while PassesOwn.never (db_cmp (op_neD hr.units) od_ne (de_var 1 (pv 1)) de_int (nomark _))
 (dss_one (ds_par (i := 0) (j := 1) rfl sc_common_divisor.nd rfl rfl (by decide) rfl rfl (dm_dat (de_var 1 (pv 1)) (dm_dat (de_mod (de_var 0 (pv 0)) (de_var 1 (pv 1))) dm_nil)) (by rfl))))
 (dss_one (ds_ret (de_var 0 (pv 0))))))) (fun xs Q h => ?_)
  unfold T_forms_common_divisor at h
  split at h
  rotate_left
  · exact h.elim
  rename_i x y
  simp only [↓DL.dVar, ↓DL.dC, ↓DL.dU, ↓DL.dOp, ↓DL.dBor, ↓DL.dBorT, ↓DL.dnLst, ↓DL.dFz, ↓DL.dSetN, ↓DL.dmNil, ↓DL.dmDat, ↓DL.dmNew, ↓DL.dPar, ↓DL.setAt0, ↓DL.setAt1, ↓DL.setAt2, ↓DL.ownAt, ↓DL.dSetIx, ↓DL.dAugIx, ↓DL.dCallB, ↓DL.insAt, ↓DL.dFld, ↓DL.dFldD, ↓DL.dFldN, ↓DL.fownAt, ↓DL.dAppF, ↓DL.dMeth, ↓DL.daNil, ↓DL.dMake, ↓DL.dZip2, ↓DL.dZip3, ↓DL.oAddL, ↓DL.oMulL, ↓DL.dnOp, ↓DL.oListN, ↓DL.dnU, ↓DL.dChain, ↓DL.dgLst, ↓DL.dmRaw, ↓DL.dmVarR, ↓DL.dCallM, ↓DL.dCallL, ↓DL.oRepr, ↓DL.asInt, ↓DL.asBool, ↓DL.asTup, ↓DL.asLst, ↓DL.asSeq, ↓DL.oI0, ↓DL.oI, ↓DL.oNeg, ↓DL.oEq_int, ↓DL.oNe_int, ↓DL.oIsN, ↓DL.oNotN, ↓DL.oIsB, ↓DL.oNotB, ↓DL.dTst, ↓DL.dNotB, ↓DL.dAndB, ↓DL.dOrB, ↓DL.dAndV, ↓DL.dOrV, ↓DL.dNotV, ↓DL.dIf, ↓DL.dNil, ↓DL.dCons, ↓DL.dStar, ↓DL.dTup, ↓DL.dLst, ↓DL.itemAt0, ↓DL.itemAt1, ↓DL.itemAt2, ↓DL.itemAt3, ↓DL.oIx, ↓DL.dNoPart, ↓DL.dPart, ↓DL.dSl, ↓DL.dgName, ↓DL.dgNil, ↓DL.dgCons, ↓DL.dgTup, ↓DL.dNext, ↓DL.dSeq, ↓DL.dBreak, ↓DL.dCont, ↓DL.dDrop, ↓DL.dRet, ↓DL.dRetN, ↓DL.dIfS, ↓DL.dNever, ↓DL.dAsg, ↓DL.dAug, ↓DL.dOwn, ↓DL.dApp, ↓DL.dFrz, ↓DL.dFrzS, ↓DL.dIt, ↓DL.dItL, ↓DL.dItT, ↓DL.dRng1, ↓DL.dRng2, ↓DL.dZip, ↓DL.dFor, ↓DL.dYes, ↓DL.turnD, ↓DL.dLc, ↓DL.dRetO, ↓DL.dnCall, ↓DL.dnMove, ↓DL.frzAll, ↓DL.frz1, ↓DL.noLst, ↓DL.noLsts, ↓DL.dFz, ↓DL.dCall, ↓DL.dCB, ↓DL.oLen, ↓DL.oAbs, ↓DL.oInt2, ↓DL.oInt, ↓DL.oTuple, ↓DL.oList, ↓DL.dIsi, ↓DL.dEnum, ↓DL.oAdd, ↓DL.oMul, ↓DL.putAll, ↓DL.isNone, ↓DL.isIntB, ↓DL.isBoolB, ↓DL.isTupB, ↓DL.isStrB, ↓List.map_cons, ↓List.map_nil, ↓List.length_cons, ↓List.length_nil, ↓List.replicate_succ, ↓List.replicate_zero, ↓List.cons_append, ↓List.nil_append, ↓List.append_nil, ↓List.getElem?_cons_zero, ↓List.getElem?_cons_succ, ↓List.set_cons_zero, ↓List.set_cons_succ, Nat.reduceAdd, Nat.reduceSub, Nat.sub_self, Nat.add_sub_cancel, Nat.zero_add, ↓List.append_assoc, ↓DL.ifd_t, ↓DL.ifd_f, ↓DL.sz0, ↓DL.sz1, ↓DL.sz2, ↓DL.sz3, ↓DL.sz4, ↓DL.sz5, ↓DL.sz6, ↓DL.sz7, ↓DL.sz8, ↓DL.sz9, ↓DL.sz10, ↓DL.sz11, ↓DL.sz12, ↓DL.sz13, ↓DL.sz14, ↓DL.sz15, Bool.false_eq_true, ↓Bool.not_true, ↓Bool.not_false, ↓true_and, ↓and_true]
  refine while_of (fun m ρ => ∃ a b : Nat, ρ = [.d (.int a), .d (.int b)] ∧ m = b ∧ Nat.gcd a b = Int.gcd x y) (fun m ρ N hN hI => ?_) (m := y.natAbs) ⟨x.natAbs, y.natAbs, by rw [absI, absI], rfl, rfl⟩
  obtain ⟨a, b, rfl, hm, hg⟩ := hI
  simp only [↓DL.dVar, ↓DL.dC, ↓DL.dU, ↓DL.dOp, ↓DL.dBor, ↓DL.dBorT, ↓DL.dnLst, ↓DL.dFz, ↓DL.dSetN, ↓DL.dmNil, ↓DL.dmDat, ↓DL.dmNew, ↓DL.dPar, ↓DL.setAt0, ↓DL.setAt1, ↓DL.setAt2, ↓DL.ownAt, ↓DL.dSetIx, ↓DL.dAugIx, ↓DL.dCallB, ↓DL.insAt, ↓DL.dFld, ↓DL.dFldD, ↓DL.dFldN, ↓DL.fownAt, ↓DL.dAppF, ↓DL.dMeth, ↓DL.daNil, ↓DL.dMake, ↓DL.dZip2, ↓DL.dZip3, ↓DL.oAddL, ↓DL.oMulL, ↓DL.dnOp, ↓DL.oListN, ↓DL.dnU, ↓DL.dChain, ↓DL.dgLst, ↓DL.dmRaw, ↓DL.dmVarR, ↓DL.dCallM, ↓DL.dCallL, ↓DL.oRepr, ↓DL.asInt, ↓DL.asBool, ↓DL.asTup, ↓DL.asLst, ↓DL.asSeq, ↓DL.oI0, ↓DL.oI, ↓DL.oNeg, ↓DL.oEq_int, ↓DL.oNe_int, ↓DL.oIsN, ↓DL.oNotN, ↓DL.oIsB, ↓DL.oNotB, ↓DL.dTst, ↓DL.dNotB, ↓DL.dAndB, ↓DL.dOrB, ↓DL.dAndV, ↓DL.dOrV, ↓DL.dNotV, ↓DL.dIf, ↓DL.dNil, ↓DL.dCons, ↓DL.dStar, ↓DL.dTup, ↓DL.dLst, ↓DL.itemAt0, ↓DL.itemAt1, ↓DL.itemAt2, ↓DL.itemAt3, ↓DL.oIx, ↓DL.dNoPart, ↓DL.dPart, ↓DL.dSl, ↓DL.dgName, ↓DL.dgNil, ↓DL.dgCons, ↓DL.dgTup, ↓DL.dNext, ↓DL.dSeq, ↓DL.dBreak, ↓DL.dCont, ↓DL.dDrop, ↓DL.dRet, ↓DL.dRetN, ↓DL.dIfS, ↓DL.dNever, ↓DL.dAsg, ↓DL.dAug, ↓DL.dOwn, ↓DL.dApp, ↓DL.dFrz, ↓DL.dFrzS, ↓DL.dIt, ↓DL.dItL, ↓DL.dItT, ↓DL.dRng1, ↓DL.dRng2, ↓DL.dZip, ↓DL.dFor, ↓DL.dYes, ↓DL.turnD, ↓DL.dLc, ↓DL.dRetO, ↓DL.dnCall, ↓DL.dnMove, ↓DL.frzAll, ↓DL.frz1, ↓DL.noLst, ↓DL.noLsts, ↓DL.dFz, ↓DL.dCall, ↓DL.dCB, ↓DL.oLen, ↓DL.oAbs, ↓DL.oInt2, ↓DL.oInt, ↓DL.oTuple, ↓DL.oList, ↓DL.dIsi, ↓DL.dEnum, ↓DL.oAdd, ↓DL.oMul, ↓DL.putAll, ↓DL.isNone, ↓DL.isIntB, ↓DL.isBoolB, ↓DL.isTupB, ↓DL.isStrB, ↓List.map_cons, ↓List.map_nil, ↓List.length_cons, ↓List.length_nil, ↓List.replicate_succ, ↓List.replicate_zero, ↓List.cons_append, ↓List.nil_append, ↓List.append_nil, ↓List.getElem?_cons_zero, ↓List.getElem?_cons_succ, ↓List.set_cons_zero, ↓List.set_cons_succ, Nat.reduceAdd, Nat.reduceSub, Nat.sub_self, Nat.add_sub_cancel, Nat.zero_add, ↓List.append_assoc, ↓DL.ifd_t, ↓DL.ifd_f, ↓DL.sz0, ↓DL.sz1, ↓DL.sz2, ↓DL.sz3, ↓DL.sz4, ↓DL.sz5, ↓DL.sz6, ↓DL.sz7, ↓DL.sz8, ↓DL.sz9, ↓DL.sz10, ↓DL.sz11, ↓DL.sz12, ↓DL.sz13, ↓DL.sz14, ↓DL.sz15, Bool.false_eq_true, ↓Bool.not_true, ↓Bool.not_false, ↓true_and, ↓and_true]
  by_cases hb : (b : Int) = 0
  · have hb' : b = 0 := by omega
    subst hb'
    rw [Nat.gcd_zero_right] at hg
    rw [decide_eq_true hb]
    simp only [↓DL.dVar, ↓DL.dC, ↓DL.dU, ↓DL.dOp, ↓DL.dBor, ↓DL.dBorT, ↓DL.dnLst, ↓DL.dFz, ↓DL.dSetN, ↓DL.dmNil, ↓DL.dmDat, ↓DL.dmNew, ↓DL.dPar, ↓DL.setAt0, ↓DL.setAt1, ↓DL.setAt2, ↓DL.ownAt, ↓DL.dSetIx, ↓DL.dAugIx, ↓DL.dCallB, ↓DL.insAt, ↓DL.dFld, ↓DL.dFldD, ↓DL.dFldN, ↓DL.fownAt, ↓DL.dAppF, ↓DL.dMeth, ↓DL.daNil, ↓DL.dMake, ↓DL.dZip2, ↓DL.dZip3, ↓DL.oAddL, ↓DL.oMulL, ↓DL.dnOp, ↓DL.oListN, ↓DL.dnU, ↓DL.dChain, ↓DL.dgLst, ↓DL.dmRaw, ↓DL.dmVarR, ↓DL.dCallM, ↓DL.dCallL, ↓DL.oRepr, ↓DL.asInt, ↓DL.asBool, ↓DL.asTup, ↓DL.asLst, ↓DL.asSeq, ↓DL.oI0, ↓DL.oI, ↓DL.oNeg, ↓DL.oEq_int, ↓DL.oNe_int, ↓DL.oIsN, ↓DL.oNotN, ↓DL.oIsB, ↓DL.oNotB, ↓DL.dTst, ↓DL.dNotB, ↓DL.dAndB, ↓DL.dOrB, ↓DL.dAndV, ↓DL.dOrV, ↓DL.dNotV, ↓DL.dIf, ↓DL.dNil, ↓DL.dCons, ↓DL.dStar, ↓DL.dTup, ↓DL.dLst, ↓DL.itemAt0, ↓DL.itemAt1, ↓DL.itemAt2, ↓DL.itemAt3, ↓DL.oIx, ↓DL.dNoPart, ↓DL.dPart, ↓DL.dSl, ↓DL.dgName, ↓DL.dgNil, ↓DL.dgCons, ↓DL.dgTup, ↓DL.dNext, ↓DL.dSeq, ↓DL.dBreak, ↓DL.dCont, ↓DL.dDrop, ↓DL.dRet, ↓DL.dRetN, ↓DL.dIfS, ↓DL.dNever, ↓DL.dAsg, ↓DL.dAug, ↓DL.dOwn, ↓DL.dApp, ↓DL.dFrz, ↓DL.dFrzS, ↓DL.dIt, ↓DL.dItL, ↓DL.dItT, ↓DL.dRng1, ↓DL.dRng2, ↓DL.dZip, ↓DL.dFor, ↓DL.dYes, ↓DL.turnD, ↓DL.dLc, ↓DL.dRetO, ↓DL.dnCall, ↓DL.dnMove, ↓DL.frzAll, ↓DL.frz1, ↓DL.noLst, ↓DL.noLsts, ↓DL.dFz, ↓DL.dCall, ↓DL.dCB, ↓DL.oLen, ↓DL.oAbs, ↓DL.oInt2, ↓DL.oInt, ↓DL.oTuple, ↓DL.oList, ↓DL.dIsi, ↓DL.dEnum, ↓DL.oAdd, ↓DL.oMul, ↓DL.putAll, ↓DL.isNone, ↓DL.isIntB, ↓DL.isBoolB, ↓DL.isTupB, ↓DL.isStrB, ↓List.map_cons, ↓List.map_nil, ↓List.length_cons, ↓List.length_nil, ↓List.replicate_succ, ↓List.replicate_zero, ↓List.cons_append, ↓List.nil_append, ↓List.append_nil, ↓List.getElem?_cons_zero, ↓List.getElem?_cons_succ, ↓List.set_cons_zero, ↓List.set_cons_succ, Nat.reduceAdd, Nat.reduceSub, Nat.sub_self, Nat.add_sub_cancel, Nat.zero_add, ↓List.append_assoc, ↓DL.ifd_t, ↓DL.ifd_f, ↓DL.sz0, ↓DL.sz1, ↓DL.sz2, ↓DL.sz3, ↓DL.sz4, ↓DL.sz5, ↓DL.sz6, ↓DL.sz7, ↓DL.sz8, ↓DL.sz9, ↓DL.sz10, ↓DL.sz11, ↓DL.sz12, ↓DL.sz13, ↓DL.sz14, ↓DL.sz15, Bool.false_eq_true, ↓Bool.not_true, ↓Bool.not_false, ↓true_and, ↓and_true]
    rw [hg]
    exact h
  · rw [decide_eq_false hb]
    simp only [↓DL.dVar, ↓DL.dC, ↓DL.dU, ↓DL.dOp, ↓DL.dBor, ↓DL.dBorT, ↓DL.dnLst, ↓DL.dFz, ↓DL.dSetN, ↓DL.dmNil, ↓DL.dmDat, ↓DL.dmNew, ↓DL.dPar, ↓DL.setAt0, ↓DL.setAt1, ↓DL.setAt2, ↓DL.ownAt, ↓DL.dSetIx, ↓DL.dAugIx, ↓DL.dCallB, ↓DL.insAt, ↓DL.dFld, ↓DL.dFldD, ↓DL.dFldN, ↓DL.fownAt, ↓DL.dAppF, ↓DL.dMeth, ↓DL.daNil, ↓DL.dMake, ↓DL.dZip2, ↓DL.dZip3, ↓DL.oAddL, ↓DL.oMulL, ↓DL.dnOp, ↓DL.oListN, ↓DL.dnU, ↓DL.dChain, ↓DL.dgLst, ↓DL.dmRaw, ↓DL.dmVarR, ↓DL.dCallM, ↓DL.dCallL, ↓DL.oRepr, ↓DL.asInt, ↓DL.asBool, ↓DL.asTup, ↓DL.asLst, ↓DL.asSeq, ↓DL.oI0, ↓DL.oI, ↓DL.oNeg, ↓DL.oEq_int, ↓DL.oNe_int, ↓DL.oIsN, ↓DL.oNotN, ↓DL.oIsB, ↓DL.oNotB, ↓DL.dTst, ↓DL.dNotB, ↓DL.dAndB, ↓DL.dOrB, ↓DL.dAndV, ↓DL.dOrV, ↓DL.dNotV, ↓DL.dIf, ↓DL.dNil, ↓DL.dCons, ↓DL.dStar, ↓DL.dTup, ↓DL.dLst, ↓DL.itemAt0, ↓DL.itemAt1, ↓DL.itemAt2, ↓DL.itemAt3, ↓DL.oIx, ↓DL.dNoPart, ↓DL.dPart, ↓DL.dSl, ↓DL.dgName, ↓DL.dgNil, ↓DL.dgCons, ↓DL.dgTup, ↓DL.dNext, ↓DL.dSeq, ↓DL.dBreak, ↓DL.dCont, ↓DL.dDrop, ↓DL.dRet, ↓DL.dRetN, ↓DL.dIfS, ↓DL.dNever, ↓DL.dAsg, ↓DL.dAug, ↓DL.dOwn, ↓DL.dApp, ↓DL.dFrz, ↓DL.dFrzS, ↓DL.dIt, ↓DL.dItL, ↓DL.dItT, ↓DL.dRng1, ↓DL.dRng2, ↓DL.dZip, ↓DL.dFor, ↓DL.dYes, ↓DL.turnD, ↓DL.dLc, ↓DL.dRetO, ↓DL.dnCall, ↓DL.dnMove, ↓DL.frzAll, ↓DL.frz1, ↓DL.noLst, ↓DL.noLsts, ↓DL.dFz, ↓DL.dCall, ↓DL.dCB, ↓DL.oLen, ↓DL.oAbs, ↓DL.oInt2, ↓DL.oInt, ↓DL.oTuple, ↓DL.oList, ↓DL.dIsi, ↓DL.dEnum, ↓DL.oAdd, ↓DL.oMul, ↓DL.putAll, ↓DL.isNone, ↓DL.isIntB, ↓DL.isBoolB, ↓DL.isTupB, ↓DL.isStrB, ↓List.map_cons, ↓List.map_nil, ↓List.length_cons, ↓List.length_nil, ↓List.replicate_succ, ↓List.replicate_zero, ↓List.cons_append, ↓List.nil_append, ↓List.append_nil, ↓List.getElem?_cons_zero, ↓List.getElem?_cons_succ, ↓List.set_cons_zero, ↓List.set_cons_succ, Nat.reduceAdd, Nat.reduceSub, Nat.sub_self, Nat.add_sub_cancel, Nat.zero_add, ↓List.append_assoc, ↓DL.ifd_t, ↓DL.ifd_f, ↓DL.sz0, ↓DL.sz1, ↓DL.sz2, ↓DL.sz3, ↓DL.sz4, ↓DL.sz5, ↓DL.sz6, ↓DL.sz7, ↓DL.sz8, ↓DL.sz9, ↓DL.sz10, ↓DL.sz11, ↓DL.sz12, ↓DL.sz13, ↓DL.sz14, ↓DL.sz15, Bool.false_eq_true, ↓Bool.not_true, ↓Bool.not_false, ↓true_and, ↓and_true]
    refine ⟨by omega, hN (a % b) _ (by rw [hm]; exact Nat.mod_lt _ (by omega)) ⟨b, a % b, ?_, rfl, ?_⟩⟩
    · rw [Int.natCast_emod]
    · rw [← hg, Nat.gcd_comm b, ← Nat.gcd_rec, Nat.gcd_comm]
def T_fractions_made : DTP := fun xs Q => match xs with
  | [.int a, .int b] => (0 < b ∧ b.natAbs < 2 ^ 250) ∧ Q (fr (mkRat a b.toNat))
  | _ => False
theorem ok_made (t : Txt K mg) : Cl P w K mg base 2 "made" 2 T_fractions_made := by
  have nb := t.nb
  have c_common_divisor := ok_common_divisor (P := P) (w := w) (base := base) t
  have c_is_number := ok_is_number (P := P) (w := w) (base := base) t
  refine cl_of t.d_made sc_made rfl (by intro xs Q h; unfold T_fractions_made at h; split at h <;> first | rfl | exact h.elim) (fun f cdv A outer s H E hr => (dss_cons (ds_if (db_w (dw_or (db_not (db_val (de_callC c_is_number hr (by decide) (by rfl) (da_cons (de_var 0 (pv 0)) da_nil)))) (dw_or (db_not (db_val (de_callC c_is_number hr (by decide) (by rfl) (da_cons (de_var 1 (pv 1)) da_nil)))) (dw_or1 (db_cmp (op_eqD hr.units) od_eq (de_var 1 (pv 1)) de_int (nomark _)))))) (dss_one ds_never) dss_nil)
 (dss_cons (ds_set (i := 2) sc_made.nd rfl (by first | exact .inl rfl | exact .inr rfl) (de_ifExp (db_cmp op_gt od_gt (de_var 1 (pv 1)) de_int (nomark _)) (de_callC c_common_divisor hr (by decide) (by rfl) (da_cons (de_var 0 (pv 0)) (da_cons (de_var 1 (pv 1)) da_nil))) (de_neg (de_callC c_common_divisor hr (by decide) (by rfl) (da_cons (de_var 0 (pv 0)) (da_cons (de_var 1 (pv 1)) da_nil))))))
 (dss_one (ds_ret (de_tup (da_cons (de_div (de_var 0 (pv 0)) (de_var 2 (pv 2))) (da_cons (de_div (de_var 1 (pv 1)) (de_var 2 (pv 2))) da_nil)))))))) (fun xs Q h => ?_)
  unfold T_fractions_made at h
  split at h
  rotate_left
  · exact h.elim
  rename_i x y
  obtain ⟨⟨h0, h1⟩, h⟩ := h
  have hb : (y.toNat : Int) = y := Int.toNat_of_nonneg (by omega)
  have hn : y.toNat ≠ 0 := by omega
  rw [fr_mk hn, hb] at h
  have hg : 0 < Int.gcd x y := Int.gcd_pos_of_ne_zero_right _ (by omega)
  have hle : ((Int.gcd x y : Nat) : Int) ≤ y := Int.le_of_dvd h0 (Int.gcd_dvd_right ..)
  have hd : ∀ z, CDivW z ((Int.gcd x y : Nat) : Int) := fun z => wide_div (by omega) (b := 250) (by omega) (by decide) (by decide)
  simp only [↓DL.dVar, ↓DL.dC, ↓DL.dU, ↓DL.dOp, ↓DL.dBor, ↓DL.dBorT, ↓DL.dnLst, ↓DL.dFz, ↓DL.dSetN, ↓DL.dmNil, ↓DL.dmDat, ↓DL.dmNew, ↓DL.dPar, ↓DL.setAt0, ↓DL.setAt1, ↓DL.setAt2, ↓DL.ownAt, ↓DL.dSetIx, ↓DL.dAugIx, ↓DL.dCallB, ↓DL.insAt, ↓DL.dFld, ↓DL.dFldD, ↓DL.dFldN, ↓DL.fownAt, ↓DL.dAppF, ↓DL.dMeth, ↓DL.daNil, ↓DL.dMake, ↓DL.dZip2, ↓DL.dZip3, ↓DL.oAddL, ↓DL.oMulL, ↓DL.dnOp, ↓DL.oListN, ↓DL.dnU, ↓DL.dChain, ↓DL.dgLst, ↓DL.dmRaw, ↓DL.dmVarR, ↓DL.dCallM, ↓DL.dCallL, ↓DL.oRepr, ↓DL.asInt, ↓DL.asBool, ↓DL.asTup, ↓DL.asLst, ↓DL.asSeq, ↓DL.oI0, ↓DL.oI, ↓DL.oNeg, ↓DL.oEq_int, ↓DL.oNe_int, ↓DL.oIsN, ↓DL.oNotN, ↓DL.oIsB, ↓DL.oNotB, ↓DL.dTst, ↓DL.dNotB, ↓DL.dAndB, ↓DL.dOrB, ↓DL.dAndV, ↓DL.dOrV, ↓DL.dNotV, ↓DL.dIf, ↓DL.dNil, ↓DL.dCons, ↓DL.dStar, ↓DL.dTup, ↓DL.dLst, ↓DL.itemAt0, ↓DL.itemAt1, ↓DL.itemAt2, ↓DL.itemAt3, ↓DL.oIx, ↓DL.dNoPart, ↓DL.dPart, ↓DL.dSl, ↓DL.dgName, ↓DL.dgNil, ↓DL.dgCons, ↓DL.dgTup, ↓DL.dNext, ↓DL.dSeq, ↓DL.dBreak, ↓DL.dCont, ↓DL.dDrop, ↓DL.dRet, ↓DL.dRetN, ↓DL.dIfS, ↓DL.dNever, ↓DL.dAsg, ↓DL.dAug, ↓DL.dOwn, ↓DL.dApp, ↓DL.dFrz, ↓DL.dFrzS, ↓DL.dIt, ↓DL.dItL, ↓DL.dItT, ↓DL.dRng1, ↓DL.dRng2, ↓DL.dZip, ↓DL.dFor, ↓DL.dYes, ↓DL.turnD, ↓DL.dLc, ↓DL.dRetO, ↓DL.dnCall, ↓DL.dnMove, ↓DL.frzAll, ↓DL.frz1, ↓DL.noLst, ↓DL.noLsts, ↓DL.dFz, ↓DL.dCall, ↓DL.dCB, ↓DL.oLen, ↓DL.oAbs, ↓DL.oInt2, ↓DL.oInt, ↓DL.oTuple, ↓DL.oList, ↓DL.dIsi, ↓DL.dEnum, ↓DL.oAdd, ↓DL.oMul, ↓DL.putAll, ↓DL.isNone, ↓DL.isIntB, ↓DL.isBoolB, ↓DL.isTupB, ↓DL.isStrB, ↓List.map_cons, ↓List.map_nil, ↓List.length_cons, ↓List.length_nil, ↓List.replicate_succ, ↓List.replicate_zero, ↓List.cons_append, ↓List.nil_append, ↓List.append_nil, ↓List.getElem?_cons_zero, ↓List.getElem?_cons_succ, ↓List.set_cons_zero, ↓List.set_cons_succ, Nat.reduceAdd, Nat.reduceSub, Nat.sub_self, Nat.add_sub_cancel, Nat.zero_add, ↓List.append_assoc, ↓DL.ifd_t, ↓DL.ifd_f, ↓DL.sz0, ↓DL.sz1, ↓DL.sz2, ↓DL.sz3, ↓DL.sz4, ↓DL.sz5, ↓DL.sz6, ↓DL.sz7, ↓DL.sz8, ↓DL.sz9, ↓DL.sz10, ↓DL.sz11, ↓DL.sz12, ↓DL.sz13, ↓DL.sz14, ↓DL.sz15, Bool.false_eq_true, ↓Bool.not_true, ↓Bool.not_false, ↓true_and, ↓and_true, T_forms_is_number, ofP, isNumB, okAny, T_forms_common_divisor, decide_eq_false (show ¬ y = 0 by omega), decide_eq_true h0, Bool.not_true]
  exact ⟨hd x, hd y, h⟩
def T_fractions_whole : DTP := fun xs Q => match xs with
  | [.int n] => Q (fr (n : Rat))
  | _ => False
theorem ok_whole (t : Txt K mg) : Cl P w K mg base 1 "whole" 1 T_fractions_whole := by
  have nb := t.nb
  refine cl_of t.d_whole sc_whole rfl (by intro xs Q h; unfold T_fractions_whole at h; split at h <;> first | rfl | exact h.elim) (fun f cdv A outer s H E hr => (dss_one (ds_ret (de_tup (da_cons (de_var 0 (pv 0)) (da_cons de_int da_nil)))))) (fun xs Q h => ?_)
  unfold T_fractions_whole at h
  split at h
  rotate_left
  · exact h.elim
  rename_i x
  rw [fr_int] at h
  exact ⟨by show 2 ≤ sizeLine; decide, h⟩
def T_fractions_added : DTP := fun xs Q => match xs with
  | [a, b] => ∃ p q : Rat, (a = fr p ∧ b = fr q ∧ sm p ∧ sm q) ∧ Q (fr (p + q))
  | _ => False
theorem ok_added (t : Txt K mg) : Cl P w K mg base 3 "added" 2 T_fractions_added := by
  have nb := t.nb
  have c_made := ok_made (P := P) (w := w) (base := base) t
  refine cl_of t.d_added sc_added rfl (by intro xs Q h; unfold T_fractions_added at h; split at h <;> first | rfl | exact h.elim) (fun f cdv A outer s H E hr => (dss_one (ds_ret (de_callC c_made hr (by decide) (by rfl) (da_cons (de_addA (de_mulA (de_ix (de_var 0 (pv 0)) de_int) (de_ix (de_var 1 (pv 1)) de_int)) (de_mulA (de_ix (de_var 1 (pv 1)) de_int) (de_ix (de_var 0 (pv 0)) de_int))) (da_cons (de_mulA (de_ix (de_var 0 (pv 0)) de_int) (de_ix (de_var 1 (pv 1)) de_int)) da_nil)))))) (fun xs Q h => ?_)
  unfold T_fractions_added at h
  split at h
  rotate_left
  · exact h.elim
  rename_i x y
  obtain ⟨p, q, ⟨rfl, rfl, hp, hq⟩, h⟩ := h
  have e : p + q = mkRat (p.num * (q.den : Int) + q.num * (p.den : Int)) ((p.den : Int) * (q.den : Int)).toNat := by
    rw [Rat.add_def', ← Int.natCast_mul, Int.toNat_natCast]
  rw [e] at h
  simp only [↓DL.dVar, ↓DL.dC, ↓DL.dU, ↓DL.dOp, ↓DL.dBor, ↓DL.dBorT, ↓DL.dnLst, ↓DL.dFz, ↓DL.dSetN, ↓DL.dmNil, ↓DL.dmDat, ↓DL.dmNew, ↓DL.dPar, ↓DL.setAt0, ↓DL.setAt1, ↓DL.setAt2, ↓DL.ownAt, ↓DL.dSetIx, ↓DL.dAugIx, ↓DL.dCallB, ↓DL.insAt, ↓DL.dFld, ↓DL.dFldD, ↓DL.dFldN, ↓DL.fownAt, ↓DL.dAppF, ↓DL.dMeth, ↓DL.daNil, ↓DL.dMake, ↓DL.dZip2, ↓DL.dZip3, ↓DL.oAddL, ↓DL.oMulL, ↓DL.dnOp, ↓DL.oListN, ↓DL.dnU, ↓DL.dChain, ↓DL.dgLst, ↓DL.dmRaw, ↓DL.dmVarR, ↓DL.dCallM, ↓DL.dCallL, ↓DL.oRepr, ↓DL.asInt, ↓DL.asBool, ↓DL.asTup, ↓DL.asLst, ↓DL.asSeq, ↓DL.oI0, ↓DL.oI, ↓DL.oNeg, ↓DL.oEq_int, ↓DL.oNe_int, ↓DL.oIsN, ↓DL.oNotN, ↓DL.oIsB, ↓DL.oNotB, ↓DL.dTst, ↓DL.dNotB, ↓DL.dAndB, ↓DL.dOrB, ↓DL.dAndV, ↓DL.dOrV, ↓DL.dNotV, ↓DL.dIf, ↓DL.dNil, ↓DL.dCons, ↓DL.dStar, ↓DL.dTup, ↓DL.dLst, ↓DL.itemAt0, ↓DL.itemAt1, ↓DL.itemAt2, ↓DL.itemAt3, ↓DL.oIx, ↓DL.dNoPart, ↓DL.dPart, ↓DL.dSl, ↓DL.dgName, ↓DL.dgNil, ↓DL.dgCons, ↓DL.dgTup, ↓DL.dNext, ↓DL.dSeq, ↓DL.dBreak, ↓DL.dCont, ↓DL.dDrop, ↓DL.dRet, ↓DL.dRetN, ↓DL.dIfS, ↓DL.dNever, ↓DL.dAsg, ↓DL.dAug, ↓DL.dOwn, ↓DL.dApp, ↓DL.dFrz, ↓DL.dFrzS, ↓DL.dIt, ↓DL.dItL, ↓DL.dItT, ↓DL.dRng1, ↓DL.dRng2, ↓DL.dZip, ↓DL.dFor, ↓DL.dYes, ↓DL.turnD, ↓DL.dLc, ↓DL.dRetO, ↓DL.dnCall, ↓DL.dnMove, ↓DL.frzAll, ↓DL.frz1, ↓DL.noLst, ↓DL.noLsts, ↓DL.dFz, ↓DL.dCall, ↓DL.dCB, ↓DL.oLen, ↓DL.oAbs, ↓DL.oInt2, ↓DL.oInt, ↓DL.oTuple, ↓DL.oList, ↓DL.dIsi, ↓DL.dEnum, ↓DL.oAdd, ↓DL.oMul, ↓DL.putAll, ↓DL.isNone, ↓DL.isIntB, ↓DL.isBoolB, ↓DL.isTupB, ↓DL.isStrB, ↓List.map_cons, ↓List.map_nil, ↓List.length_cons, ↓List.length_nil, ↓List.replicate_succ, ↓List.replicate_zero, ↓List.cons_append, ↓List.nil_append, ↓List.append_nil, ↓List.getElem?_cons_zero, ↓List.getElem?_cons_succ, ↓List.set_cons_zero, ↓List.set_cons_succ, Nat.reduceAdd, Nat.reduceSub, Nat.sub_self, Nat.add_sub_cancel, Nat.zero_add, ↓List.append_assoc, ↓DL.ifd_t, ↓DL.ifd_f, ↓DL.sz0, ↓DL.sz1, ↓DL.sz2, ↓DL.sz3, ↓DL.sz4, ↓DL.sz5, ↓DL.sz6, ↓DL.sz7, ↓DL.sz8, ↓DL.sz9, ↓DL.sz10, ↓DL.sz11, ↓DL.sz12, ↓DL.sz13, ↓DL.sz14, ↓DL.sz15, Bool.false_eq_true, ↓Bool.not_true, ↓Bool.not_false, ↓true_and, ↓and_true, fr, T_fractions_made]
  have hpos : (0 : Int) < (p.den : Int) * (q.den : Int) := by
    have := Nat.mul_pos p.den_pos q.den_pos
    omega
  have hlt : ((p.den : Int) * (q.den : Int)).natAbs < 2 ^ 250 := by
    rw [← Int.natCast_mul, Int.natAbs_natCast]
    have := Nat.mul_lt_mul'' hp.2 hq.2
    exact Nat.lt_of_lt_of_le this (by decide)
  exact ⟨sm_mul hp hq, sm_mul hq hp, sm_mulD hp hq, ⟨hpos, hlt⟩, h⟩
def T_fractions_negative : DTP := fun xs Q => match xs with
  | [a] => ∃ p : Rat, a = fr p ∧ Q (fr (-p))
  | _ => False
theorem ok_negative (t : Txt K mg) : Cl P w K mg base 1 "negative" 1 T_fractions_negative := by
  have nb := t.nb
  refine cl_of t.d_negative sc_negative rfl (by intro xs Q h; unfold T_fractions_negative at h; split at h <;> first | rfl | exact h.elim) (fun f cdv A outer s H E hr => (dss_one (ds_ret (de_tup (da_cons (de_sub de_int (de_ix (de_var 0 (pv 0)) de_int)) (da_cons (de_ix (de_var 0 (pv 0)) de_int) da_nil)))))) (fun xs Q h => ?_)
  unfold T_fractions_negative at h
  split at h
  rotate_left
  · exact h.elim
  rename_i x
  obtain ⟨p, rfl, h⟩ := h
  rw [fr_neg] at h
  simp only [↓DL.dVar, ↓DL.dC, ↓DL.dU, ↓DL.dOp, ↓DL.dBor, ↓DL.dBorT, ↓DL.dnLst, ↓DL.dFz, ↓DL.dSetN, ↓DL.dmNil, ↓DL.dmDat, ↓DL.dmNew, ↓DL.dPar, ↓DL.setAt0, ↓DL.setAt1, ↓DL.setAt2, ↓DL.ownAt, ↓DL.dSetIx, ↓DL.dAugIx, ↓DL.dCallB, ↓DL.insAt, ↓DL.dFld, ↓DL.dFldD, ↓DL.dFldN, ↓DL.fownAt, ↓DL.dAppF, ↓DL.dMeth, ↓DL.daNil, ↓DL.dMake, ↓DL.dZip2, ↓DL.dZip3, ↓DL.oAddL, ↓DL.oMulL, ↓DL.dnOp, ↓DL.oListN, ↓DL.dnU, ↓DL.dChain, ↓DL.dgLst, ↓DL.dmRaw, ↓DL.dmVarR, ↓DL.dCallM, ↓DL.dCallL, ↓DL.oRepr, ↓DL.asInt, ↓DL.asBool, ↓DL.asTup, ↓DL.asLst, ↓DL.asSeq, ↓DL.oI0, ↓DL.oI, ↓DL.oNeg, ↓DL.oEq_int, ↓DL.oNe_int, ↓DL.oIsN, ↓DL.oNotN, ↓DL.oIsB, ↓DL.oNotB, ↓DL.dTst, ↓DL.dNotB, ↓DL.dAndB, ↓DL.dOrB, ↓DL.dAndV, ↓DL.dOrV, ↓DL.dNotV, ↓DL.dIf, ↓DL.dNil, ↓DL.dCons, ↓DL.dStar, ↓DL.dTup, ↓DL.dLst, ↓DL.itemAt0, ↓DL.itemAt1, ↓DL.itemAt2, ↓DL.itemAt3, ↓DL.oIx, ↓DL.dNoPart, ↓DL.dPart, ↓DL.dSl, ↓DL.dgName, ↓DL.dgNil, ↓DL.dgCons, ↓DL.dgTup, ↓DL.dNext, ↓DL.dSeq, ↓DL.dBreak, ↓DL.dCont, ↓DL.dDrop, ↓DL.dRet, ↓DL.dRetN, ↓DL.dIfS, ↓DL.dNever, ↓DL.dAsg, ↓DL.dAug, ↓DL.dOwn, ↓DL.dApp, ↓DL.dFrz, ↓DL.dFrzS, ↓DL.dIt, ↓DL.dItL, ↓DL.dItT, ↓DL.dRng1, ↓DL.dRng2, ↓DL.dZip, ↓DL.dFor, ↓DL.dYes, ↓DL.turnD, ↓DL.dLc, ↓DL.dRetO, ↓DL.dnCall, ↓DL.dnMove, ↓DL.frzAll, ↓DL.frz1, ↓DL.noLst, ↓DL.noLsts, ↓DL.dFz, ↓DL.dCall, ↓DL.dCB, ↓DL.oLen, ↓DL.oAbs, ↓DL.oInt2, ↓DL.oInt, ↓DL.oTuple, ↓DL.oList, ↓DL.dIsi, ↓DL.dEnum, ↓DL.oAdd, ↓DL.oMul, ↓DL.putAll, ↓DL.isNone, ↓DL.isIntB, ↓DL.isBoolB, ↓DL.isTupB, ↓DL.isStrB, ↓List.map_cons, ↓List.map_nil, ↓List.length_cons, ↓List.length_nil, ↓List.replicate_succ, ↓List.replicate_zero, ↓List.cons_append, ↓List.nil_append, ↓List.append_nil, ↓List.getElem?_cons_zero, ↓List.getElem?_cons_succ, ↓List.set_cons_zero, ↓List.set_cons_succ, Nat.reduceAdd, Nat.reduceSub, Nat.sub_self, Nat.add_sub_cancel, Nat.zero_add, ↓List.append_assoc, ↓DL.ifd_t, ↓DL.ifd_f, ↓DL.sz0, ↓DL.sz1, ↓DL.sz2, ↓DL.sz3, ↓DL.sz4, ↓DL.sz5, ↓DL.sz6, ↓DL.sz7, ↓DL.sz8, ↓DL.sz9, ↓DL.sz10, ↓DL.sz11, ↓DL.sz12, ↓DL.sz13, ↓DL.sz14, ↓DL.sz15, Bool.false_eq_true, ↓Bool.not_true, ↓Bool.not_false, ↓true_and, ↓and_true, fr]
  exact h
def T_fractions_less : DTP := fun xs Q => match xs with
  | [a, b] => ∃ p q : Rat, (a = fr p ∧ b = fr q ∧ sm p ∧ sm q) ∧ Q (fr (p - q))
  | _ => False
theorem ok_less (t : Txt K mg) : Cl P w K mg base 4 "less" 2 T_fractions_less := by
  have nb := t.nb
  have c_added := ok_added (P := P) (w := w) (base := base) t
  have c_negative := ok_negative (P := P) (w := w) (base := base) t
  refine cl_of t.d_less sc_less rfl (by intro xs Q h; unfold T_fractions_less at h; split at h <;> first | rfl | exact h.elim) (fun f cdv A outer s H E hr => (dss_one (ds_ret (de_callC c_added hr (by decide) (by rfl) (da_cons (de_var 0 (pv 0)) (da_cons (de_callC c_negative hr (by decide) (by rfl) (da_cons (de_var 1 (pv 1)) da_nil)) da_nil)))))) (fun xs Q h => ?_)
  unfold T_fractions_less at h
  split at h
  rotate_left
  · exact h.elim
  rename_i x y
  obtain ⟨p, q, ⟨rfl, rfl, hp, hq⟩, h⟩ := h
  rw [Rat.sub_eq_add_neg] at h
  exact ⟨q, rfl, p, -q, ⟨rfl, rfl, hp, sm_neg hq⟩, h⟩
theorem den_pos2 (p q : Rat) : (0 : Int) < (p.den : Int) * (q.den : Int) := by
  have := Nat.mul_pos p.den_pos q.den_pos
  omega
theorem den_lt2 {p q : Rat} (hp : sm p) (hq : sm q) : ((p.den : Int) * (q.den : Int)).natAbs < 2 ^ 250 := by
  rw [← Int.natCast_mul, Int.natAbs_natCast]
  have := Nat.mul_lt_mul'' hp.2 hq.2
  exact Nat.lt_of_lt_of_le this (by decide)
def T_fractions_times : DTP := fun xs Q => match xs with
  | [a, b] => ∃ p q : Rat, (a = fr p ∧ b = fr q ∧ sm p ∧ sm q) ∧ Q (fr (p * q))
  | _ => False
theorem ok_times (t : Txt K mg) : Cl P w K mg base 3 "times" 2 T_fractions_times := by
  have nb := t.nb
  have c_made := ok_made (P := P) (w := w) (base := base) t
  refine cl_of t.d_times sc_times rfl (by intro xs Q h; unfold T_fractions_times at h; split at h <;> first | rfl | exact h.elim) (fun f cdv A outer s H E hr => (dss_one (ds_ret (de_callC c_made hr (by decide) (by rfl) (da_cons (de_mulA (de_ix (de_var 0 (pv 0)) de_int) (de_ix (de_var 1 (pv 1)) de_int)) (da_cons (de_mulA (de_ix (de_var 0 (pv 0)) de_int) (de_ix (de_var 1 (pv 1)) de_int)) da_nil)))))) (fun xs Q h => ?_)
  unfold T_fractions_times at h
  split at h
  rotate_left
  · exact h.elim
  rename_i x y
  obtain ⟨p, q, ⟨rfl, rfl, hp, hq⟩, h⟩ := h
  have e : p * q = mkRat (p.num * q.num) ((p.den : Int) * (q.den : Int)).toNat := by
    rw [Rat.mul_def', ← Int.natCast_mul, Int.toNat_natCast]
  rw [e] at h
  simp only [↓DL.dVar, ↓DL.dC, ↓DL.dU, ↓DL.dOp, ↓DL.dBor, ↓DL.dBorT, ↓DL.dnLst, ↓DL.dFz, ↓DL.dSetN, ↓DL.dmNil, ↓DL.dmDat, ↓DL.dmNew, ↓DL.dPar, ↓DL.setAt0, ↓DL.setAt1, ↓DL.setAt2, ↓DL.ownAt, ↓DL.dSetIx, ↓DL.dAugIx, ↓DL.dCallB, ↓DL.insAt, ↓DL.dFld, ↓DL.dFldD, ↓DL.dFldN, ↓DL.fownAt, ↓DL.dAppF, ↓DL.dMeth, ↓DL.daNil, ↓DL.dMake, ↓DL.dZip2, ↓DL.dZip3, ↓DL.oAddL, ↓DL.oMulL, ↓DL.dnOp, ↓DL.oListN, ↓DL.dnU, ↓DL.dChain, ↓DL.dgLst, ↓DL.dmRaw, ↓DL.dmVarR, ↓DL.dCallM, ↓DL.dCallL, ↓DL.oRepr, ↓DL.asInt, ↓DL.asBool, ↓DL.asTup, ↓DL.asLst, ↓DL.asSeq, ↓DL.oI0, ↓DL.oI, ↓DL.oNeg, ↓DL.oEq_int, ↓DL.oNe_int, ↓DL.oIsN, ↓DL.oNotN, ↓DL.oIsB, ↓DL.oNotB, ↓DL.dTst, ↓DL.dNotB, ↓DL.dAndB, ↓DL.dOrB, ↓DL.dAndV, ↓DL.dOrV, ↓DL.dNotV, ↓DL.dIf, ↓DL.dNil, ↓DL.dCons, ↓DL.dStar, ↓DL.dTup, ↓DL.dLst, ↓DL.itemAt0, ↓DL.itemAt1, ↓DL.itemAt2, ↓DL.itemAt3, ↓DL.oIx, ↓DL.dNoPart, ↓DL.dPart, ↓DL.dSl, ↓DL.dgName, ↓DL.dgNil, ↓DL.dgCons, ↓DL.dgTup, ↓DL.dNext, ↓DL.dSeq, ↓DL.dBreak, ↓DL.dCont, ↓DL.dDrop, ↓DL.dRet, ↓DL.dRetN, ↓DL.dIfS, ↓DL.dNever, ↓DL.dAsg, ↓DL.dAug, ↓DL.dOwn, ↓DL.dApp, ↓DL.dFrz, ↓DL.dFrzS, ↓DL.dIt, ↓DL.dItL, ↓DL.dItT, ↓DL.dRng1, ↓DL.dRng2, ↓DL.dZip, ↓DL.dFor, ↓DL.dYes, ↓DL.turnD, ↓DL.dLc, ↓DL.dRetO, ↓DL.dnCall, ↓DL.dnMove, ↓DL.frzAll, ↓DL.frz1, ↓DL.noLst, ↓DL.noLsts, ↓DL.dFz, ↓DL.dCall, ↓DL.dCB, ↓DL.oLen, ↓DL.oAbs, ↓DL.oInt2, ↓DL.oInt, ↓DL.oTuple, ↓DL.oList, ↓DL.dIsi, ↓DL.dEnum, ↓DL.oAdd, ↓DL.oMul, ↓DL.putAll, ↓DL.isNone, ↓DL.isIntB, ↓DL.isBoolB, ↓DL.isTupB, ↓DL.isStrB, ↓List.map_cons, ↓List.map_nil, ↓List.length_cons, ↓List.length_nil, ↓List.replicate_succ, ↓List.replicate_zero, ↓List.cons_append, ↓List.nil_append, ↓List.append_nil, ↓List.getElem?_cons_zero, ↓List.getElem?_cons_succ, ↓List.set_cons_zero, ↓List.set_cons_succ, Nat.reduceAdd, Nat.reduceSub, Nat.sub_self, Nat.add_sub_cancel, Nat.zero_add, ↓List.append_assoc, ↓DL.ifd_t, ↓DL.ifd_f, ↓DL.sz0, ↓DL.sz1, ↓DL.sz2, ↓DL.sz3, ↓DL.sz4, ↓DL.sz5, ↓DL.sz6, ↓DL.sz7, ↓DL.sz8, ↓DL.sz9, ↓DL.sz10, ↓DL.sz11, ↓DL.sz12, ↓DL.sz13, ↓DL.sz14, ↓DL.sz15, Bool.false_eq_true, ↓Bool.not_true, ↓Bool.not_false, ↓true_and, ↓and_true, fr, T_fractions_made]
  have hpos : (0 : Int) < (p.den : Int) * (q.den : Int) := by
    have := Nat.mul_pos p.den_pos q.den_pos
    omega
  have hlt : ((p.den : Int) * (q.den : Int)).natAbs < 2 ^ 250 := by
    rw [← Int.natCast_mul, Int.natAbs_natCast]
    have := Nat.mul_lt_mul'' hp.2 hq.2
    exact Nat.lt_of_lt_of_le this (by decide)
  exact ⟨sm_mulN hp hq, sm_mulD hp hq, ⟨hpos, hlt⟩, h⟩
def T_fractions_is_less : DTP := fun xs Q => match xs with
  | [a, b] => ∃ p q : Rat, (a = fr p ∧ b = fr q ∧ sm p ∧ sm q) ∧ Q (.bool (decide (p < q)))
  | _ => False
theorem ok_is_less (t : Txt K mg) : Cl P w K mg base 1 "is_less" 2 T_fractions_is_less := by
  have nb := t.nb
  refine cl_of t.d_is_less sc_is_less rfl (by intro xs Q h; unfold T_fractions_is_less at h; split at h <;> first | rfl | exact h.elim) (fun f cdv A outer s H E hr => (dss_one (ds_ret (de_cmp op_lt od_lt (de_mulA (de_ix (de_var 0 (pv 0)) de_int) (de_ix (de_var 1 (pv 1)) de_int)) (de_mulA (de_ix (de_var 1 (pv 1)) de_int) (de_ix (de_var 0 (pv 0)) de_int)) (nomark _))))) (fun xs Q h => ?_)
  unfold T_fractions_is_less at h
  split at h
  rotate_left
  · exact h.elim
  rename_i x y
  obtain ⟨p, q, ⟨rfl, rfl, hp, hq⟩, h⟩ := h
  simp only [↓DL.dVar, ↓DL.dC, ↓DL.dU, ↓DL.dOp, ↓DL.dBor, ↓DL.dBorT, ↓DL.dnLst, ↓DL.dFz, ↓DL.dSetN, ↓DL.dmNil, ↓DL.dmDat, ↓DL.dmNew, ↓DL.dPar, ↓DL.setAt0, ↓DL.setAt1, ↓DL.setAt2, ↓DL.ownAt, ↓DL.dSetIx, ↓DL.dAugIx, ↓DL.dCallB, ↓DL.insAt, ↓DL.dFld, ↓DL.dFldD, ↓DL.dFldN, ↓DL.fownAt, ↓DL.dAppF, ↓DL.dMeth, ↓DL.daNil, ↓DL.dMake, ↓DL.dZip2, ↓DL.dZip3, ↓DL.oAddL, ↓DL.oMulL, ↓DL.dnOp, ↓DL.oListN, ↓DL.dnU, ↓DL.dChain, ↓DL.dgLst, ↓DL.dmRaw, ↓DL.dmVarR, ↓DL.dCallM, ↓DL.dCallL, ↓DL.oRepr, ↓DL.asInt, ↓DL.asBool, ↓DL.asTup, ↓DL.asLst, ↓DL.asSeq, ↓DL.oI0, ↓DL.oI, ↓DL.oNeg, ↓DL.oEq_int, ↓DL.oNe_int, ↓DL.oIsN, ↓DL.oNotN, ↓DL.oIsB, ↓DL.oNotB, ↓DL.dTst, ↓DL.dNotB, ↓DL.dAndB, ↓DL.dOrB, ↓DL.dAndV, ↓DL.dOrV, ↓DL.dNotV, ↓DL.dIf, ↓DL.dNil, ↓DL.dCons, ↓DL.dStar, ↓DL.dTup, ↓DL.dLst, ↓DL.itemAt0, ↓DL.itemAt1, ↓DL.itemAt2, ↓DL.itemAt3, ↓DL.oIx, ↓DL.dNoPart, ↓DL.dPart, ↓DL.dSl, ↓DL.dgName, ↓DL.dgNil, ↓DL.dgCons, ↓DL.dgTup, ↓DL.dNext, ↓DL.dSeq, ↓DL.dBreak, ↓DL.dCont, ↓DL.dDrop, ↓DL.dRet, ↓DL.dRetN, ↓DL.dIfS, ↓DL.dNever, ↓DL.dAsg, ↓DL.dAug, ↓DL.dOwn, ↓DL.dApp, ↓DL.dFrz, ↓DL.dFrzS, ↓DL.dIt, ↓DL.dItL, ↓DL.dItT, ↓DL.dRng1, ↓DL.dRng2, ↓DL.dZip, ↓DL.dFor, ↓DL.dYes, ↓DL.turnD, ↓DL.dLc, ↓DL.dRetO, ↓DL.dnCall, ↓DL.dnMove, ↓DL.frzAll, ↓DL.frz1, ↓DL.noLst, ↓DL.noLsts, ↓DL.dFz, ↓DL.dCall, ↓DL.dCB, ↓DL.oLen, ↓DL.oAbs, ↓DL.oInt2, ↓DL.oInt, ↓DL.oTuple, ↓DL.oList, ↓DL.dIsi, ↓DL.dEnum, ↓DL.oAdd, ↓DL.oMul, ↓DL.putAll, ↓DL.isNone, ↓DL.isIntB, ↓DL.isBoolB, ↓DL.isTupB, ↓DL.isStrB, ↓List.map_cons, ↓List.map_nil, ↓List.length_cons, ↓List.length_nil, ↓List.replicate_succ, ↓List.replicate_zero, ↓List.cons_append, ↓List.nil_append, ↓List.append_nil, ↓List.getElem?_cons_zero, ↓List.getElem?_cons_succ, ↓List.set_cons_zero, ↓List.set_cons_succ, Nat.reduceAdd, Nat.reduceSub, Nat.sub_self, Nat.add_sub_cancel, Nat.zero_add, ↓List.append_assoc, ↓DL.ifd_t, ↓DL.ifd_f, ↓DL.sz0, ↓DL.sz1, ↓DL.sz2, ↓DL.sz3, ↓DL.sz4, ↓DL.sz5, ↓DL.sz6, ↓DL.sz7, ↓DL.sz8, ↓DL.sz9, ↓DL.sz10, ↓DL.sz11, ↓DL.sz12, ↓DL.sz13, ↓DL.sz14, ↓DL.sz15, Bool.false_eq_true, ↓Bool.not_true, ↓Bool.not_false, ↓true_and, ↓and_true, fr]
  refine ⟨sm_mul hp hq, sm_mul hq hp, ?_⟩
  have e : decide (p.num * (q.den : Int) < q.num * (p.den : Int)) = decide (p < q) := decide_eq_decide.mpr (Rat.lt_iff p q).symm
  rw [e]
  exact h
def T_fractions_floor : DTP := fun xs Q => match xs with
  | [a] => ∃ p : Rat, (a = fr p ∧ sm p) ∧ Q (.int p.floor)
  | _ => False
theorem ok_floor (t : Txt K mg) : Cl P w K mg base 1 "floor" 1 T_fractions_floor := by
  have nb := t.nb
  refine cl_of t.d_floor sc_floor rfl (by intro xs Q h; unfold T_fractions_floor at h; split at h <;> first | rfl | exact h.elim) (fun f cdv A outer s H E hr => (dss_one (ds_ret (de_div (de_ix (de_var 0 (pv 0)) de_int) (de_ix (de_var 0 (pv 0)) de_int))))) (fun xs Q h => ?_)
  unfold T_fractions_floor at h
  split at h
  rotate_left
  · exact h.elim
  rename_i x
  obtain ⟨p, ⟨rfl, hp⟩, h⟩ := h
  rw [Rat.floor_def] at h
  simp only [↓DL.dVar, ↓DL.dC, ↓DL.dU, ↓DL.dOp, ↓DL.dBor, ↓DL.dBorT, ↓DL.dnLst, ↓DL.dFz, ↓DL.dSetN, ↓DL.dmNil, ↓DL.dmDat, ↓DL.dmNew, ↓DL.dPar, ↓DL.setAt0, ↓DL.setAt1, ↓DL.setAt2, ↓DL.ownAt, ↓DL.dSetIx, ↓DL.dAugIx, ↓DL.dCallB, ↓DL.insAt, ↓DL.dFld, ↓DL.dFldD, ↓DL.dFldN, ↓DL.fownAt, ↓DL.dAppF, ↓DL.dMeth, ↓DL.daNil, ↓DL.dMake, ↓DL.dZip2, ↓DL.dZip3, ↓DL.oAddL, ↓DL.oMulL, ↓DL.dnOp, ↓DL.oListN, ↓DL.dnU, ↓DL.dChain, ↓DL.dgLst, ↓DL.dmRaw, ↓DL.dmVarR, ↓DL.dCallM, ↓DL.dCallL, ↓DL.oRepr, ↓DL.asInt, ↓DL.asBool, ↓DL.asTup, ↓DL.asLst, ↓DL.asSeq, ↓DL.oI0, ↓DL.oI, ↓DL.oNeg, ↓DL.oEq_int, ↓DL.oNe_int, ↓DL.oIsN, ↓DL.oNotN, ↓DL.oIsB, ↓DL.oNotB, ↓DL.dTst, ↓DL.dNotB, ↓DL.dAndB, ↓DL.dOrB, ↓DL.dAndV, ↓DL.dOrV, ↓DL.dNotV, ↓DL.dIf, ↓DL.dNil, ↓DL.dCons, ↓DL.dStar, ↓DL.dTup, ↓DL.dLst, ↓DL.itemAt0, ↓DL.itemAt1, ↓DL.itemAt2, ↓DL.itemAt3, ↓DL.oIx, ↓DL.dNoPart, ↓DL.dPart, ↓DL.dSl, ↓DL.dgName, ↓DL.dgNil, ↓DL.dgCons, ↓DL.dgTup, ↓DL.dNext, ↓DL.dSeq, ↓DL.dBreak, ↓DL.dCont, ↓DL.dDrop, ↓DL.dRet, ↓DL.dRetN, ↓DL.dIfS, ↓DL.dNever, ↓DL.dAsg, ↓DL.dAug, ↓DL.dOwn, ↓DL.dApp, ↓DL.dFrz, ↓DL.dFrzS, ↓DL.dIt, ↓DL.dItL, ↓DL.dItT, ↓DL.dRng1, ↓DL.dRng2, ↓DL.dZip, ↓DL.dFor, ↓DL.dYes, ↓DL.turnD, ↓DL.dLc, ↓DL.dRetO, ↓DL.dnCall, ↓DL.dnMove, ↓DL.frzAll, ↓DL.frz1, ↓DL.noLst, ↓DL.noLsts, ↓DL.dFz, ↓DL.dCall, ↓DL.dCB, ↓DL.oLen, ↓DL.oAbs, ↓DL.oInt2, ↓DL.oInt, ↓DL.oTuple, ↓DL.oList, ↓DL.dIsi, ↓DL.dEnum, ↓DL.oAdd, ↓DL.oMul, ↓DL.putAll, ↓DL.isNone, ↓DL.isIntB, ↓DL.isBoolB, ↓DL.isTupB, ↓DL.isStrB, ↓List.map_cons, ↓List.map_nil, ↓List.length_cons, ↓List.length_nil, ↓List.replicate_succ, ↓List.replicate_zero, ↓List.cons_append, ↓List.nil_append, ↓List.append_nil, ↓List.getElem?_cons_zero, ↓List.getElem?_cons_succ, ↓List.set_cons_zero, ↓List.set_cons_succ, Nat.reduceAdd, Nat.reduceSub, Nat.sub_self, Nat.add_sub_cancel, Nat.zero_add, ↓List.append_assoc, ↓DL.ifd_t, ↓DL.ifd_f, ↓DL.sz0, ↓DL.sz1, ↓DL.sz2, ↓DL.sz3, ↓DL.sz4, ↓DL.sz5, ↓DL.sz6, ↓DL.sz7, ↓DL.sz8, ↓DL.sz9, ↓DL.sz10, ↓DL.sz11, ↓DL.sz12, ↓DL.sz13, ↓DL.sz14, ↓DL.sz15, Bool.false_eq_true, ↓Bool.not_true, ↓Bool.not_false, ↓true_and, ↓and_true, fr]
  exact ⟨wide_div (by have := p.den_pos; omega) (b := 100) (by simpa using hp.2) (by decide) (by decide), h⟩
/-- the greatest of a row -/
def maxQ : Rat → List Rat → Rat
  | m, [] => m
  | m, q :: r => maxQ (if m < q then q else m) r
def T_fractions_greatest : DTP := fun xs Q => match xs with
  | [a] => ∃ (p : Rat) (r : List Rat), (a = .list ((p :: r).map fr) ∧ ∀ q ∈ p :: r, sm q) ∧ Q (fr (maxQ p r))
  | _ => False
theorem ok_greatest (t : Txt K mg) : Cl P w K mg base 2 "greatest" 1 T_fractions_greatest := by
  have nb := t.nb
  have c_is_less := ok_is_less (P := P) (w := w) (base := base) t
  refine cl_of t.d_greatest sc_greatest rfl (by intro xs Q h; unfold T_fractions_greatest at h; split at h <;> first | rfl | exact h.elim) (fun f cdv A outer s H E hr => (dss_cons (ds_if (db_cmp (op_eqD hr.units) od_eq (de_blt call_len_seq od_len (by rfl) nb.len_ PySem.boot_len (da_cons (de_var 0 (pv 0)) da_nil)) de_int (nomark _)) (dss_one ds_never) dss_nil)
 (dss_cons (ds_set (i := 1) sc_greatest.nd rfl (by first | exact .inl rfl | exact .inr rfl) (de_ix (de_var 0 (pv 0)) de_int))
 (dss_cons (ds_for PassesOwn.never rfl (di_seq (de_var 0 (pv 0))) (dg_name (i := 2) (pg_name (i := 2) sc_greatest.nd rfl (by first | exact .inl rfl | exact .inr rfl)))
 (dss_one (ds_set (i := 1) sc_greatest.nd rfl (by first | exact .inl rfl | exact .inr rfl) (de_ifExp (db_val (de_callC c_is_less hr (by decide) (by rfl) (da_cons (de_var 1 (pv 1)) (da_cons (de_var 2 (pv 2)) da_nil)))) (de_var 2 (pv 2)) (de_var 1 (pv 1))))))
 (dss_one (ds_ret (de_var 1 (pv 1)))))))) (fun xs Q h => ?_)
  unfold T_fractions_greatest at h
  split at h
  rotate_left
  · exact h.elim
  rename_i x
  obtain ⟨p, r, ⟨rfl, hs⟩, h⟩ := h
  simp only [↓DL.dVar, ↓DL.dC, ↓DL.dU, ↓DL.dOp, ↓DL.dBor, ↓DL.dBorT, ↓DL.dnLst, ↓DL.dFz, ↓DL.dSetN, ↓DL.dmNil, ↓DL.dmDat, ↓DL.dmNew, ↓DL.dPar, ↓DL.setAt0, ↓DL.setAt1, ↓DL.setAt2, ↓DL.ownAt, ↓DL.dSetIx, ↓DL.dAugIx, ↓DL.dCallB, ↓DL.insAt, ↓DL.dFld, ↓DL.dFldD, ↓DL.dFldN, ↓DL.fownAt, ↓DL.dAppF, ↓DL.dMeth, ↓DL.daNil, ↓DL.dMake, ↓DL.dZip2, ↓DL.dZip3, ↓DL.oAddL, ↓DL.oMulL, ↓DL.dnOp, ↓DL.oListN, ↓DL.dnU, ↓DL.dChain, ↓DL.dgLst, ↓DL.dmRaw, ↓DL.dmVarR, ↓DL.dCallM, ↓DL.dCallL, ↓DL.oRepr, ↓DL.asInt, ↓DL.asBool, ↓DL.asTup, ↓DL.asLst, ↓DL.asSeq, ↓DL.oI0, ↓DL.oI, ↓DL.oNeg, ↓DL.oEq_int, ↓DL.oNe_int, ↓DL.oIsN, ↓DL.oNotN, ↓DL.oIsB, ↓DL.oNotB, ↓DL.dTst, ↓DL.dNotB, ↓DL.dAndB, ↓DL.dOrB, ↓DL.dAndV, ↓DL.dOrV, ↓DL.dNotV, ↓DL.dIf, ↓DL.dNil, ↓DL.dCons, ↓DL.dStar, ↓DL.dTup, ↓DL.dLst, ↓DL.itemAt0, ↓DL.itemAt1, ↓DL.itemAt2, ↓DL.itemAt3, ↓DL.oIx, ↓DL.dNoPart, ↓DL.dPart, ↓DL.dSl, ↓DL.dgName, ↓DL.dgNil, ↓DL.dgCons, ↓DL.dgTup, ↓DL.dNext, ↓DL.dSeq, ↓DL.dBreak, ↓DL.dCont, ↓DL.dDrop, ↓DL.dRet, ↓DL.dRetN, ↓DL.dIfS, ↓DL.dNever, ↓DL.dAsg, ↓DL.dAug, ↓DL.dOwn, ↓DL.dApp, ↓DL.dFrz, ↓DL.dFrzS, ↓DL.dIt, ↓DL.dItL, ↓DL.dItT, ↓DL.dRng1, ↓DL.dRng2, ↓DL.dZip, ↓DL.dFor, ↓DL.dYes, ↓DL.turnD, ↓DL.dLc, ↓DL.dRetO, ↓DL.dnCall, ↓DL.dnMove, ↓DL.frzAll, ↓DL.frz1, ↓DL.noLst, ↓DL.noLsts, ↓DL.dFz, ↓DL.dCall, ↓DL.dCB, ↓DL.oLen, ↓DL.oAbs, ↓DL.oInt2, ↓DL.oInt, ↓DL.oTuple, ↓DL.oList, ↓DL.dIsi, ↓DL.dEnum, ↓DL.oAdd, ↓DL.oMul, ↓DL.putAll, ↓DL.isNone, ↓DL.isIntB, ↓DL.isBoolB, ↓DL.isTupB, ↓DL.isStrB, ↓List.map_cons, ↓List.map_nil, ↓List.length_cons, ↓List.length_nil, ↓List.replicate_succ, ↓List.replicate_zero, ↓List.cons_append, ↓List.nil_append, ↓List.append_nil, ↓List.getElem?_cons_zero, ↓List.getElem?_cons_succ, ↓List.set_cons_zero, ↓List.set_cons_succ, Nat.reduceAdd, Nat.reduceSub, Nat.sub_self, Nat.add_sub_cancel, Nat.zero_add, ↓List.append_assoc, ↓DL.ifd_t, ↓DL.ifd_f, ↓DL.sz0, ↓DL.sz1, ↓DL.sz2, ↓DL.sz3, ↓DL.sz4, ↓DL.sz5, ↓DL.sz6, ↓DL.sz7, ↓DL.sz8, ↓DL.sz9, ↓DL.sz10, ↓DL.sz11, ↓DL.sz12, ↓DL.sz13, ↓DL.sz14, ↓DL.sz15, Bool.false_eq_true, ↓Bool.not_true, ↓Bool.not_false, ↓true_and, ↓and_true]
  rw [decide_eq_false (by omega)]
  simp only [↓DL.dVar, ↓DL.dC, ↓DL.dU, ↓DL.dOp, ↓DL.dBor, ↓DL.dBorT, ↓DL.dnLst, ↓DL.dFz, ↓DL.dSetN, ↓DL.dmNil, ↓DL.dmDat, ↓DL.dmNew, ↓DL.dPar, ↓DL.setAt0, ↓DL.setAt1, ↓DL.setAt2, ↓DL.ownAt, ↓DL.dSetIx, ↓DL.dAugIx, ↓DL.dCallB, ↓DL.insAt, ↓DL.dFld, ↓DL.dFldD, ↓DL.dFldN, ↓DL.fownAt, ↓DL.dAppF, ↓DL.dMeth, ↓DL.daNil, ↓DL.dMake, ↓DL.dZip2, ↓DL.dZip3, ↓DL.oAddL, ↓DL.oMulL, ↓DL.dnOp, ↓DL.oListN, ↓DL.dnU, ↓DL.dChain, ↓DL.dgLst, ↓DL.dmRaw, ↓DL.dmVarR, ↓DL.dCallM, ↓DL.dCallL, ↓DL.oRepr, ↓DL.asInt, ↓DL.asBool, ↓DL.asTup, ↓DL.asLst, ↓DL.asSeq, ↓DL.oI0, ↓DL.oI, ↓DL.oNeg, ↓DL.oEq_int, ↓DL.oNe_int, ↓DL.oIsN, ↓DL.oNotN, ↓DL.oIsB, ↓DL.oNotB, ↓DL.dTst, ↓DL.dNotB, ↓DL.dAndB, ↓DL.dOrB, ↓DL.dAndV, ↓DL.dOrV, ↓DL.dNotV, ↓DL.dIf, ↓DL.dNil, ↓DL.dCons, ↓DL.dStar, ↓DL.dTup, ↓DL.dLst, ↓DL.itemAt0, ↓DL.itemAt1, ↓DL.itemAt2, ↓DL.itemAt3, ↓DL.oIx, ↓DL.dNoPart, ↓DL.dPart, ↓DL.dSl, ↓DL.dgName, ↓DL.dgNil, ↓DL.dgCons, ↓DL.dgTup, ↓DL.dNext, ↓DL.dSeq, ↓DL.dBreak, ↓DL.dCont, ↓DL.dDrop, ↓DL.dRet, ↓DL.dRetN, ↓DL.dIfS, ↓DL.dNever, ↓DL.dAsg, ↓DL.dAug, ↓DL.dOwn, ↓DL.dApp, ↓DL.dFrz, ↓DL.dFrzS, ↓DL.dIt, ↓DL.dItL, ↓DL.dItT, ↓DL.dRng1, ↓DL.dRng2, ↓DL.dZip, ↓DL.dFor, ↓DL.dYes, ↓DL.turnD, ↓DL.dLc, ↓DL.dRetO, ↓DL.dnCall, ↓DL.dnMove, ↓DL.frzAll, ↓DL.frz1, ↓DL.noLst, ↓DL.noLsts, ↓DL.dFz, ↓DL.dCall, ↓DL.dCB, ↓DL.oLen, ↓DL.oAbs, ↓DL.oInt2, ↓DL.oInt, ↓DL.oTuple, ↓DL.oList, ↓DL.dIsi, ↓DL.dEnum, ↓DL.oAdd, ↓DL.oMul, ↓DL.putAll, ↓DL.isNone, ↓DL.isIntB, ↓DL.isBoolB, ↓DL.isTupB, ↓DL.isStrB, ↓List.map_cons, ↓List.map_nil, ↓List.length_cons, ↓List.length_nil, ↓List.replicate_succ, ↓List.replicate_zero, ↓List.cons_append, ↓List.nil_append, ↓List.append_nil, ↓List.getElem?_cons_zero, ↓List.getElem?_cons_succ, ↓List.set_cons_zero, ↓List.set_cons_succ, Nat.reduceAdd, Nat.reduceSub, Nat.sub_self, Nat.add_sub_cancel, Nat.zero_add, ↓List.append_assoc, ↓DL.ifd_t, ↓DL.ifd_f, ↓DL.sz0, ↓DL.sz1, ↓DL.sz2, ↓DL.sz3, ↓DL.sz4, ↓DL.sz5, ↓DL.sz6, ↓DL.sz7, ↓DL.sz8, ↓DL.sz9, ↓DL.sz10, ↓DL.sz11, ↓DL.sz12, ↓DL.sz13, ↓DL.sz14, ↓DL.sz15, Bool.false_eq_true, ↓Bool.not_true, ↓Bool.not_false, ↓true_and, ↓and_true]
  show forD _ _ _ ((p :: r).map fr) _
  refine for_of (fun l ρ => ∃ m s, ρ = [.d (.list ((p :: r).map fr)), .d (fr m), s] ∧ maxQ m l = maxQ p r ∧ sm m ∧ ∀ q ∈ l, sm q) (fun a l ρ N hN hI => ?_) (fun ρ hI => ?_) ⟨p, .un, rfl, ?_, hs p (List.mem_cons_self ..), hs⟩
  · obtain ⟨m, s, rfl, hm, h1, h2⟩ := hI
    simp only [↓DL.dVar, ↓DL.dC, ↓DL.dU, ↓DL.dOp, ↓DL.dBor, ↓DL.dBorT, ↓DL.dnLst, ↓DL.dFz, ↓DL.dSetN, ↓DL.dmNil, ↓DL.dmDat, ↓DL.dmNew, ↓DL.dPar, ↓DL.setAt0, ↓DL.setAt1, ↓DL.setAt2, ↓DL.ownAt, ↓DL.dSetIx, ↓DL.dAugIx, ↓DL.dCallB, ↓DL.insAt, ↓DL.dFld, ↓DL.dFldD, ↓DL.dFldN, ↓DL.fownAt, ↓DL.dAppF, ↓DL.dMeth, ↓DL.daNil, ↓DL.dMake, ↓DL.dZip2, ↓DL.dZip3, ↓DL.oAddL, ↓DL.oMulL, ↓DL.dnOp, ↓DL.oListN, ↓DL.dnU, ↓DL.dChain, ↓DL.dgLst, ↓DL.dmRaw, ↓DL.dmVarR, ↓DL.dCallM, ↓DL.dCallL, ↓DL.oRepr, ↓DL.asInt, ↓DL.asBool, ↓DL.asTup, ↓DL.asLst, ↓DL.asSeq, ↓DL.oI0, ↓DL.oI, ↓DL.oNeg, ↓DL.oEq_int, ↓DL.oNe_int, ↓DL.oIsN, ↓DL.oNotN, ↓DL.oIsB, ↓DL.oNotB, ↓DL.dTst, ↓DL.dNotB, ↓DL.dAndB, ↓DL.dOrB, ↓DL.dAndV, ↓DL.dOrV, ↓DL.dNotV, ↓DL.dIf, ↓DL.dNil, ↓DL.dCons, ↓DL.dStar, ↓DL.dTup, ↓DL.dLst, ↓DL.itemAt0, ↓DL.itemAt1, ↓DL.itemAt2, ↓DL.itemAt3, ↓DL.oIx, ↓DL.dNoPart, ↓DL.dPart, ↓DL.dSl, ↓DL.dgName, ↓DL.dgNil, ↓DL.dgCons, ↓DL.dgTup, ↓DL.dNext, ↓DL.dSeq, ↓DL.dBreak, ↓DL.dCont, ↓DL.dDrop, ↓DL.dRet, ↓DL.dRetN, ↓DL.dIfS, ↓DL.dNever, ↓DL.dAsg, ↓DL.dAug, ↓DL.dOwn, ↓DL.dApp, ↓DL.dFrz, ↓DL.dFrzS, ↓DL.dIt, ↓DL.dItL, ↓DL.dItT, ↓DL.dRng1, ↓DL.dRng2, ↓DL.dZip, ↓DL.dFor, ↓DL.dYes, ↓DL.turnD, ↓DL.dLc, ↓DL.dRetO, ↓DL.dnCall, ↓DL.dnMove, ↓DL.frzAll, ↓DL.frz1, ↓DL.noLst, ↓DL.noLsts, ↓DL.dFz, ↓DL.dCall, ↓DL.dCB, ↓DL.oLen, ↓DL.oAbs, ↓DL.oInt2, ↓DL.oInt, ↓DL.oTuple, ↓DL.oList, ↓DL.dIsi, ↓DL.dEnum, ↓DL.oAdd, ↓DL.oMul, ↓DL.putAll, ↓DL.isNone, ↓DL.isIntB, ↓DL.isBoolB, ↓DL.isTupB, ↓DL.isStrB, ↓List.map_cons, ↓List.map_nil, ↓List.length_cons, ↓List.length_nil, ↓List.replicate_succ, ↓List.replicate_zero, ↓List.cons_append, ↓List.nil_append, ↓List.append_nil, ↓List.getElem?_cons_zero, ↓List.getElem?_cons_succ, ↓List.set_cons_zero, ↓List.set_cons_succ, Nat.reduceAdd, Nat.reduceSub, Nat.sub_self, Nat.add_sub_cancel, Nat.zero_add, ↓List.append_assoc, ↓DL.ifd_t, ↓DL.ifd_f, ↓DL.sz0, ↓DL.sz1, ↓DL.sz2, ↓DL.sz3, ↓DL.sz4, ↓DL.sz5, ↓DL.sz6, ↓DL.sz7, ↓DL.sz8, ↓DL.sz9, ↓DL.sz10, ↓DL.sz11, ↓DL.sz12, ↓DL.sz13, ↓DL.sz14, ↓DL.sz15, Bool.false_eq_true, ↓Bool.not_true, ↓Bool.not_false, ↓true_and, ↓and_true, T_fractions_is_less]
    refine ⟨m, a, ⟨rfl, rfl, h1, h2 a (List.mem_cons_self ..)⟩, ?_⟩
    have h3 : ∀ q ∈ l, sm q := fun q hq => h2 q (List.mem_cons_of_mem _ hq)
    by_cases hlt : m < a
    · rw [decide_eq_true hlt]
      simp only [↓DL.dVar, ↓DL.dC, ↓DL.dU, ↓DL.dOp, ↓DL.dBor, ↓DL.dBorT, ↓DL.dnLst, ↓DL.dFz, ↓DL.dSetN, ↓DL.dmNil, ↓DL.dmDat, ↓DL.dmNew, ↓DL.dPar, ↓DL.setAt0, ↓DL.setAt1, ↓DL.setAt2, ↓DL.ownAt, ↓DL.dSetIx, ↓DL.dAugIx, ↓DL.dCallB, ↓DL.insAt, ↓DL.dFld, ↓DL.dFldD, ↓DL.dFldN, ↓DL.fownAt, ↓DL.dAppF, ↓DL.dMeth, ↓DL.daNil, ↓DL.dMake, ↓DL.dZip2, ↓DL.dZip3, ↓DL.oAddL, ↓DL.oMulL, ↓DL.dnOp, ↓DL.oListN, ↓DL.dnU, ↓DL.dChain, ↓DL.dgLst, ↓DL.dmRaw, ↓DL.dmVarR, ↓DL.dCallM, ↓DL.dCallL, ↓DL.oRepr, ↓DL.asInt, ↓DL.asBool, ↓DL.asTup, ↓DL.asLst, ↓DL.asSeq, ↓DL.oI0, ↓DL.oI, ↓DL.oNeg, ↓DL.oEq_int, ↓DL.oNe_int, ↓DL.oIsN, ↓DL.oNotN, ↓DL.oIsB, ↓DL.oNotB, ↓DL.dTst, ↓DL.dNotB, ↓DL.dAndB, ↓DL.dOrB, ↓DL.dAndV, ↓DL.dOrV, ↓DL.dNotV, ↓DL.dIf, ↓DL.dNil, ↓DL.dCons, ↓DL.dStar, ↓DL.dTup, ↓DL.dLst, ↓DL.itemAt0, ↓DL.itemAt1, ↓DL.itemAt2, ↓DL.itemAt3, ↓DL.oIx, ↓DL.dNoPart, ↓DL.dPart, ↓DL.dSl, ↓DL.dgName, ↓DL.dgNil, ↓DL.dgCons, ↓DL.dgTup, ↓DL.dNext, ↓DL.dSeq, ↓DL.dBreak, ↓DL.dCont, ↓DL.dDrop, ↓DL.dRet, ↓DL.dRetN, ↓DL.dIfS, ↓DL.dNever, ↓DL.dAsg, ↓DL.dAug, ↓DL.dOwn, ↓DL.dApp, ↓DL.dFrz, ↓DL.dFrzS, ↓DL.dIt, ↓DL.dItL, ↓DL.dItT, ↓DL.dRng1, ↓DL.dRng2, ↓DL.dZip, ↓DL.dFor, ↓DL.dYes, ↓DL.turnD, ↓DL.dLc, ↓DL.dRetO, ↓DL.dnCall, ↓DL.dnMove, ↓DL.frzAll, ↓DL.frz1, ↓DL.noLst, ↓DL.noLsts, ↓DL.dFz, ↓DL.dCall, ↓DL.dCB, ↓DL.oLen, ↓DL.oAbs, ↓DL.oInt2, ↓DL.oInt, ↓DL.oTuple, ↓DL.oList, ↓DL.dIsi, ↓DL.dEnum, ↓DL.oAdd, ↓DL.oMul, ↓DL.putAll, ↓DL.isNone, ↓DL.isIntB, ↓DL.isBoolB, ↓DL.isTupB, ↓DL.isStrB, ↓List.map_cons, ↓List.map_nil, ↓List.length_cons, ↓List.length_nil, ↓List.replicate_succ, ↓List.replicate_zero, ↓List.cons_append, ↓List.nil_append, ↓List.append_nil, ↓List.getElem?_cons_zero, ↓List.getElem?_cons_succ, ↓List.set_cons_zero, ↓List.set_cons_succ, Nat.reduceAdd, Nat.reduceSub, Nat.sub_self, Nat.add_sub_cancel, Nat.zero_add, ↓List.append_assoc, ↓DL.ifd_t, ↓DL.ifd_f, ↓DL.sz0, ↓DL.sz1, ↓DL.sz2, ↓DL.sz3, ↓DL.sz4, ↓DL.sz5, ↓DL.sz6, ↓DL.sz7, ↓DL.sz8, ↓DL.sz9, ↓DL.sz10, ↓DL.sz11, ↓DL.sz12, ↓DL.sz13, ↓DL.sz14, ↓DL.sz15, Bool.false_eq_true, ↓Bool.not_true, ↓Bool.not_false, ↓true_and, ↓and_true]
      refine hN _ ⟨a, _, rfl, ?_, h2 a (List.mem_cons_self ..), h3⟩
      rw [← hm]
      show _ = maxQ (if m < a then a else m) l
      rw [if_pos hlt]
    · rw [decide_eq_false hlt]
      simp only [↓DL.dVar, ↓DL.dC, ↓DL.dU, ↓DL.dOp, ↓DL.dBor, ↓DL.dBorT, ↓DL.dnLst, ↓DL.dFz, ↓DL.dSetN, ↓DL.dmNil, ↓DL.dmDat, ↓DL.dmNew, ↓DL.dPar, ↓DL.setAt0, ↓DL.setAt1, ↓DL.setAt2, ↓DL.ownAt, ↓DL.dSetIx, ↓DL.dAugIx, ↓DL.dCallB, ↓DL.insAt, ↓DL.dFld, ↓DL.dFldD, ↓DL.dFldN, ↓DL.fownAt, ↓DL.dAppF, ↓DL.dMeth, ↓DL.daNil, ↓DL.dMake, ↓DL.dZip2, ↓DL.dZip3, ↓DL.oAddL, ↓DL.oMulL, ↓DL.dnOp, ↓DL.oListN, ↓DL.dnU, ↓DL.dChain, ↓DL.dgLst, ↓DL.dmRaw, ↓DL.dmVarR, ↓DL.dCallM, ↓DL.dCallL, ↓DL.oRepr, ↓DL.asInt, ↓DL.asBool, ↓DL.asTup, ↓DL.asLst, ↓DL.asSeq, ↓DL.oI0, ↓DL.oI, ↓DL.oNeg, ↓DL.oEq_int, ↓DL.oNe_int, ↓DL.oIsN, ↓DL.oNotN, ↓DL.oIsB, ↓DL.oNotB, ↓DL.dTst, ↓DL.dNotB, ↓DL.dAndB, ↓DL.dOrB, ↓DL.dAndV, ↓DL.dOrV, ↓DL.dNotV, ↓DL.dIf, ↓DL.dNil, ↓DL.dCons, ↓DL.dStar, ↓DL.dTup, ↓DL.dLst, ↓DL.itemAt0, ↓DL.itemAt1, ↓DL.itemAt2, ↓DL.itemAt3, ↓DL.oIx, ↓DL.dNoPart, ↓DL.dPart, ↓DL.dSl, ↓DL.dgName, ↓DL.dgNil, ↓DL.dgCons, ↓DL.dgTup, ↓DL.dNext, ↓DL.dSeq, ↓DL.dBreak, ↓DL.dCont, ↓DL.dDrop, ↓DL.dRet, ↓DL.dRetN, ↓DL.dIfS, ↓DL.dNever, ↓DL.dAsg, ↓DL.dAug, ↓DL.dOwn, ↓DL.dApp, ↓DL.dFrz, ↓DL.dFrzS, ↓DL.dIt, ↓DL.dItL, ↓DL.dItT, ↓DL.dRng1, ↓DL.dRng2, ↓DL.dZip, ↓DL.dFor, ↓DL.dYes, ↓DL.turnD, ↓DL.dLc, ↓DL.dRetO, ↓DL.dnCall, ↓DL.dnMove, ↓DL.frzAll, ↓DL.frz1, ↓DL.noLst, ↓DL.noLsts, ↓DL.dFz, ↓DL.dCall, ↓DL.dCB, ↓DL.oLen, ↓DL.oAbs, ↓DL.oInt2, ↓DL.oInt, ↓DL.oTuple, ↓DL.oList, ↓DL.dIsi, ↓DL.dEnum, ↓DL.oAdd, ↓DL.oMul, ↓DL.putAll, ↓DL.isNone, ↓DL.isIntB, ↓DL.isBoolB, ↓DL.isTupB, ↓DL.isStrB, ↓List.map_cons, ↓List.map_nil, ↓List.length_cons, ↓List.length_nil, ↓List.replicate_succ, ↓List.replicate_zero, ↓List.cons_append, ↓List.nil_append, ↓List.append_nil, ↓List.getElem?_cons_zero, ↓List.getElem?_cons_succ, ↓List.set_cons_zero, ↓List.set_cons_succ, Nat.reduceAdd, Nat.reduceSub, Nat.sub_self, Nat.add_sub_cancel, Nat.zero_add, ↓List.append_assoc, ↓DL.ifd_t, ↓DL.ifd_f, ↓DL.sz0, ↓DL.sz1, ↓DL.sz2, ↓DL.sz3, ↓DL.sz4, ↓DL.sz5, ↓DL.sz6, ↓DL.sz7, ↓DL.sz8, ↓DL.sz9, ↓DL.sz10, ↓DL.sz11, ↓DL.sz12, ↓DL.sz13, ↓DL.sz14, ↓DL.sz15, Bool.false_eq_true, ↓Bool.not_true, ↓Bool.not_false, ↓true_and, ↓and_true]
      refine hN _ ⟨m, _, rfl, ?_, h1, h3⟩
      rw [← hm]
      show _ = maxQ (if m < a then a else m) l
      rw [if_neg hlt]
  · obtain ⟨m, s, rfl, hm, _⟩ := hI
    simp only [↓DL.dVar, ↓DL.dC, ↓DL.dU, ↓DL.dOp, ↓DL.dBor, ↓DL.dBorT, ↓DL.dnLst, ↓DL.dFz, ↓DL.dSetN, ↓DL.dmNil, ↓DL.dmDat, ↓DL.dmNew, ↓DL.dPar, ↓DL.setAt0, ↓DL.setAt1, ↓DL.setAt2, ↓DL.ownAt, ↓DL.dSetIx, ↓DL.dAugIx, ↓DL.dCallB, ↓DL.insAt, ↓DL.dFld, ↓DL.dFldD, ↓DL.dFldN, ↓DL.fownAt, ↓DL.dAppF, ↓DL.dMeth, ↓DL.daNil, ↓DL.dMake, ↓DL.dZip2, ↓DL.dZip3, ↓DL.oAddL, ↓DL.oMulL, ↓DL.dnOp, ↓DL.oListN, ↓DL.dnU, ↓DL.dChain, ↓DL.dgLst, ↓DL.dmRaw, ↓DL.dmVarR, ↓DL.dCallM, ↓DL.dCallL, ↓DL.oRepr, ↓DL.asInt, ↓DL.asBool, ↓DL.asTup, ↓DL.asLst, ↓DL.asSeq, ↓DL.oI0, ↓DL.oI, ↓DL.oNeg, ↓DL.oEq_int, ↓DL.oNe_int, ↓DL.oIsN, ↓DL.oNotN, ↓DL.oIsB, ↓DL.oNotB, ↓DL.dTst, ↓DL.dNotB, ↓DL.dAndB, ↓DL.dOrB, ↓DL.dAndV, ↓DL.dOrV, ↓DL.dNotV, ↓DL.dIf, ↓DL.dNil, ↓DL.dCons, ↓DL.dStar, ↓DL.dTup, ↓DL.dLst, ↓DL.itemAt0, ↓DL.itemAt1, ↓DL.itemAt2, ↓DL.itemAt3, ↓DL.oIx, ↓DL.dNoPart, ↓DL.dPart, ↓DL.dSl, ↓DL.dgName, ↓DL.dgNil, ↓DL.dgCons, ↓DL.dgTup, ↓DL.dNext, ↓DL.dSeq, ↓DL.dBreak, ↓DL.dCont, ↓DL.dDrop, ↓DL.dRet, ↓DL.dRetN, ↓DL.dIfS, ↓DL.dNever, ↓DL.dAsg, ↓DL.dAug, ↓DL.dOwn, ↓DL.dApp, ↓DL.dFrz, ↓DL.dFrzS, ↓DL.dIt, ↓DL.dItL, ↓DL.dItT, ↓DL.dRng1, ↓DL.dRng2, ↓DL.dZip, ↓DL.dFor, ↓DL.dYes, ↓DL.turnD, ↓DL.dLc, ↓DL.dRetO, ↓DL.dnCall, ↓DL.dnMove, ↓DL.frzAll, ↓DL.frz1, ↓DL.noLst, ↓DL.noLsts, ↓DL.dFz, ↓DL.dCall, ↓DL.dCB, ↓DL.oLen, ↓DL.oAbs, ↓DL.oInt2, ↓DL.oInt, ↓DL.oTuple, ↓DL.oList, ↓DL.dIsi, ↓DL.dEnum, ↓DL.oAdd, ↓DL.oMul, ↓DL.putAll, ↓DL.isNone, ↓DL.isIntB, ↓DL.isBoolB, ↓DL.isTupB, ↓DL.isStrB, ↓List.map_cons, ↓List.map_nil, ↓List.length_cons, ↓List.length_nil, ↓List.replicate_succ, ↓List.replicate_zero, ↓List.cons_append, ↓List.nil_append, ↓List.append_nil, ↓List.getElem?_cons_zero, ↓List.getElem?_cons_succ, ↓List.set_cons_zero, ↓List.set_cons_succ, Nat.reduceAdd, Nat.reduceSub, Nat.sub_self, Nat.add_sub_cancel, Nat.zero_add, ↓List.append_assoc, ↓DL.ifd_t, ↓DL.ifd_f, ↓DL.sz0, ↓DL.sz1, ↓DL.sz2, ↓DL.sz3, ↓DL.sz4, ↓DL.sz5, ↓DL.sz6, ↓DL.sz7, ↓DL.sz8, ↓DL.sz9, ↓DL.sz10, ↓DL.sz11, ↓DL.sz12, ↓DL.sz13, ↓DL.sz14, ↓DL.sz15, Bool.false_eq_true, ↓Bool.not_true, ↓Bool.not_false, ↓true_and, ↓and_true]
    rw [← hm] at h
    exact h
  · show maxQ (if p < p then p else p) r = maxQ p r
    rw [if_neg (by grind)]
def okFr (x : PyData) : Prop := ∃ p : Rat, x = fr p
def T_forms_is_fraction : DTP := fun xs Q => match xs with
  | [x] => okFr x ∧ Q (.bool true)
  | _ => False
theorem ok_is_fraction (t : Txt K mg) : Cl P w K mg base 3 "is_fraction" 1 T_forms_is_fraction := by
  have nb := t.nb
  have c_common_divisor := ok_common_divisor (P := P) (w := w) (base := base) t
  have c_is_number := ok_is_number (P := P) (w := w) (base := base) t
  have c_is_sized := ok_is_sized (P := P) (w := w) (base := base) t
  obtain ⟨g_is_number, cm_is_number, cv_is_number⟩ := c_is_number.toV
  have ct_is_number := ok_is_tuple_of (P := P) (w := w) (base := base) t cv_is_number
  refine cl_of t.d_is_fraction sc_is_fraction rfl (by intro xs Q h; unfold T_forms_is_fraction at h; split at h <;> first | rfl | exact h.elim) (fun f cdv A outer s H E hr => (dss_cons (ds_if (db_w (dw_or (db_not (db_val (de_callC c_is_sized hr (by decide) (by rfl) (da_cons (de_var 0 (pv 0)) (da_cons de_int da_nil))))) (dw_or (db_not (db_val (de_callM ct_is_number hr (by decide) (by rfl) (dm_dat (de_var 0 (pv 0)) (dm_raw (pe_glob (v := .ref g_is_number) (by rfl) cm_is_number rfl) dm_nil))))) (dw_or1 (db_cmp op_lt od_lt (de_ix (de_var 0 (pv 0)) de_int) de_int (nomark _)))))) (dss_one (ds_ret de_bl)) dss_nil)
 (dss_one (ds_ret (de_cmp (op_eqD hr.units) od_eq (de_callC c_common_divisor hr (by decide) (by rfl) (da_cons (de_ix (de_var 0 (pv 0)) de_int) (da_cons (de_ix (de_var 0 (pv 0)) de_int) da_nil))) de_int (nomark _)))))) (fun xs Q h => ?_)
  unfold T_forms_is_fraction at h
  split at h
  rotate_left
  · exact h.elim
  rename_i x
  obtain ⟨⟨p, rfl⟩, h⟩ := h
  simp only [↓DL.dVar, ↓DL.dC, ↓DL.dU, ↓DL.dOp, ↓DL.dBor, ↓DL.dBorT, ↓DL.dnLst, ↓DL.dFz, ↓DL.dSetN, ↓DL.dmNil, ↓DL.dmDat, ↓DL.dmNew, ↓DL.dPar, ↓DL.setAt0, ↓DL.setAt1, ↓DL.setAt2, ↓DL.ownAt, ↓DL.dSetIx, ↓DL.dAugIx, ↓DL.dCallB, ↓DL.insAt, ↓DL.dFld, ↓DL.dFldD, ↓DL.dFldN, ↓DL.fownAt, ↓DL.dAppF, ↓DL.dMeth, ↓DL.daNil, ↓DL.dMake, ↓DL.dZip2, ↓DL.dZip3, ↓DL.oAddL, ↓DL.oMulL, ↓DL.dnOp, ↓DL.oListN, ↓DL.dnU, ↓DL.dChain, ↓DL.dgLst, ↓DL.dmRaw, ↓DL.dmVarR, ↓DL.dCallM, ↓DL.dCallL, ↓DL.oRepr, ↓DL.asInt, ↓DL.asBool, ↓DL.asTup, ↓DL.asLst, ↓DL.asSeq, ↓DL.oI0, ↓DL.oI, ↓DL.oNeg, ↓DL.oEq_int, ↓DL.oNe_int, ↓DL.oIsN, ↓DL.oNotN, ↓DL.oIsB, ↓DL.oNotB, ↓DL.dTst, ↓DL.dNotB, ↓DL.dAndB, ↓DL.dOrB, ↓DL.dAndV, ↓DL.dOrV, ↓DL.dNotV, ↓DL.dIf, ↓DL.dNil, ↓DL.dCons, ↓DL.dStar, ↓DL.dTup, ↓DL.dLst, ↓DL.itemAt0, ↓DL.itemAt1, ↓DL.itemAt2, ↓DL.itemAt3, ↓DL.oIx, ↓DL.dNoPart, ↓DL.dPart, ↓DL.dSl, ↓DL.dgName, ↓DL.dgNil, ↓DL.dgCons, ↓DL.dgTup, ↓DL.dNext, ↓DL.dSeq, ↓DL.dBreak, ↓DL.dCont, ↓DL.dDrop, ↓DL.dRet, ↓DL.dRetN, ↓DL.dIfS, ↓DL.dNever, ↓DL.dAsg, ↓DL.dAug, ↓DL.dOwn, ↓DL.dApp, ↓DL.dFrz, ↓DL.dFrzS, ↓DL.dIt, ↓DL.dItL, ↓DL.dItT, ↓DL.dRng1, ↓DL.dRng2, ↓DL.dZip, ↓DL.dFor, ↓DL.dYes, ↓DL.turnD, ↓DL.dLc, ↓DL.dRetO, ↓DL.dnCall, ↓DL.dnMove, ↓DL.frzAll, ↓DL.frz1, ↓DL.noLst, ↓DL.noLsts, ↓DL.dFz, ↓DL.dCall, ↓DL.dCB, ↓DL.oLen, ↓DL.oAbs, ↓DL.oInt2, ↓DL.oInt, ↓DL.oTuple, ↓DL.oList, ↓DL.dIsi, ↓DL.dEnum, ↓DL.oAdd, ↓DL.oMul, ↓DL.putAll, ↓DL.isNone, ↓DL.isIntB, ↓DL.isBoolB, ↓DL.isTupB, ↓DL.isStrB, ↓List.map_cons, ↓List.map_nil, ↓List.length_cons, ↓List.length_nil, ↓List.replicate_succ, ↓List.replicate_zero, ↓List.cons_append, ↓List.nil_append, ↓List.append_nil, ↓List.getElem?_cons_zero, ↓List.getElem?_cons_succ, ↓List.set_cons_zero, ↓List.set_cons_succ, Nat.reduceAdd, Nat.reduceSub, Nat.sub_self, Nat.add_sub_cancel, Nat.zero_add, ↓List.append_assoc, ↓DL.ifd_t, ↓DL.ifd_f, ↓DL.sz0, ↓DL.sz1, ↓DL.sz2, ↓DL.sz3, ↓DL.sz4, ↓DL.sz5, ↓DL.sz6, ↓DL.sz7, ↓DL.sz8, ↓DL.sz9, ↓DL.sz10, ↓DL.sz11, ↓DL.sz12, ↓DL.sz13, ↓DL.sz14, ↓DL.sz15, Bool.false_eq_true, ↓Bool.not_true, ↓Bool.not_false, ↓true_and, ↓and_true, fr, T_forms_is_sized, isSzB]
  rw [show decide (((2 : Nat) : Int) = 2) = true from rfl]
  simp only [↓DL.dVar, ↓DL.dC, ↓DL.dU, ↓DL.dOp, ↓DL.dBor, ↓DL.dBorT, ↓DL.dnLst, ↓DL.dFz, ↓DL.dSetN, ↓DL.dmNil, ↓DL.dmDat, ↓DL.dmNew, ↓DL.dPar, ↓DL.setAt0, ↓DL.setAt1, ↓DL.setAt2, ↓DL.ownAt, ↓DL.dSetIx, ↓DL.dAugIx, ↓DL.dCallB, ↓DL.insAt, ↓DL.dFld, ↓DL.dFldD, ↓DL.dFldN, ↓DL.fownAt, ↓DL.dAppF, ↓DL.dMeth, ↓DL.daNil, ↓DL.dMake, ↓DL.dZip2, ↓DL.dZip3, ↓DL.oAddL, ↓DL.oMulL, ↓DL.dnOp, ↓DL.oListN, ↓DL.dnU, ↓DL.dChain, ↓DL.dgLst, ↓DL.dmRaw, ↓DL.dmVarR, ↓DL.dCallM, ↓DL.dCallL, ↓DL.oRepr, ↓DL.asInt, ↓DL.asBool, ↓DL.asTup, ↓DL.asLst, ↓DL.asSeq, ↓DL.oI0, ↓DL.oI, ↓DL.oNeg, ↓DL.oEq_int, ↓DL.oNe_int, ↓DL.oIsN, ↓DL.oNotN, ↓DL.oIsB, ↓DL.oNotB, ↓DL.dTst, ↓DL.dNotB, ↓DL.dAndB, ↓DL.dOrB, ↓DL.dAndV, ↓DL.dOrV, ↓DL.dNotV, ↓DL.dIf, ↓DL.dNil, ↓DL.dCons, ↓DL.dStar, ↓DL.dTup, ↓DL.dLst, ↓DL.itemAt0, ↓DL.itemAt1, ↓DL.itemAt2, ↓DL.itemAt3, ↓DL.oIx, ↓DL.dNoPart, ↓DL.dPart, ↓DL.dSl, ↓DL.dgName, ↓DL.dgNil, ↓DL.dgCons, ↓DL.dgTup, ↓DL.dNext, ↓DL.dSeq, ↓DL.dBreak, ↓DL.dCont, ↓DL.dDrop, ↓DL.dRet, ↓DL.dRetN, ↓DL.dIfS, ↓DL.dNever, ↓DL.dAsg, ↓DL.dAug, ↓DL.dOwn, ↓DL.dApp, ↓DL.dFrz, ↓DL.dFrzS, ↓DL.dIt, ↓DL.dItL, ↓DL.dItT, ↓DL.dRng1, ↓DL.dRng2, ↓DL.dZip, ↓DL.dFor, ↓DL.dYes, ↓DL.turnD, ↓DL.dLc, ↓DL.dRetO, ↓DL.dnCall, ↓DL.dnMove, ↓DL.frzAll, ↓DL.frz1, ↓DL.noLst, ↓DL.noLsts, ↓DL.dFz, ↓DL.dCall, ↓DL.dCB, ↓DL.oLen, ↓DL.oAbs, ↓DL.oInt2, ↓DL.oInt, ↓DL.oTuple, ↓DL.oList, ↓DL.dIsi, ↓DL.dEnum, ↓DL.oAdd, ↓DL.oMul, ↓DL.putAll, ↓DL.isNone, ↓DL.isIntB, ↓DL.isBoolB, ↓DL.isTupB, ↓DL.isStrB, ↓List.map_cons, ↓List.map_nil, ↓List.length_cons, ↓List.length_nil, ↓List.replicate_succ, ↓List.replicate_zero, ↓List.cons_append, ↓List.nil_append, ↓List.append_nil, ↓List.getElem?_cons_zero, ↓List.getElem?_cons_succ, ↓List.set_cons_zero, ↓List.set_cons_succ, Nat.reduceAdd, Nat.reduceSub, Nat.sub_self, Nat.add_sub_cancel, Nat.zero_add, ↓List.append_assoc, ↓DL.ifd_t, ↓DL.ifd_f, ↓DL.sz0, ↓DL.sz1, ↓DL.sz2, ↓DL.sz3, ↓DL.sz4, ↓DL.sz5, ↓DL.sz6, ↓DL.sz7, ↓DL.sz8, ↓DL.sz9, ↓DL.sz10, ↓DL.sz11, ↓DL.sz12, ↓DL.sz13, ↓DL.sz14, ↓DL.sz15, Bool.false_eq_true, ↓Bool.not_true, ↓Bool.not_false, ↓true_and, ↓and_true]
  refine ⟨rfl, ⟨rfl, (by show 2 ≤ sizeLine; decide), fun _ _ => trivial⟩, ?_⟩
  have hd : ¬ ((p.den : Int) < 1) := by have := p.den_pos; omega
  have hg : Int.gcd p.num (p.den : Int) = 1 := p.reduced
  have e : tupB isNumB (.tuple [.int p.num, .int (p.den : Int)]) = true := rfl
  rw [e]
  simp only [↓DL.dVar, ↓DL.dC, ↓DL.dU, ↓DL.dOp, ↓DL.dBor, ↓DL.dBorT, ↓DL.dnLst, ↓DL.dFz, ↓DL.dSetN, ↓DL.dmNil, ↓DL.dmDat, ↓DL.dmNew, ↓DL.dPar, ↓DL.setAt0, ↓DL.setAt1, ↓DL.setAt2, ↓DL.ownAt, ↓DL.dSetIx, ↓DL.dAugIx, ↓DL.dCallB, ↓DL.insAt, ↓DL.dFld, ↓DL.dFldD, ↓DL.dFldN, ↓DL.fownAt, ↓DL.dAppF, ↓DL.dMeth, ↓DL.daNil, ↓DL.dMake, ↓DL.dZip2, ↓DL.dZip3, ↓DL.oAddL, ↓DL.oMulL, ↓DL.dnOp, ↓DL.oListN, ↓DL.dnU, ↓DL.dChain, ↓DL.dgLst, ↓DL.dmRaw, ↓DL.dmVarR, ↓DL.dCallM, ↓DL.dCallL, ↓DL.oRepr, ↓DL.asInt, ↓DL.asBool, ↓DL.asTup, ↓DL.asLst, ↓DL.asSeq, ↓DL.oI0, ↓DL.oI, ↓DL.oNeg, ↓DL.oEq_int, ↓DL.oNe_int, ↓DL.oIsN, ↓DL.oNotN, ↓DL.oIsB, ↓DL.oNotB, ↓DL.dTst, ↓DL.dNotB, ↓DL.dAndB, ↓DL.dOrB, ↓DL.dAndV, ↓DL.dOrV, ↓DL.dNotV, ↓DL.dIf, ↓DL.dNil, ↓DL.dCons, ↓DL.dStar, ↓DL.dTup, ↓DL.dLst, ↓DL.itemAt0, ↓DL.itemAt1, ↓DL.itemAt2, ↓DL.itemAt3, ↓DL.oIx, ↓DL.dNoPart, ↓DL.dPart, ↓DL.dSl, ↓DL.dgName, ↓DL.dgNil, ↓DL.dgCons, ↓DL.dgTup, ↓DL.dNext, ↓DL.dSeq, ↓DL.dBreak, ↓DL.dCont, ↓DL.dDrop, ↓DL.dRet, ↓DL.dRetN, ↓DL.dIfS, ↓DL.dNever, ↓DL.dAsg, ↓DL.dAug, ↓DL.dOwn, ↓DL.dApp, ↓DL.dFrz, ↓DL.dFrzS, ↓DL.dIt, ↓DL.dItL, ↓DL.dItT, ↓DL.dRng1, ↓DL.dRng2, ↓DL.dZip, ↓DL.dFor, ↓DL.dYes, ↓DL.turnD, ↓DL.dLc, ↓DL.dRetO, ↓DL.dnCall, ↓DL.dnMove, ↓DL.frzAll, ↓DL.frz1, ↓DL.noLst, ↓DL.noLsts, ↓DL.dFz, ↓DL.dCall, ↓DL.dCB, ↓DL.oLen, ↓DL.oAbs, ↓DL.oInt2, ↓DL.oInt, ↓DL.oTuple, ↓DL.oList, ↓DL.dIsi, ↓DL.dEnum, ↓DL.oAdd, ↓DL.oMul, ↓DL.putAll, ↓DL.isNone, ↓DL.isIntB, ↓DL.isBoolB, ↓DL.isTupB, ↓DL.isStrB, ↓List.map_cons, ↓List.map_nil, ↓List.length_cons, ↓List.length_nil, ↓List.replicate_succ, ↓List.replicate_zero, ↓List.cons_append, ↓List.nil_append, ↓List.append_nil, ↓List.getElem?_cons_zero, ↓List.getElem?_cons_succ, ↓List.set_cons_zero, ↓List.set_cons_succ, Nat.reduceAdd, Nat.reduceSub, Nat.sub_self, Nat.add_sub_cancel, Nat.zero_add, ↓List.append_assoc, ↓DL.ifd_t, ↓DL.ifd_f, ↓DL.sz0, ↓DL.sz1, ↓DL.sz2, ↓DL.sz3, ↓DL.sz4, ↓DL.sz5, ↓DL.sz6, ↓DL.sz7, ↓DL.sz8, ↓DL.sz9, ↓DL.sz10, ↓DL.sz11, ↓DL.sz12, ↓DL.sz13, ↓DL.sz14, ↓DL.sz15, Bool.false_eq_true, ↓Bool.not_true, ↓Bool.not_false, ↓true_and, ↓and_true, decide_eq_false hd, T_forms_common_divisor, hg]
  exact h
/-! ### the law's own reckoning -/
def T__law_made : DTP := T_fractions_made
def T__law_add : DTP := T_fractions_added
def T__law_mul : DTP := T_fractions_times
def T__law_neg : DTP := T_fractions_negative
def T__law_below : DTP := T_fractions_is_less
def T__law_floor : DTP := T_fractions_floor
theorem ok__law_floor (t : Txt K mg) : Cl P w K mg base 1 "_law_floor" 1 T__law_floor := by
  have nb := t.nb
  refine cl_of t.d__law_floor sc__law_floor rfl (by intro xs Q h; unfold T__law_floor T_fractions_floor at h; split at h <;> first | rfl | exact h.elim) (fun f cdv A outer s H E hr => (dss_one (ds_ret (de_div (de_ix (de_var 0 (pv 0)) de_int) (de_ix (de_var 0 (pv 0)) de_int))))) (fun xs Q h => ?_)
  unfold T__law_floor T_fractions_floor at h
  split at h
  rotate_left
  · exact h.elim
  rename_i x
  obtain ⟨p, ⟨rfl, hp⟩, h⟩ := h
  rw [Rat.floor_def] at h
  simp only [↓DL.dVar, ↓DL.dC, ↓DL.dU, ↓DL.dOp, ↓DL.dBor, ↓DL.dBorT, ↓DL.dnLst, ↓DL.dFz, ↓DL.dSetN, ↓DL.dmNil, ↓DL.dmDat, ↓DL.dmNew, ↓DL.dPar, ↓DL.setAt0, ↓DL.setAt1, ↓DL.setAt2, ↓DL.ownAt, ↓DL.dSetIx, ↓DL.dAugIx, ↓DL.dCallB, ↓DL.insAt, ↓DL.dFld, ↓DL.dFldD, ↓DL.dFldN, ↓DL.fownAt, ↓DL.dAppF, ↓DL.dMeth, ↓DL.daNil, ↓DL.dMake, ↓DL.dZip2, ↓DL.dZip3, ↓DL.oAddL, ↓DL.oMulL, ↓DL.dnOp, ↓DL.oListN, ↓DL.dnU, ↓DL.dChain, ↓DL.dgLst, ↓DL.dmRaw, ↓DL.dmVarR, ↓DL.dCallM, ↓DL.dCallL, ↓DL.oRepr, ↓DL.asInt, ↓DL.asBool, ↓DL.asTup, ↓DL.asLst, ↓DL.asSeq, ↓DL.oI0, ↓DL.oI, ↓DL.oNeg, ↓DL.oEq_int, ↓DL.oNe_int, ↓DL.oIsN, ↓DL.oNotN, ↓DL.oIsB, ↓DL.oNotB, ↓DL.dTst, ↓DL.dNotB, ↓DL.dAndB, ↓DL.dOrB, ↓DL.dAndV, ↓DL.dOrV, ↓DL.dNotV, ↓DL.dIf, ↓DL.dNil, ↓DL.dCons, ↓DL.dStar, ↓DL.dTup, ↓DL.dLst, ↓DL.itemAt0, ↓DL.itemAt1, ↓DL.itemAt2, ↓DL.itemAt3, ↓DL.oIx, ↓DL.dNoPart, ↓DL.dPart, ↓DL.dSl, ↓DL.dgName, ↓DL.dgNil, ↓DL.dgCons, ↓DL.dgTup, ↓DL.dNext, ↓DL.dSeq, ↓DL.dBreak, ↓DL.dCont, ↓DL.dDrop, ↓DL.dRet, ↓DL.dRetN, ↓DL.dIfS, ↓DL.dNever, ↓DL.dAsg, ↓DL.dAug, ↓DL.dOwn, ↓DL.dApp, ↓DL.dFrz, ↓DL.dFrzS, ↓DL.dIt, ↓DL.dItL, ↓DL.dItT, ↓DL.dRng1, ↓DL.dRng2, ↓DL.dZip, ↓DL.dFor, ↓DL.dYes, ↓DL.turnD, ↓DL.dLc, ↓DL.dRetO, ↓DL.dnCall, ↓DL.dnMove, ↓DL.frzAll, ↓DL.frz1, ↓DL.noLst, ↓DL.noLsts, ↓DL.dFz, ↓DL.dCall, ↓DL.dCB, ↓DL.oLen, ↓DL.oAbs, ↓DL.oInt2, ↓DL.oInt, ↓DL.oTuple, ↓DL.oList, ↓DL.dIsi, ↓DL.dEnum, ↓DL.oAdd, ↓DL.oMul, ↓DL.putAll, ↓DL.isNone, ↓DL.isIntB, ↓DL.isBoolB, ↓DL.isTupB, ↓DL.isStrB, ↓List.map_cons, ↓List.map_nil, ↓List.length_cons, ↓List.length_nil, ↓List.replicate_succ, ↓List.replicate_zero, ↓List.cons_append, ↓List.nil_append, ↓List.append_nil, ↓List.getElem?_cons_zero, ↓List.getElem?_cons_succ, ↓List.set_cons_zero, ↓List.set_cons_succ, Nat.reduceAdd, Nat.reduceSub, Nat.sub_self, Nat.add_sub_cancel, Nat.zero_add, ↓List.append_assoc, ↓DL.ifd_t, ↓DL.ifd_f, ↓DL.sz0, ↓DL.sz1, ↓DL.sz2, ↓DL.sz3, ↓DL.sz4, ↓DL.sz5, ↓DL.sz6, ↓DL.sz7, ↓DL.sz8, ↓DL.sz9, ↓DL.sz10, ↓DL.sz11, ↓DL.sz12, ↓DL.sz13, ↓DL.sz14, ↓DL.sz15, Bool.false_eq_true, ↓Bool.not_true, ↓Bool.not_false, ↓true_and, ↓and_true, fr]
  exact ⟨wide_div (by have := p.den_pos; omega) (b := 100) (by simpa using hp.2) (by decide) (by decide), h⟩

end LW

namespace LW
open PySem PySem.Spec PyProof.Rows L2 DL
variable {P : Program} {w : World} {K : PySem.W.Frag} {mg : Str → Option Value} {base : Heap}
/-! ### drawing -/
/-- the bag: n is at least the number of cells taken -/
def good (n : Nat) (ob : Ob) : Prop := ∃ (b0 b1 b2 : Int) (cells : List Int), ob = .lst [.int b0, .int b1, .int b2, .list (cells.map .int)] ∧ 0 ≤ b0 ∧ (0 ≤ b1 ∧ b1 < 2147483647) ∧ (0 ≤ b2 ∧ b2 ≤ n) ∧ cells.length ≤ 63 ∧ ∀ c ∈ cells, 0 ≤ c
theorem good_mono {n m : Nat} {ob : Ob} (h : good n ob) (hm : n ≤ m) : good m ob := by
  obtain ⟨b0, b1, b2, cells, e, h0, h1, h2, h3⟩ := h
  exact ⟨b0, b1, b2, cells, e, h0, h1, ⟨h2.1, by omega⟩, h3⟩
def T__law_bag : DTO2 := fun xs Q => match xs with
  | [.list ys] => ∃ ns : List Int, (ys = ns.map .int ∧ ns.length ≤ 63) ∧ ∀ ob, good 0 ob → Q ob
  | _ => False
theorem ok__law_bag (t : Txt K mg) : ClN P w K mg base 1 "_law_bag" 1 T__law_bag := by
  have nb := t.nb
  refine clN_of t.d__law_bag sc__law_bag rfl (by intro xs Q h; unfold T__law_bag at h; split at h <;> first | rfl | exact h.elim) (fun f cdv A outer s H E hr => (dss_one (ds_retO (dn_lst (da_cons de_int (da_cons de_int (da_cons de_int (da_cons (de_lc (own := [("cell", 1)]) rfl sc__law_bag.nd (di_seq (de_slice (de_var 0 (pv 0)) do_none (do_some de_int))) (blkOk_by (by kernel_rfl)) (fun _ _ _ _ _ => (dw_name (i := 1) (pg_name (i := 1) sc__law_bag.nd rfl (by first | exact .inl rfl | exact .inr rfl)) (by decide))) (fun _ _ _ _ _ => dts_nil) (fun _ _ _ _ _ => (de_blt call_abs od_abs (by rfl) nb.abs_ (by decide +kernel) (da_cons (de_var 1 (pv 1)) da_nil)))) da_nil)))))))) (fun xs Q h => ?_)
  unfold T__law_bag at h
  split at h
  rotate_left
  · exact h.elim
  rename_i x
  obtain ⟨ns, ⟨rfl, hl⟩, h⟩ := h
  simp only [↓DL.dVar, ↓DL.dC, ↓DL.dU, ↓DL.dOp, ↓DL.dBor, ↓DL.dBorT, ↓DL.dnLst, ↓DL.dFz, ↓DL.dSetN, ↓DL.dmNil, ↓DL.dmDat, ↓DL.dmNew, ↓DL.dPar, ↓DL.setAt0, ↓DL.setAt1, ↓DL.setAt2, ↓DL.ownAt, ↓DL.dSetIx, ↓DL.dAugIx, ↓DL.dCallB, ↓DL.insAt, ↓DL.dFld, ↓DL.dFldD, ↓DL.dFldN, ↓DL.fownAt, ↓DL.dAppF, ↓DL.dMeth, ↓DL.daNil, ↓DL.dMake, ↓DL.dZip2, ↓DL.dZip3, ↓DL.oAddL, ↓DL.oMulL, ↓DL.dnOp, ↓DL.oListN, ↓DL.dnU, ↓DL.dChain, ↓DL.dgLst, ↓DL.dmRaw, ↓DL.dmVarR, ↓DL.dCallM, ↓DL.dCallL, ↓DL.oRepr, ↓DL.asInt, ↓DL.asBool, ↓DL.asTup, ↓DL.asLst, ↓DL.asSeq, ↓DL.oI0, ↓DL.oI, ↓DL.oNeg, ↓DL.oEq_int, ↓DL.oNe_int, ↓DL.oIsN, ↓DL.oNotN, ↓DL.oIsB, ↓DL.oNotB, ↓DL.dTst, ↓DL.dNotB, ↓DL.dAndB, ↓DL.dOrB, ↓DL.dAndV, ↓DL.dOrV, ↓DL.dNotV, ↓DL.dIf, ↓DL.dNil, ↓DL.dCons, ↓DL.dStar, ↓DL.dTup, ↓DL.dLst, ↓DL.itemAt0, ↓DL.itemAt1, ↓DL.itemAt2, ↓DL.itemAt3, ↓DL.oIx, ↓DL.dNoPart, ↓DL.dPart, ↓DL.dSl, ↓DL.dgName, ↓DL.dgNil, ↓DL.dgCons, ↓DL.dgTup, ↓DL.dNext, ↓DL.dSeq, ↓DL.dBreak, ↓DL.dCont, ↓DL.dDrop, ↓DL.dRet, ↓DL.dRetN, ↓DL.dIfS, ↓DL.dNever, ↓DL.dAsg, ↓DL.dAug, ↓DL.dOwn, ↓DL.dApp, ↓DL.dFrz, ↓DL.dFrzS, ↓DL.dIt, ↓DL.dItL, ↓DL.dItT, ↓DL.dRng1, ↓DL.dRng2, ↓DL.dZip, ↓DL.dFor, ↓DL.dYes, ↓DL.turnD, ↓DL.dLc, ↓DL.dRetO, ↓DL.dnCall, ↓DL.dnMove, ↓DL.frzAll, ↓DL.frz1, ↓DL.noLst, ↓DL.noLsts, ↓DL.dFz, ↓DL.dCall, ↓DL.dCB, ↓DL.oLen, ↓DL.oAbs, ↓DL.oInt2, ↓DL.oInt, ↓DL.oTuple, ↓DL.oList, ↓DL.dIsi, ↓DL.dEnum, ↓DL.oAdd, ↓DL.oMul, ↓DL.putAll, ↓DL.isNone, ↓DL.isIntB, ↓DL.isBoolB, ↓DL.isTupB, ↓DL.isStrB, ↓List.map_cons, ↓List.map_nil, ↓List.length_cons, ↓List.length_nil, ↓List.replicate_succ, ↓List.replicate_zero, ↓List.cons_append, ↓List.nil_append, ↓List.append_nil, ↓List.getElem?_cons_zero, ↓List.getElem?_cons_succ, ↓List.set_cons_zero, ↓List.set_cons_succ, Nat.reduceAdd, Nat.reduceSub, Nat.sub_self, Nat.add_sub_cancel, Nat.zero_add, ↓List.append_assoc, ↓DL.ifd_t, ↓DL.ifd_f, ↓DL.sz0, ↓DL.sz1, ↓DL.sz2, ↓DL.sz3, ↓DL.sz4, ↓DL.sz5, ↓DL.sz6, ↓DL.sz7, ↓DL.sz8, ↓DL.sz9, ↓DL.sz10, ↓DL.sz11, ↓DL.sz12, ↓DL.sz13, ↓DL.sz14, ↓DL.sz15, Bool.false_eq_true, ↓Bool.not_true, ↓Bool.not_false, ↓true_and, ↓and_true]
  have e : cut (ns.map PyData.int) none (some 63) = (ns.take 63).map .int := by
    rw [cut_map]
    exact congrArg _ (cut_upto ns 63)
  rw [e]
  refine ⟨by rw [List.length_map, List.length_take, sizeLine_eq]; omega, comp_map (f := fun i => .int (i.natAbs : Int)) rfl (fun a ha kk hk => ?_) (h _ ⟨0, 1234567891, 0, (ns.take 63).map fun i => (i.natAbs : Int), ?_, by decide, by decide, by decide, ?_, ?_⟩)⟩
  · simp only [↓DL.dVar, ↓DL.dC, ↓DL.dU, ↓DL.dOp, ↓DL.dBor, ↓DL.dBorT, ↓DL.dnLst, ↓DL.dFz, ↓DL.dSetN, ↓DL.dmNil, ↓DL.dmDat, ↓DL.dmNew, ↓DL.dPar, ↓DL.setAt0, ↓DL.setAt1, ↓DL.setAt2, ↓DL.ownAt, ↓DL.dSetIx, ↓DL.dAugIx, ↓DL.dCallB, ↓DL.insAt, ↓DL.dFld, ↓DL.dFldD, ↓DL.dFldN, ↓DL.fownAt, ↓DL.dAppF, ↓DL.dMeth, ↓DL.daNil, ↓DL.dMake, ↓DL.dZip2, ↓DL.dZip3, ↓DL.oAddL, ↓DL.oMulL, ↓DL.dnOp, ↓DL.oListN, ↓DL.dnU, ↓DL.dChain, ↓DL.dgLst, ↓DL.dmRaw, ↓DL.dmVarR, ↓DL.dCallM, ↓DL.dCallL, ↓DL.oRepr, ↓DL.asInt, ↓DL.asBool, ↓DL.asTup, ↓DL.asLst, ↓DL.asSeq, ↓DL.oI0, ↓DL.oI, ↓DL.oNeg, ↓DL.oEq_int, ↓DL.oNe_int, ↓DL.oIsN, ↓DL.oNotN, ↓DL.oIsB, ↓DL.oNotB, ↓DL.dTst, ↓DL.dNotB, ↓DL.dAndB, ↓DL.dOrB, ↓DL.dAndV, ↓DL.dOrV, ↓DL.dNotV, ↓DL.dIf, ↓DL.dNil, ↓DL.dCons, ↓DL.dStar, ↓DL.dTup, ↓DL.dLst, ↓DL.itemAt0, ↓DL.itemAt1, ↓DL.itemAt2, ↓DL.itemAt3, ↓DL.oIx, ↓DL.dNoPart, ↓DL.dPart, ↓DL.dSl, ↓DL.dgName, ↓DL.dgNil, ↓DL.dgCons, ↓DL.dgTup, ↓DL.dNext, ↓DL.dSeq, ↓DL.dBreak, ↓DL.dCont, ↓DL.dDrop, ↓DL.dRet, ↓DL.dRetN, ↓DL.dIfS, ↓DL.dNever, ↓DL.dAsg, ↓DL.dAug, ↓DL.dOwn, ↓DL.dApp, ↓DL.dFrz, ↓DL.dFrzS, ↓DL.dIt, ↓DL.dItL, ↓DL.dItT, ↓DL.dRng1, ↓DL.dRng2, ↓DL.dZip, ↓DL.dFor, ↓DL.dYes, ↓DL.turnD, ↓DL.dLc, ↓DL.dRetO, ↓DL.dnCall, ↓DL.dnMove, ↓DL.frzAll, ↓DL.frz1, ↓DL.noLst, ↓DL.noLsts, ↓DL.dFz, ↓DL.dCall, ↓DL.dCB, ↓DL.oLen, ↓DL.oAbs, ↓DL.oInt2, ↓DL.oInt, ↓DL.oTuple, ↓DL.oList, ↓DL.dIsi, ↓DL.dEnum, ↓DL.oAdd, ↓DL.oMul, ↓DL.putAll, ↓DL.isNone, ↓DL.isIntB, ↓DL.isBoolB, ↓DL.isTupB, ↓DL.isStrB, ↓List.map_cons, ↓List.map_nil, ↓List.length_cons, ↓List.length_nil, ↓List.replicate_succ, ↓List.replicate_zero, ↓List.cons_append, ↓List.nil_append, ↓List.append_nil, ↓List.getElem?_cons_zero, ↓List.getElem?_cons_succ, ↓List.set_cons_zero, ↓List.set_cons_succ, Nat.reduceAdd, Nat.reduceSub, Nat.sub_self, Nat.add_sub_cancel, Nat.zero_add, ↓List.append_assoc, ↓DL.ifd_t, ↓DL.ifd_f, ↓DL.sz0, ↓DL.sz1, ↓DL.sz2, ↓DL.sz3, ↓DL.sz4, ↓DL.sz5, ↓DL.sz6, ↓DL.sz7, ↓DL.sz8, ↓DL.sz9, ↓DL.sz10, ↓DL.sz11, ↓DL.sz12, ↓DL.sz13, ↓DL.sz14, ↓DL.sz15, Bool.false_eq_true, ↓Bool.not_true, ↓Bool.not_false, ↓true_and, ↓and_true, absI]
    exact hk
  · rw [List.map_map]
    rfl
  · rw [List.length_map, List.length_take]
    omega
  · intro c hc
    obtain ⟨i, _, rfl⟩ := List.mem_map.mp hc
    omega
def T__law_take : DTB := fun ob xs Q => match xs with
  | [.int many] => ∃ n : Nat, (good n ob ∧ n < 2 ^ 40 ∧ 0 < many ∧ many < 2 ^ 40) ∧ ∀ v ob', 0 ≤ v → v < many → good (n + 1) ob' → Q (.int v) ob'
  | _ => False
theorem ok__law_take (t : Txt K mg) : ClB P w K mg base 1 "_law_take" 2 T__law_take := by
  have nb := t.nb
  refine clB_of t.d__law_take sc__law_take rfl (by intro ob xs Q h; unfold T__law_take at h; split at h <;> first | rfl | exact h.elim) (fun f cdv A outer s H E hr => (dss_cons (ds_if (db_bor (db_cmp (op_eqD hr.units) od_eq (de_ix (de_var 0 (pv 0)) de_int) de_int (nomark _))) (dss_cons (ds_set (i := 2) sc__law_take.nd rfl (by first | exact .inl rfl | exact .inr rfl) (de_bor (de_ix (de_ofN (dn_add (de_slice (de_ix (de_var 0 (pv 0)) de_int) (do_some (de_ix (de_var 0 (pv 0)) de_int)) do_none) (de_lst (da_cons de_int da_nil)))) de_int)))
 (dss_cons (ds_augIx 0 (pv 0) de_int de_int ip_add od_ipI)
 (dss_cons (ds_if (db_cmp op_ge od_ge (de_var 2 (pv 2)) (de_pow de_int de_int) (nomark _)) (dss_one (ds_setIx 0 (pv 0) de_int (de_var 2 (pv 2)))) dss_nil)
 (dss_cons (ds_set (i := 3) sc__law_take.nd rfl (by first | exact .inl rfl | exact .inr rfl) (de_bor (de_addA (de_addA (de_mulA (de_ix (de_var 0 (pv 0)) de_int) de_int) (de_mod (de_bty call_int1 od_int (by rfl) nb.int_ (by decide +kernel) (da_cons (de_var 2 (pv 2)) da_nil)) de_int)) (de_mulA de_int (de_ix (de_var 0 (pv 0)) de_int)))))
 (dss_one (ds_setIx 0 (pv 0) de_int (de_mod (de_bty call_int1 od_int (by rfl) nb.int_ (by decide +kernel) (da_cons (de_var 3 (pv 3)) da_nil)) de_int))))))) dss_nil)
 (dss_cons (ds_if (db_bor (db_cmp op_gt od_gt (de_ix (de_var 0 (pv 0)) de_int) de_int (nomark _))) (dss_cons (ds_set (i := 4) sc__law_take.nd rfl (by first | exact .inl rfl | exact .inr rfl) (de_bor (de_mod (de_bty call_int1 od_int (by rfl) nb.int_ (by decide +kernel) (da_cons (de_ix (de_var 0 (pv 0)) de_int) da_nil)) (de_var 1 (pv 1)))))
 (dss_cons (ds_setIx 0 (pv 0) de_int (de_bor (de_div (de_bty call_int1 od_int (by rfl) nb.int_ (by decide +kernel) (da_cons (de_ix (de_var 0 (pv 0)) de_int) da_nil)) (de_var 1 (pv 1)))))
 (dss_one (ds_ret (de_var 4 (pv 4)))))) dss_nil)
 (dss_cons (ds_set (i := 5) sc__law_take.nd rfl (by first | exact .inl rfl | exact .inr rfl) (de_bor (de_mod (de_bty call_int1 od_int (by rfl) nb.int_ (by decide +kernel) (da_cons (de_mulA (de_addA (de_ix (de_var 0 (pv 0)) de_int) de_int) de_int) da_nil)) de_int)))
 (dss_cons (ds_set (i := 6) sc__law_take.nd rfl (by first | exact .inl rfl | exact .inr rfl) (de_mod (de_bty call_int1 od_int (by rfl) nb.int_ (by decide +kernel) (da_cons (de_mulA (de_mod (de_bty call_int1 od_int (by rfl) nb.int_ (by decide +kernel) (da_cons (de_mulA (de_var 5 (pv 5)) (de_var 5 (pv 5))) da_nil)) de_int) de_int) da_nil)) de_int))
 (dss_one (ds_ret (de_mod (de_bty call_int1 od_int (by rfl) nb.int_ (by decide +kernel) (da_cons (de_div (de_var 6 (pv 6)) de_int) da_nil)) (de_var 1 (pv 1)))))))))) (fun a0 ob xs Q h => ?_)
  unfold T__law_take at h
  split at h
  rotate_left
  · exact h.elim
  rename_i x
  obtain ⟨n, ⟨⟨b0, b1, b2, cells, rfl, h0, h1, h2, h3, h4⟩, hn, hm0, hm1⟩, h⟩ := h
  have cm : ∀ i j : Int, i.natAbs < 2 ^ 64 → j.natAbs < 2 ^ 64 → CMulW i j := fun i j hi hj => wide_mul (a := 64) (b := 64) hi hj (by decide) (by decide) (by decide)
  refine seq_of (fun ρ' => ∃ (b0 b1 b2 : Int) (s3 s4 : Sl), ρ' = [.o a0 (.lst [.int b0, .int b1, .int b2, .list (cells.map .int)]), .d (.int x), s3, s4, .un, .un, .un] ∧ 0 ≤ b0 ∧ (0 ≤ b1 ∧ b1 < 2147483647) ∧ (0 ≤ b2 ∧ b2 ≤ n + 1)) (fun N hN => ?_) (fun ρ' hR => ?_)
  · refine .mk 0 _ rfl rfl ⟨⟨rfl, rfl⟩, ifd_eqI (fun hb => ?_) (fun hb => hN _ ⟨b0, b1, b2, _, _, rfl, h0, h1, h2.1, by omega⟩)⟩
    refine seq_of (fun ρ' => ∃ c, ρ' = [.o a0 (.lst [.int b0, .int b1, .int b2, .list (cells.map .int)]), .d (.int x), .d (.int c), .un, .un, .un, .un] ∧ 0 ≤ c) (fun N hN => ?_) (fun ρ' hR => ?_)
    · obtain ⟨c, r, hc, h0c⟩ : ∃ c r, cut (cells.map PyData.int) (some b2) none ++ [.int 0] = .int c :: r ∧ 0 ≤ c := by
        have e : cut (cells.map PyData.int) (some b2) none = (cells.drop b2.toNat).map .int := by
          rw [cut_map]
          have := cut_from cells b2.toNat
          rw [Int.toNat_of_nonneg h2.1] at this
          rw [this]
        rw [e]
        cases q : cells.drop b2.toNat with
        | nil => exact ⟨0, [], rfl, by decide⟩
        | cons c r =>
          refine ⟨c, r.map .int ++ [.int 0], rfl, h4 c ?_⟩
          have : c ∈ cells.drop b2.toNat := by rw [q]; exact List.mem_cons_self ..
          exact List.mem_of_mem_drop this
      have hl : (cut (cells.map PyData.int) (some b2) none).length + [PyData.int 0].length ≤ sizeLine := by
        unfold cut
        rw [List.length_take, List.length_drop, List.length_map, sizeLine_eq]
        show _ + 1 ≤ _
        omega
      refine .mk 3 _ rfl rfl (.mk 2 _ rfl rfl ⟨by show 1 ≤ sizeLine; decide, hl, ?_⟩)
      rw [hc]
      exact .mk 0 _ (by unfold ixN; rw [if_pos (by decide), if_pos (by rw [List.length_cons]; omega)]; rfl) rfl ⟨rfl, hN _ ⟨c, rfl, h0c⟩⟩
    · obtain ⟨c, rfl, h0c⟩ := hR
      refine .mk 2 _ rfl rfl (.mk 2 rfl ?_)
      dsimp only [List.set_cons_zero, List.set_cons_succ]
      refine seq_of (fun ρ' => ∃ b0, ρ' = [.o a0 (.lst [.int b0, .int b1, .int (b2 + 1), .list (cells.map .int)]), .d (.int x), .d (.int c), .un, .un, .un, .un] ∧ 0 ≤ b0) (fun N hN => ?_) (fun ρ' hR => ?_)
      · exact ⟨⟨by decide, by decide, by decide⟩, IfD.by (fun _ => .mk 0 rfl (hN _ ⟨c, rfl, h0c⟩)) (fun _ => hN _ ⟨b0, rfl, h0⟩)⟩
      · obtain ⟨b0, rfl, h0⟩ := hR
        refine .mk 1 _ rfl rfl ⟨cm _ _ (by omega) (by decide), (by show (0 : Int) < _; decide), .mk 2 _ rfl rfl ⟨cm _ _ (by decide) (by omega), rfl, ?_⟩⟩
        refine ⟨(by show (0 : Int) < _; decide), .mk 1 rfl (hN _ ⟨b0, _, b2 + 1, _, _, rfl, h0, ⟨Int.emod_nonneg _ (by decide), Int.emod_lt_of_pos _ (by decide)⟩, by omega, by omega⟩)⟩
  · obtain ⟨b0, b1, b2, s3, s4, rfl, h0, h1, h2⟩ := hR
    have fin : ∀ v b0', 0 ≤ v → v < x → 0 ≤ b0' → ∀ r, endB a0 (Q (.int v)) (.o a0 (.lst [.int b0', .int b1, .int b2, .list (cells.map .int)]) :: r) := fun v b0' g0 g1 g2 r => ⟨rfl, h v _ g0 g1 ⟨b0', b1, b2, cells, rfl, g2, h1, ⟨h2.1, by omega⟩, h3, h4⟩⟩
    refine seq_of (fun ρ' => ρ' = [.o a0 (.lst [.int b0, .int b1, .int b2, .list (cells.map .int)]), .d (.int x), s3, s4, .un, .un, .un]) (fun N hN => ?_) (fun ρ' hR => ?_)
    · refine .mk 0 _ rfl rfl (IfD.by (fun hb => ?_) (fun hb => hN _ rfl))
      refine .mk 0 _ rfl rfl ⟨hm0, rfl, .mk 0 _ rfl rfl ⟨wide_div hm0 (b := 64) (by omega) (by decide) (by decide), rfl, .mk 0 rfl (fin _ _ (Int.emod_nonneg _ (by omega)) (Int.emod_lt_of_pos _ hm0) (Int.ediv_nonneg h0 (by omega)) [])⟩⟩
    · subst hR
      have p1 := Int.emod_nonneg ((b1 + 1) * 39373) (b := 1000000007) (by decide)
      have p2 := Int.emod_lt_of_pos ((b1 + 1) * 39373) (b := 1000000007) (by decide)
      refine .mk 1 _ rfl rfl ⟨cm _ _ (by omega) (by decide), (by show (0 : Int) < _; decide), rfl, ?_⟩
      generalize ((b1 + 1) * 39373) % 1000000007 = d at p1 p2
      have p3 := Int.emod_nonneg (d * d) (b := 998244353) (by decide)
      have p4 := Int.emod_lt_of_pos (d * d) (b := 998244353) (by decide)
      refine ⟨cm _ _ (by omega) (by omega), (by show (0 : Int) < _; decide), cm _ _ (by omega) (by decide), (by show (0 : Int) < _; decide), ?_⟩
      refine ⟨wide_div (by decide) (b := 64) (by decide) (by decide) (by decide), hm0, ?_⟩
      exact fin _ _ (Int.emod_nonneg _ (by omega)) (Int.emod_lt_of_pos _ hm0) h0 []
/-- one of the things -/
def T__law_some : DTB := fun ob xs Q => match xs with
  | [.list ys] => ∃ n : Nat, (good n ob ∧ n < 2 ^ 40 ∧ 0 < ys.length ∧ ys.length ≤ 1000) ∧ ∀ y ∈ ys, ∀ ob', good (n + 1) ob' → Q y ob'
  | _ => False
theorem ok__law_some (t : Txt K mg) : ClB P w K mg base 2 "_law_some" 2 T__law_some := by
  have nb := t.nb
  have c__law_take := ok__law_take (P := P) (w := w) (base := base) t
  refine clB_of t.d__law_some sc__law_some rfl (by intro ob xs Q h; unfold T__law_some at h; split at h <;> first | rfl | exact h.elim) (fun f cdv A outer s H E hr => (dss_one (ds_ret (de_ix (de_var 1 (pv 1)) (de_callB 0 c__law_take hr (by decide) (by rfl) (pv 0) (da_cons (de_blt call_len_seq od_len (by rfl) nb.len_ PySem.boot_len (da_cons (de_var 1 (pv 1)) da_nil)) da_nil)))))) (fun a0 ob xs Q h => ?_)
  unfold T__law_some at h
  split at h
  rotate_left
  · exact h.elim
  rename_i x
  obtain ⟨n, ⟨hg, hn, hl, hl2⟩, h⟩ := h
  refine ⟨n, ⟨hg, hn, by omega, by omega⟩, fun v ob' h0 h1 hg' => ?_⟩
  have hv : v.toNat < x.length := by omega
  refine .mk v.toNat x[v.toNat] ?_ (List.getElem?_eq_getElem hv) ⟨rfl, h _ (List.getElem_mem hv) ob' hg'⟩
  unfold ixN
  rw [if_pos h0, if_pos h1]
/-- alike: the same data -/
def T__law_alike : DTP := fun xs Q => match xs with
  | [a, b] => (a = b ∧ okShow a ∧ SeqAt.shaped a = true ∧ PyData.eqv a a = true) ∧ Q (.bool true)
  | _ => False
theorem ok__law_alike (t : Txt K mg) : ClG P w K mg base 1 "_law_alike" 2 T__law_alike := by
  have nb := t.nb
  refine clG_of t.d__law_alike sc__law_alike rfl (by intro xs Q h; unfold T__law_alike at h; split at h <;> first | rfl | exact h.elim) (fun f cdv A outer s H E hr hG => (dss_one (ds_ret (de_and (de_cmp op_eq od_eqS (de_blt (cr_repr hG hr.units) od_repr (by rfl) nb.repr_ (by decide +kernel) (da_cons (de_var 0 (pv 0)) da_nil)) (de_blt (cr_repr hG hr.units) od_repr (by rfl) nb.repr_ (by decide +kernel) (da_cons (de_var 1 (pv 1)) da_nil)) (nomark _)) (de_one (de_cmp (op_eqD hr.units) od_eq (de_var 0 (pv 0)) (de_var 1 (pv 1)) (nomark _))))))) (fun xs Q h => ?_)
  unfold T__law_alike at h
  split at h
  rotate_left
  · exact h.elim
  rename_i x y
  obtain ⟨⟨rfl, h1, h2, h3⟩, h⟩ := h
  refine ⟨h1, h1, .t (decide_eq_true rfl) ⟨⟨h2, h2⟩, ?_⟩⟩
  show Q (.bool (PyData.eqv x x))
  rw [h3]
  exact h
/-- rows of services: m streams, each served by 0 to 3 -/
def SvOk (m : Nat) (L : List (List Int)) : Prop := 1 ≤ L.length ∧ L.length < 64 ∧ ∀ s ∈ L, s.length = m ∧ ∀ x ∈ s, 0 ≤ x ∧ x ≤ 3
def rowsD (L : List (List Int)) : PyData := .tuple (L.map tupI)
def T__law_services : DTB := fun ob xs Q => match xs with
  | [.int m] => ∃ (n k : Nat), (m = (k : Int) ∧ good n ob ∧ n < 2 ^ 39 ∧ 1 ≤ k ∧ k ≤ 8) ∧ ∀ L ob', SvOk k L → good (n + 40) ob' → Q (rowsD L) ob'
  | _ => False
/-! ### rates and bounds -/
def RtOk (q : Rat) : Prop := 0 ≤ q ∧ tv 100 q
/-- a bound: its rate, its burst -/
def BdOk (p : Rat × Rat) : Prop := RtOk p.1 ∧ tv 100 p.2 ∧ (1 ≤ p.2 ∨ (p.1 = 0 ∧ p.2 = 0))
def bdD (p : Rat × Rat) : PyData := .tuple [fr p.1, fr p.2]
def bdsD (L : List (Rat × Rat)) : PyData := .tuple (L.map bdD)

end LW

namespace LW
open PySem PySem.Spec PyProof.Rows L2 DL
variable {P : Program} {w : World} {K : PySem.W.Frag} {mg : Str → Option Value} {base : Heap}
/-! ### arrivals of one stream: sums ahead of a turn, less what the rate lets -/
def pot (r : Rat) (cs : List Int) (t : Nat) : Rat := (((cs.take t).sum : Int) : Rat) - r * ((t : Int) : Rat)
def CsOk (cs : List Int) : Prop := cs.length ≤ 200 ∧ ∀ c ∈ cs, 0 ≤ c ∧ c ≤ 1000
theorem sum_take_succ {cs : List Int} {t : Nat} (h : t < cs.length) : (cs.take (t + 1)).sum = (cs.take t).sum + cs[t] := by
  rw [List.take_add_one, List.getElem?_eq_getElem h, List.sum_append]
  simp
theorem pot_zero (r : Rat) (cs : List Int) : pot r cs 0 = 0 := by
  unfold pot
  simp
  grind
theorem pot_succ {r : Rat} {cs : List Int} {t : Nat} (h : t < cs.length) : pot r cs (t + 1) = pot r cs t + ((cs[t] : Rat) - r) := by
  unfold pot
  rw [sum_take_succ h, Rat.intCast_add, Int.natCast_add, Rat.intCast_add]
  have : (((1 : Nat) : Int) : Rat) = 1 := rfl
  rw [this]
  grind
theorem sum_bound : ∀ (cs : List Int), (∀ c ∈ cs, 0 ≤ c ∧ c ≤ 1000) → 0 ≤ cs.sum ∧ cs.sum ≤ 1000 * cs.length
  | [], _ => by simp
  | c :: cs, h => by
    have h1 := h c (List.mem_cons_self ..)
    have h2 := sum_bound cs fun d hd => h d (List.mem_cons_of_mem _ hd)
    rw [List.sum_cons, List.length_cons]
    omega
theorem take_bound {cs : List Int} (h : CsOk cs) (t : Nat) : 0 ≤ (cs.take t).sum ∧ (cs.take t).sum ≤ 200000 := by
  have h1 := sum_bound (cs.take t) fun c hc => h.2 c (List.mem_of_mem_take hc)
  have h2 : (cs.take t).length ≤ 200 := by
    rw [List.length_take]
    have := h.1
    omega
  omega
/-- the size that all sums keep -/
def PT : Nat := 200000 + 100 * 200
theorem pot_tw {r : Rat} {cs : List Int} (hr : tv 100 r) (hc : CsOk cs) {t : Nat} (ht : t ≤ 200) : tv PT (pot r cs t) := by
  have h1 := take_bound hc t
  exact tv_sub (tv_int (n := (cs.take t).sum) (N := 200000) (by omega)) (tv_mul (k := (t : Int)) (M := 200) hr (by omega))
/-- the greatest excess that ends with turn t, and where it begins -/
def ExcAt (r : Rat) (cs : List Int) (t : Nat) (p : Rat × Nat) : Prop := p.1 = pot r cs (t + 1) - pot r cs p.2 ∧ p.2 ≤ t ∧ ∀ i, i ≤ t → pot r cs p.2 ≤ pot r cs i
def ExcOk (r : Rat) (cs : List Int) (L : List (Rat × Nat)) : Prop := L.length = cs.length ∧ ∀ t p, L[t]? = some p → ExcAt r cs t p
def excD (p : Rat × Nat) : PyData := .tuple [fr p.1, .int (p.2 : Int)]
theorem num_ints (cs : List Int) : numD (cs.map .int) = ((List.range cs.length).zip cs).map fun p => .tuple [.int (0 + (p.1 : Int)), .int p.2] := by
  unfold numD rangeD
  rw [List.length_map, pairD_map]
def T_arrivals_excesses : DTP := fun xs Q => match xs with
  | [a, b] => ∃ (r : Rat) (cs : List Int), (a = fr r ∧ b = tupI cs ∧ tv 100 r ∧ CsOk cs) ∧ ∀ L, ExcOk r cs L → Q (.list (L.map excD))
  | _ => False
theorem ok_excesses (t : Txt K mg) : Cl P w K mg base 5 "excesses" 2 T_arrivals_excesses := by
  have nb := t.nb
  have c_added := ok_added (P := P) (w := w) (base := base) t
  have c_is_less := ok_is_less (P := P) (w := w) (base := base) t
  have c_less := ok_less (P := P) (w := w) (base := base) t
  have c_whole := ok_whole (P := P) (w := w) (base := base) t
  have c_ZERO := t.c_ZERO
  refine cl_of t.d_excesses sc_excesses rfl (by intro xs Q h; unfold T_arrivals_excesses at h; split at h <;> first | rfl | exact h.elim) (fun f cdv A outer s H E hr => (dss_cons (ds_par3 (i := 2) (j := 3) (l := 4) rfl sc_excesses.nd rfl rfl rfl (by decide) (by decide) (by decide) rfl rfl rfl (dm_new (dn_lst da_nil) (dm_dat (de_kc c_ZERO (by rfl)) (dm_dat de_int dm_nil))) (by rfl))
 (dss_cons (ds_for PassesOwn.never rfl (di_enum (by rfl) nb.enumerate_ (da_cons (de_var 1 (pv 1)) da_nil)) (dg_tup (n := 2) rfl (dgs_cons (dg_name (i := 5) (pg_name (i := 5) sc_excesses.nd rfl (by first | exact .inl rfl | exact .inr rfl))) (dgs_cons (dg_name (i := 6) (pg_name (i := 6) sc_excesses.nd rfl (by first | exact .inl rfl | exact .inr rfl))) dgs_nil)))
 (dss_cons (ds_if (db_not (db_val (de_callC c_is_less hr (by decide) (by rfl) (da_cons (de_kc c_ZERO (by rfl)) (da_cons (de_var 3 (pv 3)) da_nil))))) (dss_one (ds_par (i := 3) (j := 4) rfl sc_excesses.nd rfl rfl (by decide) rfl rfl (dm_dat (de_kc c_ZERO (by rfl)) (dm_dat (de_var 5 (pv 5)) dm_nil)) (by rfl))) dss_nil)
 (dss_cons (ds_set (i := 3) sc_excesses.nd rfl (by first | exact .inl rfl | exact .inr rfl) (de_callC c_added hr (by decide) (by rfl) (da_cons (de_var 3 (pv 3)) (da_cons (de_callC c_less hr (by decide) (by rfl) (da_cons (de_callC c_whole hr (by decide) (by rfl) (da_cons (de_var 6 (pv 6)) da_nil)) (da_cons (de_var 0 (pv 0)) da_nil))) da_nil))))
 (dss_one (ds_app 2 (pv 2) (de_tup (da_cons (de_var 3 (pv 3)) (da_cons (de_var 4 (pv 4)) da_nil))))))))
 (dss_one (ds_ret (de_frz 2 (de_var 2 (pv 2)))))))) (fun xs Q h => ?_)
  unfold T_arrivals_excesses at h
  split at h
  rotate_left
  · exact h.elim
  rename_i x y
  obtain ⟨r, cs, ⟨rfl, rfl, hr, hc⟩, h⟩ := h
  refine ⟨by decide, fun fp => ⟨rfl, ?_⟩⟩
  have hn := hc.1
  dsimp only [DL.putAll, DL.dgName, DL.dgCons, DL.dgNil, DL.dgTup, DL.asTup, List.map_cons, List.map_nil, List.cons_append, List.nil_append, List.replicate_succ, List.replicate_zero, List.length_cons, List.length_nil, Nat.reduceAdd, Nat.reduceSub, List.set_cons_zero, List.set_cons_succ]
  refine seq_of (fun ρ' => ∃ (L : List (Rat × Nat)) (s3 s4 s5 s6 : Sl), ρ' = [.d (fr r), .d (tupI cs), .o fp (.lst (L.map excD)), s3, s4, s5, s6] ∧ ExcOk r cs L) (fun N hN => ?_) (fun ρ' hR => ?_)
  · show forD _ _ _ (numD (cs.map .int)) _
    rw [num_ints]
    refine for_of (fun rest ρ => ∃ (t : Nat) (L : List (Rat × Nat)) (g : Nat) (s5 s6 : Sl), ρ = [.d (fr r), .d (tupI cs), .o fp (.lst (L.map excD)), .d (fr (pot r cs t - pot r cs g)), .d (.int (g : Int)), s5, s6] ∧ rest = ((List.range cs.length).zip cs).drop t ∧ t ≤ cs.length ∧ L.length = t ∧ g ≤ t ∧ (∀ i, i < t → pot r cs g ≤ pot r cs i) ∧ ∀ u p, L[u]? = some p → ExcAt r cs u p)
      (fun a rest ρ N2 hN2 hI => ?_) (fun ρ hI => ?_) ⟨0, [], 0, .un, .un, ?_, rfl, Nat.zero_le _, rfl, Nat.le_refl _, (fun i hi => absurd hi (Nat.not_lt_zero i)), fun u p hp => by simp at hp⟩
    · obtain ⟨t, L, g, s5, s6, rfl, hrest, ht, hl, hg, hmin, hL⟩ := hI
      have hlt : t < cs.length := by
        rcases Nat.lt_or_ge t cs.length with q | q
        · exact q
        · rw [List.drop_eq_nil_of_le (by rw [List.length_zip, List.length_range]; omega)] at hrest
          cases hrest
      have hz : t < ((List.range cs.length).zip cs).length := by rw [List.length_zip, List.length_range]; omega
      rw [List.drop_eq_getElem_cons hz, List.getElem_zip, List.getElem_range] at hrest
      injection hrest with ha hr2
      subst ha
      refine ⟨rfl, ?_⟩
      dsimp only [DL.putAll, DL.dgName, DL.dgCons, DL.dgNil, DL.dgTup, DL.asTup, List.map_cons, List.map_nil, List.cons_append, List.nil_append, List.replicate_succ, List.replicate_zero, List.length_cons, List.length_nil, Nat.reduceAdd, Nat.reduceSub, List.set_cons_zero, List.set_cons_succ]
      have smd : ∀ u v : Nat, u ≤ 200 → v ≤ 200 → sm (pot r cs u - pot r cs v) := fun u v hu hv => tv_sm (tv_sub (pot_tw hr hc hu) (pot_tw hr hc hv)) (by unfold PT; decide)
      have h0 : (.tuple [.int 0, .int 1] : PyData) = fr 0 := rfl
      refine seq_of (fun ρ' => ∃ (g' : Nat), ρ' = [.d (fr r), .d (tupI cs), .o fp (.lst (L.map excD)), .d (fr (pot r cs t - pot r cs g')), .d (.int (g' : Int)), .d (.int (0 + (t : Int))), .d (.int cs[t])] ∧ g' ≤ t ∧ ∀ i, i ≤ t → pot r cs g' ≤ pot r cs i) (fun N hN => ?_) (fun ρ' hR => ?_)
      · refine ⟨0, pot r cs t - pot r cs g, ⟨rfl, rfl, tv_sm (tv_zero 0) (by decide), smd t g (by omega) (by omega)⟩, ?_⟩
        refine IfD.byN (fun hb => ⟨rfl, hN _ ⟨t, ?_, Nat.le_refl _, fun i hi => ?_⟩⟩) (fun hb => hN _ ⟨g, rfl, hg, fun i hi => ?_⟩)
        · have : pot r cs t - pot r cs t = 0 := by grind
          rw [this, ← h0, Int.zero_add]
          rfl
        · rcases Nat.lt_or_ge i t with q | q
          · have := hmin i q
            grind
          · have : i = t := by omega
            rw [this]
            grind
        · rcases Nat.lt_or_ge i t with q | q
          · exact hmin i q
          · have : i = t := by omega
            rw [this]
            grind
      · obtain ⟨g', rfl, hg', hmin'⟩ := hR
        have hct := hc.2 cs[t] (List.getElem_mem hlt)
        have s1 : tv 1000 ((cs[t] : Int) : Rat) := tv_int (by omega)
        refine ⟨(cs[t] : Rat), r, ⟨rfl, rfl, tv_sm s1 (by decide), tv_sm hr (by decide)⟩, _, _, ⟨rfl, rfl, smd t g' (by omega) (by omega), tv_sm (tv_sub s1 hr) (by decide)⟩, ?_⟩
        have e : pot r cs t - pot r cs g' + ((cs[t] : Rat) - r) = pot r cs (t + 1) - pot r cs g' := by
          rw [pot_succ hlt]
          grind
        rw [e]
        refine ⟨by show 2 ≤ sizeLine; decide, by rw [List.length_map]; exact small1000 (by omega), hN2 _ ⟨t + 1, L ++ [(pot r cs (t + 1) - pot r cs g', g')], g', .d (.int (0 + (t : Int))), .d (.int cs[t]), ?_, hr2, hlt, ?_, by omega, fun i hi => hmin' i (by omega), fun u p hp => ?_⟩⟩
        · rw [List.map_append]
          rfl
        · rw [List.length_append, List.length_singleton, hl]
        · rcases Nat.lt_or_ge u L.length with q | q
          · rw [List.getElem?_append_left q] at hp
            exact hL u p hp
          · rw [List.getElem?_append_right q] at hp
            have hu : u = t := by
              have := (List.getElem?_eq_some_iff.mp hp).1
              simp at this
              omega
            subst hu
            rw [hl, Nat.sub_self] at hp
            cases hp
            exact ⟨rfl, hg', hmin'⟩
    · obtain ⟨t, L, g, s5, s6, rfl, hrest, ht, hl, hg, hmin, hL⟩ := hI
      have : t = cs.length := by
        rcases Nat.lt_or_ge t cs.length with q | q
        · rw [List.drop_eq_getElem_cons (by rw [List.length_zip, List.length_range]; omega)] at hrest
          cases hrest
        · omega
      exact hN _ ⟨L, _, _, _, _, rfl, hl.trans this, hL⟩
    · have : pot r cs 0 - pot r cs 0 = 0 := by grind
      rw [this]
      rfl
  · obtain ⟨L, s3, s4, s5, s6, rfl, hL⟩ := hR
    exact h L hL
/-! ### arrivals -/
/-- a bound that may be put to the test: its rate, its burst -/
def BdG (p : Rat × Rat) : Prop := (0 ≤ p.1 ∧ tv 100 p.1) ∧ tv 1000000 p.2 ∧ 0 ≤ p.2
theorem BdOk.g {p : Rat × Rat} (h : BdOk p) : BdG p := ⟨⟨h.1.1, tv_mono h.1.2 (by decide)⟩, tv_mono h.2.1 (by decide), by
  rcases h.2.2 with q | q
  · grind
  · rw [q.2]; grind⟩
def ArOk (m : Nat) (A : List (List Int)) : Prop := A.length ≤ 200 ∧ ∀ r ∈ A, r.length = m ∧ ∀ x ∈ r, 0 ≤ x ∧ x ≤ 1000
def col (A : List (List Int)) (k : Nat) : List Int := A.map fun r => r.getD k 0
theorem col_len (A : List (List Int)) (k : Nat) : (col A k).length = A.length := List.length_map ..
theorem col_ok {m : Nat} {A : List (List Int)} (h : ArOk m A) (k : Nat) : CsOk (col A k) := by
  refine ⟨by rw [col_len]; exact h.1, fun c hc => ?_⟩
  obtain ⟨r, hr, rfl⟩ := List.mem_map.mp hc
  rw [List.getD_eq_getElem?_getD]
  cases q : r[k]? with
  | none => exact ⟨Int.le_refl _, by decide⟩
  | some x => exact (h.2 r hr).2 x (List.mem_of_getElem? q)
theorem row_at {r : List Int} {k : Nat} (h : k < r.length) : (r.map PyData.int)[k]? = some (.int (r.getD k 0)) := by
  rw [List.getElem?_map, List.getElem?_eq_getElem h, List.getD_eq_getElem?_getD, List.getElem?_eq_getElem h]
  rfl
def T_arrivals_comes_of : DTP := fun xs Q => match xs with
  | [a, .int k] => ∃ (m j : Nat) (A : List (List Int)), (a = rowsD A ∧ k = (j : Int) ∧ ArOk m A ∧ j < m) ∧ Q (tupI (col A j))
  | _ => False
theorem ok_comes_of (t : Txt K mg) : Cl P w K mg base 1 "comes_of" 2 T_arrivals_comes_of := by
  have nb := t.nb
  refine cl_of t.d_comes_of sc_comes_of rfl (by intro xs Q h; unfold T_arrivals_comes_of at h; split at h <;> first | rfl | exact h.elim) (fun f cdv A outer s H E hr => (dss_one (ds_ret (de_bty call_tuple_of od_tuple (by rfl) nb.tuple_ (by decide +kernel) (da_cons (de_lc (own := [("comes", 2)]) rfl sc_comes_of.nd (di_seq (de_var 0 (pv 0))) (blkOk_by (by kernel_rfl)) (fun _ _ _ _ _ => (dw_name (i := 2) (pg_name (i := 2) sc_comes_of.nd rfl (by first | exact .inl rfl | exact .inr rfl)) (by decide))) (fun _ _ _ _ _ => dts_nil) (fun _ _ _ _ _ => (de_ix (de_var 2 (pv 2)) (de_var 1 (pv 1))))) da_nil))))) (fun xs Q h => ?_)
  unfold T_arrivals_comes_of at h
  split at h
  rotate_left
  · exact h.elim
  rename_i x y
  obtain ⟨m, j, A, ⟨rfl, rfl, hA, hj⟩, h⟩ := h
  refine ⟨by rw [List.length_map]; exact Nat.le_of_lt (small1000 (by have := hA.1; omega)), comp_map (f := fun r => .int (r.getD j 0)) rfl (fun r hr kk hk => .t rfl ((itemAt_nat (row_at (by rw [(hA.2 r hr).1]; exact hj)) _).mpr hk)) ?_⟩
  have e : tupI (col A j) = .tuple (A.map fun r => .int (r.getD j 0)) := by
    unfold tupI col
    rw [List.map_map]
    rfl
  rw [e] at h
  exact h
/-- the latest begin of too much that ends at e -/
def Lat (r b : Rat) (cs : List Int) (e i : Nat) : Prop := i < e ∧ b < pot r cs e - pot r cs i ∧ ∀ j, i < j → j ≤ e → ¬ b < pot r cs e - pot r cs j
def T_arrivals_latest_begin : DTP := fun xs Q => match xs with
  | [a, c, .int e] => ∃ (p : Rat × Rat) (cs : List Int) (n : Nat), (a = bdD p ∧ c = tupI cs ∧ e = (n : Int) ∧ BdG p ∧ CsOk cs ∧ n ≤ cs.length ∧ ∃ i, i < n ∧ p.2 < pot p.1 cs n - pot p.1 cs i) ∧ ∀ i : Nat, Lat p.1 p.2 cs n i → Q (.int (i : Int))
  | _ => False
theorem bd_pos {p : Rat × Rat} (h : BdG p) : 0 ≤ p.2 := h.2.2
theorem ok_latest_begin (t : Txt K mg) : Cl P w K mg base 5 "latest_begin" 3 T_arrivals_latest_begin := by
  have nb := t.nb
  have c_added := ok_added (P := P) (w := w) (base := base) t
  have c_is_less := ok_is_less (P := P) (w := w) (base := base) t
  have c_less := ok_less (P := P) (w := w) (base := base) t
  have c_whole := ok_whole (P := P) (w := w) (base := base) t
  have c_ZERO := t.c_ZERO
  refine cl_of t.d_latest_begin sc_latest_begin rfl (by intro xs Q h; unfold T_arrivals_latest_begin at h; split at h <;> first | rfl | exact h.elim) (fun f cdv A outer s H E hr => (dss_cons (ds_asg (de_var 0 (pv 0)) (dg_tup (n := 2) rfl (dgs_cons (dg_name (i := 3) (pg_name (i := 3) sc_latest_begin.nd rfl (by first | exact .inl rfl | exact .inr rfl))) (dgs_cons (dg_name (i := 4) (pg_name (i := 4) sc_latest_begin.nd rfl (by first | exact .inl rfl | exact .inr rfl))) dgs_nil))))
 (dss_cons (ds_par (i := 5) (j := 6) rfl sc_latest_begin.nd rfl rfl (by decide) rfl rfl (dm_dat (de_var 2 (pv 2)) (dm_dat (de_kc c_ZERO (by rfl)) dm_nil)) (by rfl))
 (dss_cons (ds_while PassesOwn.never (db_not (db_val (de_callC c_is_less hr (by decide) (by rfl) (da_cons (de_var 4 (pv 4)) (da_cons (de_var 6 (pv 6)) da_nil)))))
 (dss_cons (ds_aug (i := 5) sc_latest_begin.nd rfl (by first | exact .inl rfl | exact .inr rfl) de_int ip_sub od_ipI)
 (dss_one (ds_set (i := 6) sc_latest_begin.nd rfl (by first | exact .inl rfl | exact .inr rfl) (de_callC c_added hr (by decide) (by rfl) (da_cons (de_var 6 (pv 6)) (da_cons (de_callC c_less hr (by decide) (by rfl) (da_cons (de_callC c_whole hr (by decide) (by rfl) (da_cons (de_ix (de_var 1 (pv 1)) (de_var 5 (pv 5))) da_nil)) (da_cons (de_var 3 (pv 3)) da_nil))) da_nil)))))))
 (dss_one (ds_ret (de_var 5 (pv 5)))))))) (fun xs Q h => ?_)
  unfold T_arrivals_latest_begin at h
  split at h
  rotate_left
  · exact h.elim
  rename_i x y z
  obtain ⟨p, cs, n, ⟨rfl, rfl, rfl, hp, hc, hn, i0, hi0, hbr⟩, h⟩ := h
  have hn2 := hc.1
  have smd : ∀ u v : Nat, u ≤ 200 → v ≤ 200 → sm (pot p.1 cs u - pot p.1 cs v) := fun u v hu hv => tv_sm (tv_sub (pot_tw hp.1.2 hc hu) (pot_tw hp.1.2 hc hv)) (by unfold PT; decide)
  refine ⟨rfl, rfl, ?_⟩
  dsimp only [DL.putAll, DL.dgName, DL.dgCons, DL.dgNil, DL.dgTup, DL.asTup, List.map_cons, List.map_nil, List.cons_append, List.nil_append, List.replicate_succ, List.replicate_zero, List.length_cons, List.length_nil, Nat.reduceAdd, Nat.reduceSub, List.set_cons_zero, List.set_cons_succ]
  refine while_of (fun m ρ => ∃ j : Nat, ρ = [.d (bdD p), .d (tupI cs), .d (.int (n : Int)), .d (fr p.1), .d (fr p.2), .d (.int (j : Int)), .d (fr (pot p.1 cs n - pot p.1 cs j))] ∧ m = j ∧ i0 ≤ j ∧ j ≤ n ∧ ∀ i, j < i → i ≤ n → ¬ p.2 < pot p.1 cs n - pot p.1 cs i) (fun m ρ N hN hI => ?_) (m := n) ⟨n, ?_, rfl, by omega, Nat.le_refl _, fun i h1 h2 => by omega⟩
  · obtain ⟨j, rfl, rfl, h1, h2, h3⟩ := hI
    refine ⟨_, _, ⟨rfl, rfl, tv_sm hp.2.1 (by decide), smd n m (by omega) (by omega)⟩, ?_⟩
    refine IfD.byN (fun hb => ?_) (fun hb => ?_)
    · have hj : i0 < m := by
        rcases Nat.lt_or_ge i0 m with q | q
        · exact q
        · have : m = i0 := by omega
          rw [this] at hb
          exact absurd hbr hb
      have ej : (m : Int) - 1 = ((m - 1 : Nat) : Int) := by omega
      have hlt : m - 1 < cs.length := by omega
      have hct := hc.2 cs[m - 1] (List.getElem_mem hlt)
      have s1 : tv 1000 ((cs[m - 1] : Int) : Rat) := tv_int (by omega)
      have e : pot p.1 cs n - pot p.1 cs m + ((cs[m - 1] : Rat) - p.1) = pot p.1 cs n - pot p.1 cs (m - 1) := by
        have := pot_succ (r := p.1) hlt
        have em : m - 1 + 1 = m := by omega
        rw [em] at this
        rw [this]
        grind
      dsimp only [DL.putAll, DL.dgName, DL.dgCons, DL.dgNil, DL.dgTup, DL.asTup, List.map_cons, List.map_nil, List.cons_append, List.nil_append, List.replicate_succ, List.replicate_zero, List.length_cons, List.length_nil, Nat.reduceAdd, Nat.reduceSub, List.set_cons_zero, List.set_cons_succ]
      refine (itemAt_int ej (x := .int cs[m - 1]) (by rw [List.getElem?_map, List.getElem?_eq_getElem hlt]; rfl) _).mpr ⟨(cs[m - 1] : Rat), p.1, ⟨rfl, rfl, tv_sm s1 (by decide), tv_sm hp.1.2 (by decide)⟩, _, _, ⟨rfl, rfl, smd n m (by omega) (by omega), tv_sm (tv_sub s1 hp.1.2) (by decide)⟩, ?_⟩
      refine hN (m - 1) _ (by omega) ⟨m - 1, ?_, rfl, by omega, by omega, fun i g1 g2 => ?_⟩
      · rw [← e, ← ej]
        rfl
      · rcases Nat.lt_or_ge m i with q | q
        · exact h3 i q g2
        · have : i = m := by omega
          rw [this]
          exact hb
    · have hjn : m < n := by
        rcases Nat.lt_or_ge m n with q | q
        · exact q
        · have : m = n := by omega
          rw [this] at hb
          have := bd_pos hp
          grind
      exact h m ⟨hjn, hb, h3⟩
  · have : pot p.1 cs n - pot p.1 cs n = 0 := by grind
    rw [this]
    rfl
/-! ### the first breach -/
def brk (B : List (Rat × Rat)) (A : List (List Int)) (k i e : Nat) : Prop := ∃ p, B[k]? = some p ∧ i < e ∧ e ≤ A.length ∧ p.2 < pot p.1 (col A k) e - pot p.1 (col A k) i
/-- the earliest end, the first stream, the latest begin; or none at all -/
def FB (B : List (Rat × Rat)) (A : List (List Int)) : Option (Nat × Nat × Nat) → Prop
  | none => ∀ k i e, ¬ brk B A k i e
  | some (k, i, e) => brk B A k i e ∧ (∀ k' i' e', e' < e → ¬ brk B A k' i' e') ∧ (∀ k' i', k' < k → ¬ brk B A k' i' e) ∧ ∀ i', i < i' → ¬ brk B A k i' e
theorem FB_unique {B : List (Rat × Rat)} {A : List (List Int)} {o o' : Option (Nat × Nat × Nat)} (h : FB B A o) (h' : FB B A o') : o = o' := by
  match o, o' with
  | none, none => rfl
  | none, some (k, i, e) => exact absurd h'.1 (h k i e)
  | some (k, i, e), none => exact absurd h.1 (h' k i e)
  | some (k, i, e), some (k', i', e') =>
    obtain ⟨a1, a2, a3, a4⟩ := h
    obtain ⟨b1, b2, b3, b4⟩ := h'
    have he : e = e' := by
      rcases Nat.lt_trichotomy e e' with q | q | q
      · exact absurd a1 (b2 _ _ _ q)
      · exact q
      · exact absurd b1 (a2 _ _ _ q)
    subst he
    have hk : k = k' := by
      rcases Nat.lt_trichotomy k k' with q | q | q
      · exact absurd a1 (b3 _ _ q)
      · exact q
      · exact absurd b1 (a3 _ _ q)
    subst hk
    have hi : i = i' := by
      rcases Nat.lt_trichotomy i i' with q | q | q
      · exact absurd b1 (a4 _ q)
      · exact q
      · exact absurd a1 (b4 _ q)
    subst hi
    rfl
def brD : Option (Nat × Nat × Nat) → PyData
  | none => .none
  | some (k, i, e) => .tuple [.int (k : Int), .int (i : Int), .int (e : Int)]
/-- the first end of too much of stream k, if there is one -/
def End (B : List (Rat × Rat)) (A : List (List Int)) (k e : Nat) : Prop := (∃ i, brk B A k i e) ∧ ∀ i e', e' < e → ¬ brk B A k i e'
theorem end_of_brk {B : List (Rat × Rat)} {A : List (List Int)} {k : Nat} : ∀ {e i : Nat}, brk B A k i e → ∃ e', e' ≤ e ∧ End B A k e' := by
  intro e
  induction e using Nat.strongRecOn with
  | _ e ih =>
    intro i h
    by_cases q : ∃ i' e', e' < e ∧ brk B A k i' e'
    · obtain ⟨i', e', h1, h2⟩ := q
      obtain ⟨e2, h3, h4⟩ := ih e' h1 h2
      exact ⟨e2, by omega, h4⟩
    · exact ⟨e, Nat.le_refl _, ⟨i, h⟩, fun i' e' h1 h2 => q ⟨i', e', h1, h2⟩⟩
theorem num_map {α : Type} (f : α → PyData) (L : List α) : numD (L.map f) = ((List.range' 0 L.length).zip L).map fun (p : Nat × α) => .tuple [.int (0 + (p.1 : Int)), f p.2] := by
  unfold numD rangeD
  rw [List.length_map, pairD_map, List.range_eq_range']
/-- the turns above b, in order -/
def above (b : Rat) (s : Nat) (L : List (Rat × Nat)) : List Int := ((List.range' s L.length).zip L).filterMap fun (p : Nat × Rat × Nat) => if b < p.2.1 then some (0 + (p.1 : Int)) else none
theorem above_nil {b : Rat} : ∀ {L : List (Rat × Nat)} {s : Nat}, above b s L = [] → ∀ (u : Nat) (p : Rat × Nat), L[u]? = some p → ¬ b < p.1
  | [], _, _, u, p, hp => by simp at hp
  | a :: L, s, h, u, p, hp => by
    unfold above at h
    rw [List.length_cons, List.range'_succ, List.zip_cons_cons, List.filterMap_cons] at h
    by_cases q : b < a.1
    · simp [q] at h
    · simp [q] at h
      cases u with
      | zero =>
        have : a = p := by simpa using hp
        rw [← this]; exact q
      | succ u => exact above_nil (L := L) (s := s + 1) (by unfold above; simpa using h) u p (by simpa using hp)
theorem above_cons {b : Rat} {z : Int} {r : List Int} : ∀ {L : List (Rat × Nat)} {s : Nat}, above b s L = z :: r → ∃ (u : Nat) (p : Rat × Nat), z = ((s + u : Nat) : Int) ∧ L[u]? = some p ∧ b < p.1 ∧ ∀ (v : Nat) (p' : Rat × Nat), v < u → L[v]? = some p' → ¬ b < p'.1
  | [], _, h => by simp [above] at h
  | a :: L, s, h => by
    unfold above at h
    rw [List.length_cons, List.range'_succ, List.zip_cons_cons, List.filterMap_cons] at h
    by_cases q : b < a.1
    · simp only [q, if_true] at h
      injection h with h1 h2
      exact ⟨0, a, by rw [← h1]; simp, rfl, q, fun v p' hv => absurd hv (Nat.not_lt_zero v)⟩
    · simp only [q, if_false] at h
      obtain ⟨u, p, h1, h2, h3, h4⟩ := above_cons (L := L) (s := s + 1) (b := b) (z := z) (r := r) (by unfold above; exact h)
      refine ⟨u + 1, p, by rw [h1]; congr 1; omega, by simpa using h2, h3, fun v p' hv hp' => ?_⟩
      cases v with
      | zero =>
        have : a = p' := by simpa using hp'
        rw [← this]; exact q
      | succ v => exact h4 v p' (by omega) (by simpa using hp')
theorem shaped_ints (is : List Int) : SeqAt.shaped (.list (is.map .int)) = true := by
  have h1 : ∀ is : List Int, PyData.canLayAll0 (is.map .int) = true := by
    intro is
    induction is with
    | nil => rfl
    | cons a l ih => rw [List.map_cons, PyData.canLayAll0, ih]; rfl
  have h2 : (PyData.list (is.map .int)).depth ≤ 64 := Nat.le_trans (PySem.W.Datum.depth_le (α := List Int) is) (by decide)
  unfold SeqAt.shaped
  rw [PyData.canLay0, h1, decide_eq_true h2]
  rfl
theorem eqv_ints (is js : List Int) : PyData.eqv (.list (is.map .int)) (.list (js.map .int)) = decide (is = js) := PySem.W.Datum.eqv (α := List Int) is js
def endD (p : Nat × Nat) : PyData := .tuple [.int (p.1 : Int), .int (p.2 : Int)]
def endZ (p : Nat × Nat) : Int × Int := ((p.1 : Int), (p.2 : Int))
theorem endD_toD (L : List (Nat × Nat)) : L.map endD = (L.map endZ).map PySem.W.Datum.toD := by
  rw [List.map_map]
  rfl
theorem shaped_ends (L : List (Nat × Nat)) : SeqAt.shaped (.list (L.map endD)) = true := by
  have h1 : ∀ L : List (Nat × Nat), PyData.canLayAll0 (L.map endD) = true := by
    intro L
    induction L with
    | nil => rfl
    | cons a l ih => rw [List.map_cons, PyData.canLayAll0, ih]; rfl
  have h2 : (PyData.list (L.map endD)).depth ≤ 64 := by
    rw [endD_toD]
    exact Nat.le_trans (PySem.W.Datum.depth_le (α := List (Int × Int)) (L.map endZ)) (by decide)
  unfold SeqAt.shaped
  rw [PyData.canLay0, h1, decide_eq_true h2]
  rfl
theorem eqv_ends (L : List (Nat × Nat)) : PyData.eqv (.list (L.map endD)) (.list []) = decide (L = []) := by
  rw [endD_toD]
  refine (PySem.W.Datum.eqv (α := List (Int × Int)) (L.map endZ) []).trans (decide_eq_decide.mpr ?_)
  exact List.map_eq_nil_iff
theorem brk_of {B : List (Rat × Rat)} {A : List (List Int)} {t : Nat} {p : Rat × Rat} (hp : B[t]? = some p) {L : List (Rat × Nat)} (hE : ExcOk p.1 (col A t) L) {u : Nat} {x : Rat × Nat} (hx : L[u]? = some x) (hb : p.2 < x.1) : brk B A t x.2 (u + 1) := by
  obtain ⟨e1, e2, _⟩ := hE.2 u x hx
  have := (List.getElem?_eq_some_iff.mp hx).1
  have hl := hE.1
  rw [col_len] at hl
  exact ⟨p, hp, by omega, by omega, by rw [← e1]; exact hb⟩
theorem brk_to {B : List (Rat × Rat)} {A : List (List Int)} {t : Nat} {p : Rat × Rat} (hp : B[t]? = some p) {L : List (Rat × Nat)} (hE : ExcOk p.1 (col A t) L) {i e : Nat} (h : brk B A t i e) : ∃ (u : Nat) (x : Rat × Nat), e = u + 1 ∧ L[u]? = some x ∧ p.2 < x.1 := by
  obtain ⟨p', hp', h1, h2, h3⟩ := h
  rw [hp] at hp'
  cases hp'
  have hl := hE.1
  rw [col_len] at hl
  have hlt : e - 1 < L.length := by omega
  obtain ⟨e1, e2, e3⟩ := hE.2 (e - 1) L[e - 1] (List.getElem?_eq_getElem hlt)
  have e4 := e3 i (by omega)
  have ee : e - 1 + 1 = e := by omega
  rw [ee] at e1
  exact ⟨e - 1, L[e - 1], by omega, List.getElem?_eq_getElem hlt, by rw [e1]; grind⟩
/-- the least of a row of pairs -/
theorem min_mem : ∀ (xs : List (Int × Int)) (x : Int × Int), PySem.W.minOf x xs ∈ x :: xs
  | [], x => List.mem_cons_self ..
  | y :: ys, x => by
    show PySem.W.minOf (if PySem.W.DatumOrd.lt y x = true then y else x) ys ∈ _
    have := min_mem ys (if PySem.W.DatumOrd.lt y x = true then y else x)
    rcases List.mem_cons.mp this with e | e
    · rw [e]
      by_cases q : PySem.W.DatumOrd.lt y x = true
      · rw [if_pos q]; exact List.mem_cons_of_mem _ (List.mem_cons_self ..)
      · rw [if_neg q]; exact List.mem_cons_self ..
    · exact List.mem_cons_of_mem _ (List.mem_cons_of_mem _ e)
/-- not above, in Python's order of pairs -/
def leP (p q : Int × Int) : Prop := p.1 < q.1 ∨ (p.1 = q.1 ∧ p.2 ≤ q.2)
theorem lt_pair (p q : Int × Int) : PySem.W.DatumOrd.lt p q = true ↔ p.1 < q.1 ∨ (p.1 = q.1 ∧ p.2 < q.2) := by
  show (if p.1 = q.1 then PySem.W.DatumOrd.lt p.2 q.2 else PySem.W.DatumOrd.lt p.1 q.1) = true ↔ _
  have hi : ∀ a b : Int, PySem.W.DatumOrd.lt a b = decide (a < b) := fun _ _ => rfl
  by_cases h : p.1 = q.1
  · rw [if_pos h, hi, decide_eq_true_iff]
    omega
  · rw [if_neg h, hi, decide_eq_true_iff]
    omega
theorem min_le : ∀ (xs : List (Int × Int)) (x y : Int × Int), y ∈ x :: xs → leP (PySem.W.minOf x xs) y
  | [], x, y, h => by
    rw [List.mem_singleton.mp h]
    exact .inr ⟨rfl, Int.le_refl _⟩
  | z :: zs, x, y, h => by
    show leP (PySem.W.minOf (if PySem.W.DatumOrd.lt z x = true then z else x) zs) y
    have hm := min_le zs (if PySem.W.DatumOrd.lt z x = true then z else x)
    have h0 := hm _ (List.mem_cons_self ..)
    by_cases q : PySem.W.DatumOrd.lt z x = true
    · rw [if_pos q] at hm h0 ⊢
      have q' := (lt_pair z x).mp q
      rcases List.mem_cons.mp h with e | e
      · rw [e]
        unfold leP at h0 ⊢
        omega
      · exact hm y e
    · rw [if_neg q] at hm h0 ⊢
      have q' : ¬ (z.1 < x.1 ∨ (z.1 = x.1 ∧ z.2 < x.2)) := fun h => q ((lt_pair z x).mpr h)
      rcases List.mem_cons.mp h with e | e
      · rw [e]; exact h0
      · rcases List.mem_cons.mp e with e | e
        · rw [e]
          unfold leP at h0 ⊢
          omega
        · exact hm y (List.mem_cons_of_mem _ e)
def T_arrivals_first_breach : DTP := fun xs Q => match xs with
  | [a, c] => ∃ (m : Nat) (B : List (Rat × Rat)) (A : List (List Int)), (a = bdsD B ∧ c = rowsD A ∧ B.length = m ∧ m ≤ 8 ∧ (∀ p ∈ B, BdG p) ∧ ArOk m A) ∧ ∀ o, FB B A o → Q (brD o)
  | _ => False
theorem ok_first_breach (t : Txt K mg) : Cl P w K mg base 6 "first_breach" 2 T_arrivals_first_breach := by
  have nb := t.nb
  have c_comes_of := ok_comes_of (P := P) (w := w) (base := base) t
  have c_excesses := ok_excesses (P := P) (w := w) (base := base) t
  have c_is_less := ok_is_less (P := P) (w := w) (base := base) t
  have c_latest_begin := ok_latest_begin (P := P) (w := w) (base := base) t
  refine cl_of t.d_first_breach sc_first_breach rfl (by intro xs Q h; unfold T_arrivals_first_breach at h; split at h <;> first | rfl | exact h.elim) (fun f cdv A outer s H E hr => (dss_cons (ds_setN (i := 2) sc_first_breach.nd rfl (by first | exact .inl rfl | exact .inr rfl) (dn_lst da_nil))
 (dss_cons (ds_for PassesOwn.never rfl (di_enum (by rfl) nb.enumerate_ (da_cons (de_var 0 (pv 0)) da_nil)) (dg_tup (n := 2) rfl (dgs_cons (dg_name (i := 3) (pg_name (i := 3) sc_first_breach.nd rfl (by first | exact .inl rfl | exact .inr rfl))) (dgs_cons (dg_tup (n := 2) rfl (dgs_cons (dg_name (i := 4) (pg_name (i := 4) sc_first_breach.nd rfl (by first | exact .inl rfl | exact .inr rfl))) (dgs_cons (dg_name (i := 5) (pg_name (i := 5) sc_first_breach.nd rfl (by first | exact .inl rfl | exact .inr rfl))) dgs_nil))) dgs_nil)))
 (dss_cons (ds_set (i := 6) sc_first_breach.nd rfl (by first | exact .inl rfl | exact .inr rfl) (de_callC c_comes_of hr (by decide) (by rfl) (da_cons (de_var 1 (pv 1)) (da_cons (de_var 3 (pv 3)) da_nil))))
 (dss_cons (ds_setLc (i := 7) (own := [("turn", 9), ("best", 10), ("begin", 11)]) rfl sc_first_breach.nd rfl rfl (sw_true rfl rfl rfl (by decide +kernel)) (di_enum (by rfl) nb.enumerate_ (da_cons (de_callC c_excesses hr (by decide) (by rfl) (da_cons (de_var 4 (pv 4)) (da_cons (de_var 6 (pv 6)) da_nil))) da_nil)) (blkOk_by (by kernel_rfl)) (fun _ _ _ _ _ => (dw_tup (n := 2) rfl (dws_cons (dw_name (i := 9) (pg_name (i := 9) sc_first_breach.nd rfl (by first | exact .inl rfl | exact .inr rfl)) (by decide)) (dws_cons (dw_tup (n := 2) rfl (dws_cons (dw_name (i := 10) (pg_name (i := 10) sc_first_breach.nd rfl (by first | exact .inl rfl | exact .inr rfl)) (by decide)) (dws_cons (dw_name (i := 11) (pg_name (i := 11) sc_first_breach.nd rfl (by first | exact .inl rfl | exact .inr rfl)) (by decide)) dws_nil))) dws_nil)))) (fun _ _ _ _ _ => dts_one (db_val (de_callC c_is_less hr (by decide) (by rfl) (da_cons (de_var 5 (pv 5)) (da_cons (de_var 10 (pv 10)) da_nil))))) (fun _ _ _ _ _ => (de_var 9 (pv 9))))
 (dss_one (ds_if (db_cmp (op_neD hr.units) od_ne (de_var 7 (pv 7)) (de_lst da_nil) (nomark _)) (dss_one (ds_app 2 (pv 2) (de_tup (da_cons (de_addA (de_ix (de_var 7 (pv 7)) de_int) de_int) (da_cons (de_var 3 (pv 3)) da_nil))))) dss_nil)))))
 (dss_cons (ds_if (db_bor (db_cmp (op_eqD hr.units) od_eq (de_var 2 (pv 2)) (de_lst da_nil) (nomark _))) (dss_one (ds_ret de_non)) dss_nil)
 (dss_cons (ds_asg (de_bor (de_blt (cr_minD (α := Int × Int) rfl (best_room hr (by decide))) (od_best (α := Int × Int)) (by rfl) nb.min_ (by decide +kernel) (da_cons (de_var 2 (pv 2)) da_nil))) (dg_tup (n := 2) rfl (dgs_cons (dg_name (i := 8) (pg_name (i := 8) sc_first_breach.nd rfl (by first | exact .inl rfl | exact .inr rfl))) (dgs_cons (dg_name (i := 3) (pg_name (i := 3) sc_first_breach.nd rfl (by first | exact .inl rfl | exact .inr rfl))) dgs_nil))))
 (dss_one (ds_ret (de_tup (da_cons (de_var 3 (pv 3)) (da_cons (de_callC c_latest_begin hr (by decide) (by rfl) (da_cons (de_ix (de_var 0 (pv 0)) (de_var 3 (pv 3))) (da_cons (de_callC c_comes_of hr (by decide) (by rfl) (da_cons (de_var 1 (pv 1)) (da_cons (de_var 3 (pv 3)) da_nil))) (da_cons (de_var 8 (pv 8)) da_nil)))) (da_cons (de_var 8 (pv 8)) da_nil))))))))))) (fun xs Q h => ?_)
  unfold T_arrivals_first_breach at h
  split at h
  rotate_left
  · exact h.elim
  rename_i x y
  obtain ⟨m, B, A, ⟨rfl, rfl, hm, hm8, hB, hA⟩, h⟩ := h
  refine ⟨by decide, fun fp => ?_⟩
  dsimp only [DL.putAll, DL.dgName, DL.dgCons, DL.dgNil, DL.dgTup, DL.asTup, List.map_cons, List.map_nil, List.cons_append, List.nil_append, List.replicate_succ, List.replicate_zero, List.length_cons, List.length_nil, Nat.reduceAdd, Nat.reduceSub, List.set_cons_zero, List.set_cons_succ]
  refine seq_of (fun ρ' => ∃ (L : List (Nat × Nat)) (s3 s4 s5 s6 s7 s8 : Sl), ρ' = [.d (bdsD B), .d (rowsD A), .o fp (.lst (L.map endD)), s3, s4, s5, s6, s7, s8, .un, .un, .un] ∧ (∀ p ∈ L, p.2 < m ∧ End B A p.2 p.1) ∧ ∀ k e, k < m → End B A k e → (e, k) ∈ L) (fun N hN => ?_) (fun ρ' hR => ?_)
  · show forD _ _ _ (numD (B.map bdD)) _
    rw [num_map]
    refine for_of (fun rest ρ => ∃ (t : Nat) (L : List (Nat × Nat)) (s3 s4 s5 s6 s7 s8 : Sl), ρ = [.d (bdsD B), .d (rowsD A), .o fp (.lst (L.map endD)), s3, s4, s5, s6, s7, s8, .un, .un, .un] ∧ rest = ((List.range' 0 B.length).zip B).drop t ∧ t ≤ m ∧ L.length ≤ t ∧ (∀ p ∈ L, p.2 < t ∧ End B A p.2 p.1) ∧ ∀ k e, k < t → End B A k e → (e, k) ∈ L)
      (fun a rest ρ N2 hN2 hI => ?_) (fun ρ hI => ?_) ⟨0, [], .un, .un, .un, .un, .un, .un, rfl, rfl, Nat.zero_le _, Nat.le_refl _, (fun p hp => nomatch hp), fun k e hk => absurd hk (Nat.not_lt_zero k)⟩
    · obtain ⟨t, L, s3, s4, s5, s6, s7, s8, rfl, hrest, ht, hl, hL1, hL2⟩ := hI
      have hlt : t < B.length := by
        rcases Nat.lt_or_ge t B.length with q | q
        · exact q
        · rw [List.drop_eq_nil_of_le (by rw [List.length_zip, List.length_range']; omega)] at hrest
          cases hrest
      have hz : t < ((List.range' 0 B.length).zip B).length := by rw [List.length_zip, List.length_range']; omega
      rw [List.drop_eq_getElem_cons hz, List.getElem_zip, List.getElem_range'] at hrest
      injection hrest with ha hr2
      subst ha
      obtain ⟨p, hp⟩ : ∃ p, p = B[t] := ⟨_, rfl⟩
      rw [← hp]
      have hpB : B[t]? = some p := by rw [hp]; exact List.getElem?_eq_getElem hlt
      have hbp := hB p (List.mem_of_getElem? hpB)
      have e0 : 0 + ((0 + 1 * t : Nat) : Int) = (t : Int) := by omega
      rw [e0]
      refine ⟨rfl, rfl, ?_⟩
      dsimp only [DL.putAll, DL.dgName, DL.dgCons, DL.dgNil, DL.dgTup, DL.asTup, List.map_cons, List.map_nil, List.cons_append, List.nil_append, List.replicate_succ, List.replicate_zero, List.length_cons, List.length_nil, Nat.reduceAdd, Nat.reduceSub, List.set_cons_zero, List.set_cons_succ]
      refine ⟨m, t, A, ⟨rfl, rfl, hA, by omega⟩, ?_⟩
      dsimp only [DL.putAll, DL.dgName, DL.dgCons, DL.dgNil, DL.dgTup, DL.asTup, List.map_cons, List.map_nil, List.cons_append, List.nil_append, List.replicate_succ, List.replicate_zero, List.length_cons, List.length_nil, Nat.reduceAdd, Nat.reduceSub, List.set_cons_zero, List.set_cons_succ]
      refine seq_of (fun ρ' => ∃ L2, ρ' = [.d (bdsD B), .d (rowsD A), .o fp (.lst (L.map endD)), .d (.int (t : Int)), .d (fr p.1), .d (fr p.2), .d (tupI (col A t)), .d (.list ((above p.2 0 L2).map .int)), s8, .un, .un, .un] ∧ ExcOk p.1 (col A t) L2) (fun N hN => ?_) (fun ρ' hR => ?_)
      · refine ⟨p.1, col A t, ⟨rfl, rfl, hbp.1.2, col_ok hA t⟩, fun L2 hL2 => ?_⟩
        refine ⟨by rw [num_map, List.length_map, List.length_zip, List.length_range', Nat.min_self]; exact Nat.le_of_lt <| small1000 (by have := hL2.1; rw [col_len] at this; have := hA.1; omega), ?_⟩
        rw [num_map]
        refine comp_fm (g := fun p2 => if p.2 < p2.2.1 then some (.int (0 + (p2.1 : Int))) else none) rfl (fun a ha kk hk => ?_) ?_
        · obtain ⟨u, hu, rfl⟩ := List.mem_iff_getElem.mp ha
          have hu2 : u < L2.length := by rw [List.length_zip, List.length_range'] at hu; omega
          rw [List.getElem_zip, List.getElem_range'] at hk ⊢
          have hx := hL2.2 u L2[u] (List.getElem?_eq_getElem hu2)
          have hlen : L2.length ≤ 200 := by have := hL2.1; rw [col_len] at this; have := hA.1; omega
          have hsm : sm L2[u].1 := by
            rw [hx.1]
            exact tv_sm (tv_sub (pot_tw hbp.1.2 (col_ok hA t) (by omega)) (pot_tw hbp.1.2 (col_ok hA t) (by have := hx.2.1; omega))) (by unfold PT; decide)
          refine ⟨rfl, rfl, p.2, L2[u].1, ⟨rfl, rfl, tv_sm hbp.2.1 (by decide), hsm⟩, ?_⟩
          refine IfD.by (fun hb => ?_) (fun hb => ?_)
          · rw [if_pos hb] at hk
            exact hk
          · rw [if_neg hb] at hk
            exact hk
        · have e : ((List.range' 0 L2.length).zip L2).filterMap (fun (p2 : Nat × Rat × Nat) => if p.2 < p2.2.1 then some (PyData.int (0 + (p2.1 : Int))) else none) = (above p.2 0 L2).map .int := by
            unfold above
            rw [List.map_filterMap]
            congr 1
            funext p2
            split <;> rfl
          rw [e]
          exact hN _ ⟨L2, rfl, hL2⟩
      · obtain ⟨L2, rfl, hE⟩ := hR
        refine ⟨Nat.zero_le _, ⟨shaped_ints _, shaped_ints []⟩, ?_⟩
        cases q : above p.2 0 L2 with
        | nil =>
          refine .f rfl (hN2 _ ⟨t + 1, L, _, _, _, _, _, _, rfl, hr2, by omega, by omega, fun p' hp' => ⟨Nat.lt_succ_of_lt (hL1 p' hp').1, (hL1 p' hp').2⟩, fun k e hk he => ?_⟩)
          rcases Nat.lt_or_ge k t with g | g
          · exact hL2 k e g he
          · have : k = t := by omega
            subst this
            obtain ⟨⟨i, hi⟩, _⟩ := he
            obtain ⟨u, x, _, h2, h3⟩ := brk_to hpB hE hi
            exact absurd h3 (above_nil q u x h2)
        | cons z r =>
          refine .t (by
            have := eqv_ints (z :: r) []
            exact congrArg (! ·) this) ?_
          obtain ⟨u, x, hz1, hx, hb, hfirst⟩ := above_cons q
          have hend : End B A t (u + 1) := ⟨⟨x.2, brk_of hpB hE hx hb⟩, fun i e' he' hbr => by
            obtain ⟨v, y, h1, h2, h3⟩ := brk_to hpB hE hbr
            exact hfirst v y (by omega) h2 h3⟩
          refine (itemAt_int (j := 0) rfl (x := .int z) rfl _).mpr ⟨by show 2 ≤ sizeLine; decide, by rw [List.length_map]; exact small1000 (by omega), hN2 _ ⟨t + 1, L ++ [(u + 1, t)], .d (.int (t : Int)), .d (fr p.1), .d (fr p.2), .d (tupI (col A t)), .d (.list ((z :: r).map .int)), s8, ?_, hr2, by omega, by rw [List.length_append, List.length_singleton]; omega, fun p' hp' => ?_, fun k e hk he => ?_⟩⟩
          · rw [List.map_append, hz1]
            show _ = [_, _, Sl.o fp (.lst (L.map endD ++ [.tuple [.int (((u + 1 : Nat) : Int)), .int (t : Int)]])), _, _, _, _, _, _, _, _, _]
            have e5 : (((0 + u : Nat) : Int) + 1) = ((u + 1 : Nat) : Int) := by omega
            rw [← e5]
            rfl
          · rcases List.mem_append.mp hp' with g | g
            · exact ⟨Nat.lt_succ_of_lt (hL1 p' g).1, (hL1 p' g).2⟩
            · rw [List.mem_singleton.mp g]
              exact ⟨Nat.lt_succ_self t, hend⟩
          · rcases Nat.lt_or_ge k t with g | g
            · exact List.mem_append_left _ (hL2 k e g he)
            · have : k = t := by omega
              subst this
              refine List.mem_append_right _ ?_
              have : e = u + 1 := by
                obtain ⟨⟨i, hi⟩, hm1⟩ := he
                obtain ⟨⟨i2, hi2⟩, hm2⟩ := hend
                rcases Nat.lt_trichotomy e (u + 1) with g1 | g1 | g1
                · exact absurd hi (hm2 _ _ g1)
                · exact g1
                · exact absurd hi2 (hm1 _ _ g1)
              rw [this]
              exact List.mem_singleton.mpr rfl
    · obtain ⟨t, L, s3, s4, s5, s6, s7, s8, rfl, hrest, ht, hl, hL1, hL2⟩ := hI
      have : t = m := by
        rcases Nat.lt_or_ge t m with q | q
        · rw [List.drop_eq_getElem_cons (by rw [List.length_zip, List.length_range']; omega)] at hrest
          cases hrest
        · omega
      subst this
      exact hN _ ⟨L, s3, s4, s5, s6, s7, s8, rfl, hL1, hL2⟩
  · obtain ⟨L, s3, s4, s5, s6, s7, s8, rfl, hL1, hL2⟩ := hR
    refine ⟨Nat.zero_le _, ⟨shaped_ends L, shaped_ends []⟩, ?_⟩
    cases L with
    | nil =>
      refine .t rfl (h none fun k i e hbr => ?_)
      obtain ⟨e', _, he'⟩ := end_of_brk hbr
      have hk : k < m := by
        obtain ⟨p, hp, _⟩ := hbr
        rw [← hm]
        exact (List.getElem?_eq_some_iff.mp hp).1
      exact nomatch hL2 k e' hk he'
    | cons a L' =>
      refine .f (eqv_ends (a :: L')) ?_
      refine ⟨endZ a, L'.map endZ, endD_toD (a :: L'), ?_⟩
      have hmem := min_mem (L'.map endZ) (endZ a)
      rw [← List.map_cons (f := endZ)] at hmem
      obtain ⟨q, hq, hqe⟩ := List.mem_map.mp hmem
      have hleast : ∀ y ∈ a :: L', leP (endZ q) (endZ y) := fun y hy => by
        rw [hqe]
        exact min_le _ _ _ (by rw [← List.map_cons (f := endZ)]; exact List.mem_map_of_mem hy)
      obtain ⟨hqm, hqE⟩ := hL1 q hq
      rw [← hqe]
      have hqB : q.2 < B.length := by omega
      obtain ⟨⟨i0, p, hpB, hi0, heA, hbr⟩, hfirst⟩ := hqE
      have hl2 : (col A q.2).length = A.length := col_len A q.2
      have hcol := col_ok hA q.2
      refine ⟨rfl, rfl, (itemAt_nat (x := bdD p) (by rw [List.getElem?_map, hpB]; rfl) _).mpr ?_⟩
      refine ⟨m, q.2, A, ⟨rfl, rfl, hA, hqm⟩, p, col A q.2, q.1, ⟨rfl, rfl, rfl, hB p (List.mem_of_getElem? hpB), hcol, by omega, i0, hi0, hbr⟩, fun i hi => ?_⟩
      refine ⟨by show 3 ≤ sizeLine; decide, ?_⟩
      refine h (some (q.2, i, q.1)) ⟨⟨p, hpB, hi.1, heA, hi.2.1⟩, fun k' i' e' he' hb' => ?_, fun k' i' hk' hb' => ?_, fun i' hi' hb' => ?_⟩
      · obtain ⟨e2, he2, hE2⟩ := end_of_brk hb'
        have hk2 : k' < m := by
          obtain ⟨_, hp2, _⟩ := hb'
          rw [← hm]
          exact (List.getElem?_eq_some_iff.mp hp2).1
        have := hleast _ (hL2 k' e2 hk2 hE2)
        unfold leP endZ at this
        simp only at this
        omega
      · obtain ⟨e2, he2, hE2⟩ := end_of_brk hb'
        have hk2 : k' < m := by
          obtain ⟨_, hp2, _⟩ := hb'
          rw [← hm]
          exact (List.getElem?_eq_some_iff.mp hp2).1
        have := hleast _ (hL2 k' e2 hk2 hE2)
        unfold leP endZ at this
        simp only at this
        omega
      · obtain ⟨p2, hp2, hi2, _, hb2⟩ := hb'
        rw [hpB] at hp2
        cases hp2
        exact hi.2.2 i' hi' (by omega) hb2
/-! ### who keeps a bound -/
def T_arrivals_keeps : DTP := fun xs Q => match xs with
  | [a, c] => ∃ (m : Nat) (B : List (Rat × Rat)) (A : List (List Int)), (a = bdsD B ∧ c = rowsD A ∧ B.length = m ∧ m ≤ 8 ∧ (∀ p ∈ B, BdG p) ∧ ArOk m A) ∧ ∀ o, FB B A o → Q (.bool (isNone (brD o)))
  | _ => False
theorem ok_keeps (t : Txt K mg) : Cl P w K mg base 7 "keeps" 2 T_arrivals_keeps := by
  have nb := t.nb
  have c_first_breach := ok_first_breach (P := P) (w := w) (base := base) t
  refine cl_of t.d_keeps sc_keeps rfl (by intro xs Q h; unfold T_arrivals_keeps at h; split at h <;> first | rfl | exact h.elim) (fun f cdv A outer s H E hr => (dss_one (ds_ret (de_cmp op_isN od_isN (de_callC c_first_breach hr (by decide) (by rfl) (da_cons (de_var 0 (pv 0)) (da_cons (de_var 1 (pv 1)) da_nil))) de_non (nomark _))))) (fun xs Q h => ?_)
  unfold T_arrivals_keeps at h
  split at h
  rotate_left
  · exact h.elim
  rename_i x y
  obtain ⟨m, B, A, hh, h⟩ := h
  exact ⟨m, B, A, hh, fun o ho => h o ho⟩
theorem fr0 : (.tuple [.int 0, .int 1] : PyData) = fr 0 := rfl
theorem fr1 : (.tuple [.int 1, .int 1] : PyData) = fr 1 := rfl
theorem sm0 : sm 0 := tv_sm (tv_zero 0) (by decide)
theorem sm1 : sm 1 := tv_sm tv_one (by decide)
theorem idx_tup {hs : List Int} (h : ∀ x ∈ hs, 0 ≤ x) : tupB isIdxB (tupI hs) = true := by
  show (hs.map PyData.int).all isIdxB = true
  rw [List.all_map, List.all_eq_true]
  intro x hx
  exact decide_eq_true (h x hx)
theorem idx_ok {hs : List Int} (h : hs.length ≤ 1000) : tupP okAny (tupI hs) := ⟨by rw [List.length_map]; exact Nat.le_of_lt (small1000 h), fun _ _ => trivial⟩
theorem eq_intT {a b : Int} (h : a = b) : PyData.eqv (.int a) (.int b) = true := (PySem.W.Datum.eqv a b).trans (decide_eq_true h)
theorem eq_intF {a b : Int} (h : ¬ a = b) : PyData.eqv (.int a) (.int b) = false := (PySem.W.Datum.eqv a b).trans (decide_eq_false h)
theorem ne_intF {a b : Int} (h : a = b) : (!PyData.eqv (.int a) (.int b)) = false := congrArg (! ·) (eq_intT h)
theorem ne_intT {a b : Int} (h : ¬ a = b) : (!PyData.eqv (.int a) (.int b)) = true := congrArg (! ·) (eq_intF h)
theorem len_tupI (hs : List Int) : ((hs.map PyData.int).length : Int) = (hs.length : Int) := by rw [List.length_map]
theorem maxQ_mem : ∀ (r : List Rat) (p : Rat), maxQ p r ∈ p :: r
  | [], p => List.mem_cons_self ..
  | q :: r, p => by
    show maxQ (if p < q then q else p) r ∈ _
    have := maxQ_mem r (if p < q then q else p)
    rcases List.mem_cons.mp this with e | e
    · rw [e]
      by_cases g : p < q
      · rw [if_pos g]; exact List.mem_cons_of_mem _ (List.mem_cons_self ..)
      · rw [if_neg g]; exact List.mem_cons_self ..
    · exact List.mem_cons_of_mem _ (List.mem_cons_of_mem _ e)
theorem maxQ_le : ∀ (r : List Rat) (p q : Rat), q ∈ p :: r → q ≤ maxQ p r
  | [], p, q, h => by
    rw [List.mem_singleton.mp h]
    show p ≤ p
    grind
  | z :: r, p, q, h => by
    show q ≤ maxQ (if p < z then z else p) r
    have hm := maxQ_le r (if p < z then z else p)
    have h0 := hm _ (List.mem_cons_self ..)
    rcases List.mem_cons.mp h with e | e
    · rw [e]
      refine Rat.le_trans ?_ h0
      by_cases g : p < z
      · rw [if_pos g]; grind
      · rw [if_neg g]; grind
    · rcases List.mem_cons.mp e with e | e
      · rw [e]
        refine Rat.le_trans ?_ h0
        by_cases g : p < z
        · rw [if_pos g]; grind
        · rw [if_neg g]; grind
      · exact hm q (List.mem_cons_of_mem _ e)
def T_arrivals_check_rate : DTP := fun xs Q => match xs with
  | [a] => ∃ q : Rat, (a = fr q ∧ 0 ≤ q ∧ sm q) ∧ Q .none
  | _ => False
theorem ok_check_rate (t : Txt K mg) : Cl P w K mg base 4 "check_rate" 1 T_arrivals_check_rate := by
  have nb := t.nb
  have c_is_fraction := ok_is_fraction (P := P) (w := w) (base := base) t
  have c_is_less := ok_is_less (P := P) (w := w) (base := base) t
  have c_ZERO := t.c_ZERO
  refine cl_of t.d_check_rate sc_check_rate rfl (by intro xs Q h; unfold T_arrivals_check_rate at h; split at h <;> first | rfl | exact h.elim) (fun f cdv A outer s H E hr => (dss_one (ds_if (db_w (dw_or (db_not (db_val (de_callC c_is_fraction hr (by decide) (by rfl) (da_cons (de_var 0 (pv 0)) da_nil)))) (dw_or1 (db_val (de_callC c_is_less hr (by decide) (by rfl) (da_cons (de_var 0 (pv 0)) (da_cons (de_kc c_ZERO (by rfl)) da_nil))))))) (dss_one ds_never) dss_nil))) (fun xs Q h => ?_)
  unfold T_arrivals_check_rate at h
  split at h
  rotate_left
  · exact h.elim
  rename_i x
  obtain ⟨q, ⟨rfl, h0, hs⟩, h⟩ := h
  exact ⟨⟨q, rfl⟩, .f rfl ⟨q, 0, ⟨rfl, fr0, hs, sm0⟩, .f (decide_eq_false (by grind)) h⟩⟩
/-- the least burst: the most of too much, at least one -/
def Bst (r : Rat) (cs : List Int) (b : Rat) : Prop := 1 ≤ b ∧ (∀ i e, i < e → e ≤ cs.length → pot r cs e - pot r cs i ≤ b) ∧ (b = 1 ∨ ∃ i e, i < e ∧ e ≤ cs.length ∧ b = pot r cs e - pot r cs i)
def T_arrivals_least_burst : DTP := fun xs Q => match xs with
  | [a, c] => ∃ (r : Rat) (cs : List Int), (a = fr r ∧ c = tupI cs ∧ 0 ≤ r ∧ tv 100 r ∧ CsOk cs) ∧ ∀ b, Bst r cs b → Q (fr b)
  | _ => False
theorem ok_least_burst (t : Txt K mg) : Cl P w K mg base 6 "least_burst" 2 T_arrivals_least_burst := by
  have nb := t.nb
  have c_check_rate := ok_check_rate (P := P) (w := w) (base := base) t
  have c_excesses := ok_excesses (P := P) (w := w) (base := base) t
  have c_greatest := ok_greatest (P := P) (w := w) (base := base) t
  have c_is_indexes := ok_is_indexes (P := P) (w := w) (base := base) t
  have c_MOST_TURNS := t.c_MOST_TURNS
  have c_ONE := t.c_ONE
  refine cl_of t.d_least_burst sc_least_burst rfl (by intro xs Q h; unfold T_arrivals_least_burst at h; split at h <;> first | rfl | exact h.elim) (fun f cdv A outer s H E hr => (dss_cons (ds_expr (de_callC c_check_rate hr (by decide) (by rfl) (da_cons (de_var 0 (pv 0)) da_nil)))
 (dss_cons (ds_if (db_w (dw_or (db_not (db_val (de_callC c_is_indexes hr (by decide) (by rfl) (da_cons (de_var 1 (pv 1)) da_nil)))) (dw_or1 (db_cmp op_gt od_gt (de_blt call_len_seq od_len (by rfl) nb.len_ PySem.boot_len (da_cons (de_var 1 (pv 1)) da_nil)) (de_kc c_MOST_TURNS (by rfl)) (nomark _))))) (dss_one ds_never) dss_nil)
 (dss_one (ds_ret (de_callC c_greatest hr (by decide) (by rfl) (da_cons (de_lst (da_cons (de_kc c_ONE (by rfl)) (da_star (de_lc (own := [("best", 2), ("begin", 3)]) rfl sc_least_burst.nd (di_seq (de_callC c_excesses hr (by decide) (by rfl) (da_cons (de_var 0 (pv 0)) (da_cons (de_var 1 (pv 1)) da_nil)))) (blkOk_by (by kernel_rfl)) (fun _ _ _ _ _ => (dw_tup (n := 2) rfl (dws_cons (dw_name (i := 2) (pg_name (i := 2) sc_least_burst.nd rfl (by first | exact .inl rfl | exact .inr rfl)) (by decide)) (dws_cons (dw_name (i := 3) (pg_name (i := 3) sc_least_burst.nd rfl (by first | exact .inl rfl | exact .inr rfl)) (by decide)) dws_nil)))) (fun _ _ _ _ _ => dts_nil) (fun _ _ _ _ _ => (de_var 2 (pv 2)))) da_nil))) da_nil))))))) (fun xs Q h => ?_)
  unfold T_arrivals_least_burst at h
  split at h
  rotate_left
  · exact h.elim
  rename_i x y
  obtain ⟨r, cs, ⟨rfl, rfl, h0, hr, hc⟩, h⟩ := h
  have hl := hc.1
  have hlen : ((cs.map PyData.int).length : Int) ≤ 200 := by rw [List.length_map]; omega
  refine ⟨r, ⟨rfl, h0, tv_sm hr (by decide)⟩, ⟨idx_ok (by omega), .f (congrArg (! ·) (idx_tup fun x hx => (hc.2 x hx).1)) (.f (decide_eq_false (by omega)) ?_)⟩⟩
  refine ⟨r, cs, ⟨rfl, rfl, hr, hc⟩, fun L hL => ⟨by rw [List.length_map]; exact Nat.le_of_lt (small1000 (by have := hL.1; omega)), comp_map (enc := excD) (f := fun (p : Rat × Nat) => fr p.1) rfl (fun p hp kk hk => ⟨rfl, .t rfl hk⟩) ?_⟩⟩
  have hsm : ∀ x ∈ L, sm x.1 := fun x hx => by
    obtain ⟨u, hu, rfl⟩ := List.mem_iff_getElem.mp hx
    obtain ⟨e1, e2, _⟩ := hL.2 u L[u] (List.getElem?_eq_getElem hu)
    rw [e1]
    have := hL.1
    exact tv_sm (tv_sub (pot_tw hr hc (by omega)) (pot_tw hr hc (by omega))) (by unfold PT; decide)
  have hll := hL.1
  refine ⟨by rw [List.length_cons, List.append_nil, List.length_map]; exact small1000 (by omega), 1, L.map (·.1), ⟨by rw [List.append_nil, List.map_cons, List.map_map]; rfl, fun q hq => ?_⟩, h _ ⟨maxQ_le _ _ _ (List.mem_cons_self ..), fun i e hi he => ?_, ?_⟩⟩
  · rcases List.mem_cons.mp hq with g | g
    · rw [g]; exact sm1
    · obtain ⟨x, hx, rfl⟩ := List.mem_map.mp g
      exact hsm x hx
  · have hu : e - 1 < L.length := by omega
    obtain ⟨e1, e2, e3⟩ := hL.2 (e - 1) L[e - 1] (List.getElem?_eq_getElem hu)
    have ee : e - 1 + 1 = e := by omega
    rw [ee] at e1
    have h1 := maxQ_le (L.map (·.1)) 1 L[e - 1].1 (List.mem_cons_of_mem _ (List.mem_map_of_mem (List.getElem_mem hu)))
    have h2 := e3 i (by omega)
    rw [e1] at h1
    grind
  · rcases List.mem_cons.mp (maxQ_mem (L.map (·.1)) 1) with g | g
    · exact .inl g
    · obtain ⟨x, hx, hxe⟩ := List.mem_map.mp g
      obtain ⟨u, hu, rfl⟩ := List.mem_iff_getElem.mp hx
      obtain ⟨e1, e2, _⟩ := hL.2 u L[u] (List.getElem?_eq_getElem hu)
      exact .inr ⟨_, u + 1, by omega, by omega, hxe.symm.trans e1⟩
/-- the least bound at a stream -/
def LB (A : List (List Int)) (k : Nat) (p : Rat × Rat) : Prop := ∃ b, Bst p.1 (col A k) b ∧ p.2 = if p.1 = 0 ∧ (col A k).sum = 0 then 0 else b
theorem any_false {α : Type} (A : List α) : ((A.map fun _ => false).any id) = false := by
  induction A with
  | nil => rfl
  | cons a l ih => rw [List.map_cons, List.any_cons, ih]; rfl
def T_arrivals_least_bound : DTP := fun xs Q => match xs with
  | [a, c] => ∃ (R : List Rat) (A : List (List Int)), (a = .tuple (R.map fr) ∧ c = rowsD A ∧ R.length ≤ 8 ∧ (∀ r ∈ R, 0 ≤ r ∧ tv 100 r) ∧ ArOk R.length A) ∧ ∀ B : List (Rat × Rat), B.map (·.1) = R → (∀ k p, B[k]? = some p → LB A k p) → Q (bdsD B)
  | _ => False
theorem ok_least_bound (t : Txt K mg) : Cl P w K mg base 7 "least_bound" 2 T_arrivals_least_bound := by
  have nb := t.nb
  have c_comes_of := ok_comes_of (P := P) (w := w) (base := base) t
  have c_least_burst := ok_least_burst (P := P) (w := w) (base := base) t
  have c_ZERO := t.c_ZERO
  refine cl_of t.d_least_bound sc_least_bound rfl (by intro xs Q h; unfold T_arrivals_least_bound at h; split at h <;> first | rfl | exact h.elim) (fun f cdv A outer s H E hr => (dss_cons (ds_if (db_w (dw_or (db_not (db_val (de_isi kits_tuple (by intro x; cases x <;> rfl) (by rfl) nb.isinstance_ (de_var 0 (pv 0)) (pe_bltn (v := .ty "tuple") (by rfl) nb.tuple_ (by decide +kernel) rfl)))) (dw_or1 (db_val (de_blt (cr_any rfl) od_bools (by rfl) nb.any_ (by decide +kernel) (da_cons (de_lc (own := [("comes", 5)]) rfl sc_least_bound.nd (di_seq (de_var 1 (pv 1))) (blkOk_by (by kernel_rfl)) (fun _ _ _ _ _ => (dw_name (i := 5) (pg_name (i := 5) sc_least_bound.nd rfl (by first | exact .inl rfl | exact .inr rfl)) (by decide))) (fun _ _ _ _ _ => dts_nil) (fun _ _ _ _ _ => (de_cmp (op_neD hr.units) od_ne (de_blt call_len_seq od_len (by rfl) nb.len_ PySem.boot_len (da_cons (de_var 5 (pv 5)) da_nil)) (de_blt call_len_seq od_len (by rfl) nb.len_ PySem.boot_len (da_cons (de_var 0 (pv 0)) da_nil)) (nomark _)))) da_nil)))))) (dss_one ds_never) dss_nil)
 (dss_cons (ds_setN (i := 2) sc_least_bound.nd rfl (by first | exact .inl rfl | exact .inr rfl) (dn_lst da_nil))
 (dss_cons (ds_for PassesOwn.never rfl (di_enum (by rfl) nb.enumerate_ (da_cons (de_var 0 (pv 0)) da_nil)) (dg_tup (n := 2) rfl (dgs_cons (dg_name (i := 3) (pg_name (i := 3) sc_least_bound.nd rfl (by first | exact .inl rfl | exact .inr rfl))) (dgs_cons (dg_name (i := 4) (pg_name (i := 4) sc_least_bound.nd rfl (by first | exact .inl rfl | exact .inr rfl))) dgs_nil)))
 (dss_cons (ds_set (i := 5) sc_least_bound.nd rfl (by first | exact .inl rfl | exact .inr rfl) (de_callC c_comes_of hr (by decide) (by rfl) (da_cons (de_var 1 (pv 1)) (da_cons (de_var 3 (pv 3)) da_nil))))
 (dss_cons (ds_set (i := 6) sc_least_bound.nd rfl (by first | exact .inl rfl | exact .inr rfl) (de_callC c_least_burst hr (by decide) (by rfl) (da_cons (de_var 4 (pv 4)) (da_cons (de_var 5 (pv 5)) da_nil))))
 (dss_one (ds_app 2 (pv 2) (de_tup (da_cons (de_var 4 (pv 4)) (da_cons (de_ifExp (db_w (dw_and (db_cmp (op_eqD hr.units) od_eq (de_var 4 (pv 4)) (de_kc c_ZERO (by rfl)) (nomark _)) (dw_and1 (db_cmp (op_eqD hr.units) od_eq (de_blt (cr_sumA rfl) od_sum (by rfl) nb.sum_ (by decide +kernel) (da_cons (de_var 5 (pv 5)) da_nil)) de_int (nomark _))))) (de_kc c_ZERO (by rfl)) (de_var 6 (pv 6))) da_nil))))))))
 (dss_one (ds_ret (de_frz 2 (de_bty call_tuple_of od_tuple (by rfl) nb.tuple_ (by decide +kernel) (da_cons (de_var 2 (pv 2)) da_nil))))))))) (fun xs Q h => ?_)
  unfold T_arrivals_least_bound at h
  split at h
  rotate_left
  · exact h.elim
  rename_i x y
  obtain ⟨R, A, ⟨rfl, rfl, hR8, hR, hA⟩, h⟩ := h
  have hA1 := hA.1
  refine .f rfl ⟨by rw [List.length_map]; exact Nat.le_of_lt (small1000 (by omega)), comp_map (enc := tupI) (f := fun _ => .bool false) rfl (fun r hr kk hk => .t rfl ⟨⟨rfl, rfl⟩, (congrArg (fun b => kk (some (.bool b)) _) (ne_intF (by rw [List.length_map, List.length_map, (hA.2 r hr).1]))).mpr hk⟩) ?_⟩
  dsimp only [DL.dNil]
  refine (oBools_map (fun bs => bs.any id) (fun _ => false) A _).mpr ?_
  refine .f (any_false A) ?_
  refine ⟨by decide, fun fp => ?_⟩
  dsimp only [DL.putAll, DL.dgName, DL.dgCons, DL.dgNil, DL.dgTup, DL.asTup, List.map_cons, List.map_nil, List.cons_append, List.nil_append, List.replicate_succ, List.replicate_zero, List.length_cons, List.length_nil, Nat.reduceAdd, Nat.reduceSub, List.set_cons_zero, List.set_cons_succ]
  refine seq_of (fun ρ' => ∃ (B : List (Rat × Rat)) (s3 s4 s5 s6 : Sl), ρ' = [.d (.tuple (R.map fr)), .d (rowsD A), .o fp (.lst (B.map bdD)), s3, s4, s5, s6] ∧ B.map (·.1) = R ∧ ∀ k p, B[k]? = some p → LB A k p) (fun N hN => ?_) (fun ρ' hR => ?_)
  · show forD _ _ _ (numD (R.map fr)) _
    rw [num_map]
    refine for_of (fun rest ρ => ∃ (t : Nat) (B : List (Rat × Rat)) (s3 s4 s5 s6 : Sl), ρ = [.d (.tuple (R.map fr)), .d (rowsD A), .o fp (.lst (B.map bdD)), s3, s4, s5, s6] ∧ rest = ((List.range' 0 R.length).zip R).drop t ∧ t ≤ R.length ∧ B.length = t ∧ B.map (·.1) = R.take t ∧ ∀ k p, B[k]? = some p → LB A k p)
      (fun a rest ρ N2 hN2 hI => ?_) (fun ρ hI => ?_) ⟨0, [], .un, .un, .un, .un, rfl, rfl, Nat.zero_le _, rfl, rfl, fun k p hp => by simp at hp⟩
    · obtain ⟨t, B, s3, s4, s5, s6, rfl, hrest, ht, hl, hB1, hB2⟩ := hI
      have hlt : t < R.length := by
        rcases Nat.lt_or_ge t R.length with q | q
        · exact q
        · rw [List.drop_eq_nil_of_le (by rw [List.length_zip, List.length_range']; omega)] at hrest
          cases hrest
      have hz : t < ((List.range' 0 R.length).zip R).length := by rw [List.length_zip, List.length_range']; omega
      rw [List.drop_eq_getElem_cons hz, List.getElem_zip, List.getElem_range'] at hrest
      injection hrest with ha hr2
      subst ha
      obtain ⟨r, hr⟩ : ∃ r, r = R[t] := ⟨_, rfl⟩
      rw [← hr]
      have hrR : r ∈ R := by rw [hr]; exact List.getElem_mem hlt
      have e0 : 0 + ((0 + 1 * t : Nat) : Int) = (t : Int) := by omega
      rw [e0]
      refine ⟨rfl, ?_⟩
      dsimp only [DL.putAll, DL.dgName, DL.dgCons, DL.dgNil, DL.dgTup, DL.asTup, List.map_cons, List.map_nil, List.cons_append, List.nil_append, List.replicate_succ, List.replicate_zero, List.length_cons, List.length_nil, Nat.reduceAdd, Nat.reduceSub, List.set_cons_zero, List.set_cons_succ]
      refine ⟨R.length, t, A, ⟨rfl, rfl, hA, hlt⟩, ?_⟩
      dsimp only [DL.putAll, DL.dgName, DL.dgCons, DL.dgNil, DL.dgTup, DL.asTup, List.map_cons, List.map_nil, List.cons_append, List.nil_append, List.replicate_succ, List.replicate_zero, List.length_cons, List.length_nil, Nat.reduceAdd, Nat.reduceSub, List.set_cons_zero, List.set_cons_succ]
      refine ⟨r, col A t, ⟨rfl, rfl, (hR r hrR).1, (hR r hrR).2, col_ok hA t⟩, fun b hb => ?_⟩
      have fin : ∀ y : Rat, (y = if r = 0 ∧ (col A t).sum = 0 then 0 else b) → 2 ≤ sizeLine ∧ (B.map bdD).length < sizeLine ∧ N2 [.d (.tuple (R.map fr)), .d (rowsD A), .o fp (.lst (B.map bdD ++ [.tuple [fr r, fr y]])), .d (.int (t : Int)), .d (fr r), .d (tupI (col A t)), .d (fr b)] := fun y hy => by
        refine ⟨by decide, by rw [List.length_map]; exact small1000 (by omega), hN2 _ ⟨t + 1, B ++ [(r, y)], .d (.int (t : Int)), .d (fr r), .d (tupI (col A t)), .d (fr b), ?_, hr2, hlt, by rw [List.length_append, List.length_singleton, hl], ?_, fun k p hp => ?_⟩⟩
        · rw [List.map_append]
          rfl
        · rw [List.map_append, hB1, List.take_add_one, List.getElem?_eq_getElem hlt, ← hr]
          rfl
        · rcases Nat.lt_or_ge k B.length with q | q
          · rw [List.getElem?_append_left q] at hp
            exact hB2 k p hp
          · rw [List.getElem?_append_right q] at hp
            have hu : k = t := by
              have := (List.getElem?_eq_some_iff.mp hp).1
              simp at this
              omega
            subst hu
            rw [hl, Nat.sub_self] at hp
            cases hp
            exact ⟨b, hb, hy⟩
      by_cases z1 : r = 0
      · refine ⟨⟨rfl, rfl⟩, .t ((fr_eqv r 0).trans (decide_eq_true z1)) ?_⟩
        dsimp only [DL.dTst, DL.dOp, DL.dCB, DL.dCons, DL.dVar, DL.dNil, List.set_cons_succ, List.set_cons_zero, List.getElem?_cons_succ, List.getElem?_cons_zero]
        refine (oSum_tup _ _).mpr ⟨⟨rfl, rfl⟩, ?_⟩
        by_cases z2 : (col A t).sum = 0
        · exact .t (eq_intT z2) (fin 0 (by rw [if_pos ⟨z1, z2⟩]))
        · exact .f (eq_intF z2) (fin b (by rw [if_neg fun q => z2 q.2]))
      · exact ⟨⟨rfl, rfl⟩, .f ((fr_eqv r 0).trans (decide_eq_false z1)) (.f rfl (fin b (by rw [if_neg fun q => z1 q.1])))⟩
    · obtain ⟨t, B, s3, s4, s5, s6, rfl, hrest, ht, hl, hB1, hB2⟩ := hI
      have : t = R.length := by
        rcases Nat.lt_or_ge t R.length with q | q
        · rw [List.drop_eq_getElem_cons (by rw [List.length_zip, List.length_range']; omega)] at hrest
          cases hrest
        · omega
      subst this
      rw [List.take_length] at hB1
      exact hN _ ⟨B, s3, s4, s5, s6, rfl, hB1, hB2⟩
  · obtain ⟨B, s3, s4, s5, s6, rfl, hB1, hB2⟩ := hR
    exact h B hB1 hB2
def T_streams_check_heaps : DTP := fun xs Q => match xs with
  | [a, c] => ∃ (m : Nat) (S : List (List Int)) (hs : List Int), (a = rowsD S ∧ c = tupI hs ∧ SvOk m S ∧ m ≤ 8 ∧ hs.length = m ∧ ∀ x ∈ hs, 0 ≤ x) ∧ Q .none
  | _ => False
theorem ok_check_heaps (t : Txt K mg) : Cl P w K mg base 5 "check_heaps" 2 T_streams_check_heaps := by
  have nb := t.nb
  have c_is_indexes := ok_is_indexes (P := P) (w := w) (base := base) t
  refine cl_of t.d_check_heaps sc_check_heaps rfl (by intro xs Q h; unfold T_streams_check_heaps at h; split at h <;> first | rfl | exact h.elim) (fun f cdv A outer s H E hr => (dss_one (ds_if (db_w (dw_or (db_not (db_val (de_callC c_is_indexes hr (by decide) (by rfl) (da_cons (de_var 1 (pv 1)) da_nil)))) (dw_or1 (db_cmp (op_neD hr.units) od_ne (de_blt call_len_seq od_len (by rfl) nb.len_ PySem.boot_len (da_cons (de_var 1 (pv 1)) da_nil)) (de_blt call_len_seq od_len (by rfl) nb.len_ PySem.boot_len (da_cons (de_ix (de_var 0 (pv 0)) de_int) da_nil)) (nomark _))))) (dss_one ds_never) dss_nil))) (fun xs Q h => ?_)
  unfold T_streams_check_heaps at h
  split at h
  rotate_left
  · exact h.elim
  rename_i x y
  obtain ⟨m, S, hs, ⟨rfl, rfl, hS, hm8, hm, hp⟩, h⟩ := h
  obtain ⟨s0, S', rfl⟩ : ∃ s0 S', S = s0 :: S' := by
    cases S with
    | nil => exact absurd hS.1 (by decide)
    | cons a b => exact ⟨a, b, rfl⟩
  have hs0 := (hS.2.2 s0 (List.mem_cons_self ..)).1
  refine ⟨idx_ok (by omega), .f (congrArg (! ·) (idx_tup hp)) ?_⟩
  exact (itemAt_int (j := 0) rfl (x := tupI s0) rfl _).mpr ⟨⟨rfl, rfl⟩, .f (ne_intF (by rw [List.length_map, List.length_map, hm, hs0])) h⟩

end LW

namespace LW
open PySem PySem.Spec PyProof.Rows L2 DL
variable {P : Program} {w : World} {K : PySem.W.Frag} {mg : Str → Option Value} {base : Heap}
/-! ### lines -/
def svAt (S : List (List Int)) (j : Nat) : List Int := S.getD j []
def goneOf (s h : List Int) : List Int := (s.zip h).map fun p => if p.2 < p.1 then p.2 else p.1
def heapsOf (l c : List Int) : List Int := (l.zip c).map fun p => p.1 + p.2
def restOf (h g : List Int) : List Int := (h.zip g).map fun p => p.1 - p.2
def T_streams_served_by : DTP := fun xs Q => match xs with
  | [a, .int k, c] => ∃ (m j : Nat) (S : List (List Int)) (hs : List Int), (a = rowsD S ∧ k = (j : Int) ∧ c = tupI hs ∧ SvOk m S ∧ m ≤ 8 ∧ hs.length = m ∧ (∀ x ∈ hs, 0 ≤ x) ∧ j < S.length) ∧ Q (tupI (goneOf (svAt S j) hs))
  | _ => False
theorem ok_served_by (t : Txt K mg) : Cl P w K mg base 6 "served_by" 3 T_streams_served_by := by
  have nb := t.nb
  have c_check_heaps := ok_check_heaps (P := P) (w := w) (base := base) t
  have c_is_index := ok_is_index (P := P) (w := w) (base := base) t
  refine cl_of t.d_served_by sc_served_by rfl (by intro xs Q h; unfold T_streams_served_by at h; split at h <;> first | rfl | exact h.elim) (fun f cdv A outer s H E hr => (dss_cons (ds_expr (de_callC c_check_heaps hr (by decide) (by rfl) (da_cons (de_var 0 (pv 0)) (da_cons (de_var 2 (pv 2)) da_nil))))
 (dss_cons (ds_if (db_w (dw_or (db_not (db_val (de_callC c_is_index hr (by decide) (by rfl) (da_cons (de_var 1 (pv 1)) da_nil)))) (dw_or1 (db_cmp op_ge od_ge (de_var 1 (pv 1)) (de_blt call_len_seq od_len (by rfl) nb.len_ PySem.boot_len (da_cons (de_var 0 (pv 0)) da_nil)) (nomark _))))) (dss_one ds_never) dss_nil)
 (dss_one (ds_ret (de_bty call_tuple_of od_tuple (by rfl) nb.tuple_ (by decide +kernel) (da_cons (de_lc (own := [("one", 3), ("heap", 4)]) rfl sc_served_by.nd (di_zip2 (by rfl) nb.zip_ (da_cons (de_ix (de_var 0 (pv 0)) (de_var 1 (pv 1))) (da_cons (de_var 2 (pv 2)) da_nil))) (blkOk_by (by kernel_rfl)) (fun _ _ _ _ _ => (dw_tup (n := 2) rfl (dws_cons (dw_name (i := 3) (pg_name (i := 3) sc_served_by.nd rfl (by first | exact .inl rfl | exact .inr rfl)) (by decide)) (dws_cons (dw_name (i := 4) (pg_name (i := 4) sc_served_by.nd rfl (by first | exact .inl rfl | exact .inr rfl)) (by decide)) dws_nil)))) (fun _ _ _ _ _ => dts_nil) (fun _ _ _ _ _ => (de_blt (call_min2 rfl) od_int2 (by rfl) nb.min_ (by decide +kernel) (da_cons (de_var 3 (pv 3)) (da_cons (de_var 4 (pv 4)) da_nil))))) da_nil))))))) (fun xs Q h => ?_)
  unfold T_streams_served_by at h
  split at h
  rotate_left
  · exact h.elim
  rename_i x y z
  obtain ⟨m, j, S, hs, ⟨rfl, rfl, rfl, hS, hm8, hm, hp, hj⟩, h⟩ := h
  refine ⟨m, S, hs, ⟨rfl, rfl, hS, hm8, hm, hp⟩, ?_⟩
  have hsv : S[j]? = some (svAt S j) := by
    unfold svAt
    rw [List.getD_eq_getElem?_getD, List.getElem?_eq_getElem hj]
    rfl
  have hsl := (hS.2.2 _ (List.mem_of_getElem? hsv)).1
  refine ⟨trivial, .f (congrArg (! ·) (decide_eq_true (Int.natCast_nonneg j))) (.f (decide_eq_false (by rw [List.length_map]; omega)) ?_)⟩
  refine (itemAt_nat (x := tupI (svAt S j)) (by rw [List.getElem?_map, hsv]; rfl) _).mpr ?_
  show _ ∧ compD _ _ _ _ (pairD ((svAt S j).map .int) (hs.map .int)) _ _
  rw [pairD_map]
  refine ⟨by rw [List.length_map, List.length_zip]; exact Nat.le_of_lt (small1000 (by omega)), comp_map (f := fun (p : Int × Int) => .int (if p.2 < p.1 then p.2 else p.1)) rfl (fun p hp kk hk => ⟨rfl, .t rfl hk⟩) ?_⟩
  have e : tupI (goneOf (svAt S j) hs) = .tuple (((svAt S j).zip hs).map fun (p : Int × Int) => .int (if p.2 < p.1 then p.2 else p.1)) := by
    unfold tupI goneOf
    rw [List.map_map]
    rfl
  rw [e] at h
  exact h
/-- the object between two calls -/
def lnO (C dx b1 b2 b3 : Addr) (S came : List (List Int)) (done : List Int) (lying : List (List Int)) : Ob :=
  .ins C dx [("services", .d (rowsD S)), ("came", .own b1 (came.map tupI)), ("done", .own b2 (done.map .int)), ("lying", .own b3 (lying.map tupI))]
theorem zeros : ∀ m : Nat, PyData.tuple (List.replicate m [PyData.int 0]).flatten = tupI (List.replicate m 0)
  | 0 => rfl
  | m + 1 => by
    have := zeros m
    unfold tupI at this ⊢
    injection this with this
    rw [List.replicate_succ, List.flatten_cons, this, List.replicate_succ, List.map_cons]
    rfl
def T_Lines___init__ (C : Addr) : DTB := fun ob xs Q => match xs with
  | [a] => ∃ (m : Nat) (S : List (List Int)) (dx : Addr), (a = rowsD S ∧ SvOk m S ∧ m ≤ 8 ∧ ob = .ins C dx []) ∧ ∀ b1 b2 b3, Q .none (lnO C dx b1 b2 b3 S [] [] [List.replicate m 0])
  | _ => False
theorem okm_Lines___init__ {C : Addr} (t : Txt K mg) (o : Lines_ok K mg C) : ClI P w K mg base 1 "Lines" C 2 (T_Lines___init__ C) := by
  have nb := t.nb
  have cl_Lines := o.cl
  have na_Lines_services := o.na_services
  have na_Lines_came := o.na_came
  have na_Lines_done := o.na_done
  have na_Lines_lying := o.na_lying
  refine clI_of o.di sc_Lines___init__ rfl (by intro ob xs Q h; unfold T_Lines___init__ at h; split at h <;> first | rfl | exact h.elim) (fun f cdv A outer s H E hr => (dss_cons (ds_fldD 0 cl_Lines na_Lines_services (nm := []) (by decide +kernel) (pv 0) (de_var 1 (pv 1)))
 (dss_cons (ds_fldN 0 cl_Lines na_Lines_came (nm := ["services"]) (by decide +kernel) (pv 0) (dn_lst da_nil))
 (dss_cons (ds_fldN 0 cl_Lines na_Lines_done (nm := ["services", "came"]) (by decide +kernel) (pv 0) (dn_lst da_nil))
 (dss_one (ds_fldN 0 cl_Lines na_Lines_lying (nm := ["services", "came", "done"]) (by decide +kernel) (pv 0) (dn_lst (da_cons (de_mulA (de_tup (da_cons de_int da_nil)) (de_blt call_len_seq od_len (by rfl) nb.len_ PySem.boot_len (da_cons (de_ix (de_var 1 (pv 1)) de_int) da_nil))) da_nil)))))))) (fun a0 ob xs Q h => ?_)
  unfold T_Lines___init__ at h
  split at h
  rotate_left
  · exact h.elim
  rename_i x
  obtain ⟨m, S, dx, ⟨rfl, hS, hm8, rfl⟩, h⟩ := h
  obtain ⟨s0, S', rfl⟩ : ∃ s0 S', S = s0 :: S' := by
    cases S with
    | nil => exact absurd hS.1 (by decide)
    | cons a b => exact ⟨a, b, rfl⟩
  have hs0 := (hS.2.2 s0 (List.mem_cons_self ..)).1
  refine ⟨⟨rfl, rfl⟩, by decide, ?_⟩
  refine ⟨Nat.zero_le _, ⟨rfl, rfl⟩, by show 1 < 1000; decide, fun b1 => ?_⟩
  refine ⟨Nat.zero_le _, ⟨rfl, rfl⟩, by show 2 < 1000; decide, fun b2 => ?_⟩
  refine ⟨by show 1 ≤ sizeLine; decide, (itemAt_int (j := 0) rfl (x := tupI s0) rfl _).mpr ⟨⟨by omega, by rw [List.length_map]; omega, by decide⟩, ?_⟩⟩
  refine ⟨by show 1 ≤ sizeLine; decide, ⟨rfl, rfl⟩, by show 3 < 1000; decide, fun b3 => ?_⟩
  have e : PyData.tuple (List.replicate ((s0.map PyData.int).length : Int).toNat [PyData.int 0]).flatten = tupI (List.replicate m 0) := by
    rw [List.length_map, hs0, Int.toNat_natCast, zeros]
  have h := h b1 b2 b3
  refine ⟨rfl, ?_⟩
  show Q _ _
  dsimp only [List.nil_append, List.cons_append]
  rw [e]
  exact h
def T_Lines_lines (C : Addr) : DTB := fun ob xs Q => match xs with
  | [] => ∃ (dx b1 b2 b3 : Addr) (S came : List (List Int)) (done : List Int) (lying : List (List Int)) (l : List Int), ob = lnO C dx b1 b2 b3 S came done (lying ++ [l]) ∧ Q (tupI l) ob
  | _ => False
theorem okm_Lines_lines {C : Addr} (t : Txt K mg) (o : Lines_ok K mg C) : ClM P w K mg base 1 C "lines" 1 (T_Lines_lines C) := by
  have nb := t.nb
  have cl_Lines := o.cl
  have na_Lines_services := o.na_services
  have na_Lines_came := o.na_came
  have na_Lines_done := o.na_done
  have na_Lines_lying := o.na_lying
  refine clM_of o.d_lines sc_Lines_lines rfl (by intro ob xs Q h; unfold T_Lines_lines at h; split at h <;> first | rfl | exact h.elim) (fun f cdv A outer s H E hr => (dss_one (ds_ret (de_bor (de_ix (de_fld 0 cl_Lines na_Lines_lying (by decide +kernel : fAt "lying" Lines_fields = some 3) (pv 0)) (de_neg de_int)))))) (fun a0 ob xs Q h => ?_)
  unfold T_Lines_lines at h
  split at h
  rotate_left
  · exact h.elim
  obtain ⟨dx, b1, b2, b3, S, came, done, lying, l, rfl, h⟩ := h
  have e : ((lying ++ [l]).map tupI)[((lying ++ [l]).map tupI).length - 1]? = some (tupI l) := by
    rw [List.map_append, List.length_append, List.getElem?_append_right (by simp)]
    simp
  exact ⟨⟨rfl, rfl⟩, itemAt_last (x := tupI l) e ⟨noLst_tup .int (fun _ => rfl) l, rfl, h⟩⟩
theorem sum_rows {h : PyData → Prop} (l cs : List Int) (q : h (tupI (heapsOf l cs))) : h (.tuple ((l.zip cs).map fun (p : Int × Int) => .int (p.1 + p.2))) := by
  have e : tupI (heapsOf l cs) = .tuple ((l.zip cs).map fun (p : Int × Int) => .int (p.1 + p.2)) := by
    unfold tupI heapsOf
    rw [List.map_map]
    rfl
  rw [← e]
  exact q
theorem dif_rows {h : PyData → Prop} (l cs : List Int) (q : h (tupI (restOf l cs))) : h (.tuple ((l.zip cs).map fun (p : Int × Int) => .int (p.1 - p.2))) := by
  have e : tupI (restOf l cs) = .tuple ((l.zip cs).map fun (p : Int × Int) => .int (p.1 - p.2)) := by
    unfold tupI restOf
    rw [List.map_map]
    rfl
  rw [← e]
  exact q
def T_Lines_turn (C : Addr) : DTB := fun ob xs Q => match xs with
  | [a, .int k] => ∃ (m j : Nat) (dx b1 b2 b3 : Addr) (S came : List (List Int)) (done : List Int) (lying : List (List Int)) (l cs : List Int),
      (ob = lnO C dx b1 b2 b3 S came done (lying ++ [l]) ∧ a = tupI cs ∧ k = (j : Int) ∧ SvOk m S ∧ m ≤ 8 ∧ l.length = m ∧ (∀ x ∈ l, 0 ≤ x) ∧ cs.length = m ∧ (∀ x ∈ cs, 0 ≤ x) ∧ j < S.length ∧ came.length ≤ 300 ∧ done.length ≤ 300 ∧ lying.length ≤ 300) ∧
      Q (tupI (goneOf (svAt S j) (heapsOf l cs))) (lnO C dx b1 b2 b3 S (came ++ [cs]) (done ++ [(j : Int)]) (lying ++ [l] ++ [restOf (heapsOf l cs) (goneOf (svAt S j) (heapsOf l cs))]))
  | _ => False
theorem okm_Lines_turn {C : Addr} (t : Txt K mg) (o : Lines_ok K mg C) : ClM P w K mg base 7 C "turn" 3 (T_Lines_turn C) := by
  have nb := t.nb
  have c_check_heaps := ok_check_heaps (P := P) (w := w) (base := base) t
  have c_is_index := ok_is_index (P := P) (w := w) (base := base) t
  have c_served_by := ok_served_by (P := P) (w := w) (base := base) t
  have c_MOST_TURNS := t.c_MOST_TURNS
  have cl_Lines := o.cl
  have na_Lines_services := o.na_services
  have na_Lines_came := o.na_came
  have na_Lines_done := o.na_done
  have na_Lines_lying := o.na_lying
  refine clM_of o.d_turn sc_Lines_turn rfl (by intro ob xs Q h; unfold T_Lines_turn at h; split at h <;> first | rfl | exact h.elim) (fun f cdv A outer s H E hr => (dss_cons (ds_expr (de_callC c_check_heaps hr (by decide) (by rfl) (da_cons (de_fld 0 cl_Lines na_Lines_services (by decide +kernel : fAt "services" Lines_fields = some 0) (pv 0)) (da_cons (de_var 1 (pv 1)) da_nil))))
 (dss_cons (ds_if (db_w (dw_or (db_not (db_val (de_callC c_is_index hr (by decide) (by rfl) (da_cons (de_var 2 (pv 2)) da_nil)))) (dw_or1 (db_cmp op_ge od_ge (de_var 2 (pv 2)) (de_blt call_len_seq od_len (by rfl) nb.len_ PySem.boot_len (da_cons (de_fld 0 cl_Lines na_Lines_services (by decide +kernel : fAt "services" Lines_fields = some 0) (pv 0)) da_nil)) (nomark _))))) (dss_one ds_never) dss_nil)
 (dss_cons (ds_if (db_bor (db_cmp (op_eqD hr.units) od_eq (de_blt call_len_seq od_len (by rfl) nb.len_ PySem.boot_len (da_cons (de_fld 0 cl_Lines na_Lines_done (by decide +kernel : fAt "done" Lines_fields = some 2) (pv 0)) da_nil)) (de_kc c_MOST_TURNS (by rfl)) (nomark _))) (dss_one ds_never) dss_nil)
 (dss_cons (ds_set (i := 3) sc_Lines_turn.nd rfl (by first | exact .inl rfl | exact .inr rfl) (de_bor (de_bty call_tuple_of od_tuple (by rfl) nb.tuple_ (by decide +kernel) (da_cons (de_lc (own := [("line", 5), ("its", 6)]) rfl sc_Lines_turn.nd (di_zip2 (by rfl) nb.zip_ (da_cons (de_ix (de_fld 0 cl_Lines na_Lines_lying (by decide +kernel : fAt "lying" Lines_fields = some 3) (pv 0)) (de_neg de_int)) (da_cons (de_var 1 (pv 1)) da_nil))) (blkOk_by (by kernel_rfl)) (fun _ _ _ _ _ => (dw_tup (n := 2) rfl (dws_cons (dw_name (i := 5) (pg_name (i := 5) sc_Lines_turn.nd rfl (by first | exact .inl rfl | exact .inr rfl)) (by decide)) (dws_cons (dw_name (i := 6) (pg_name (i := 6) sc_Lines_turn.nd rfl (by first | exact .inl rfl | exact .inr rfl)) (by decide)) dws_nil)))) (fun _ _ _ _ _ => dts_nil) (fun _ _ _ _ _ => (de_addA (de_var 5 (pv 5)) (de_var 6 (pv 6))))) da_nil))))
 (dss_cons (ds_set (i := 4) sc_Lines_turn.nd rfl (by first | exact .inl rfl | exact .inr rfl) (de_callC c_served_by hr (by decide) (by rfl) (da_cons (de_fld 0 cl_Lines na_Lines_services (by decide +kernel : fAt "services" Lines_fields = some 0) (pv 0)) (da_cons (de_var 2 (pv 2)) (da_cons (de_var 3 (pv 3)) da_nil)))))
 (dss_cons (ds_appF 0 cl_Lines na_Lines_came (by decide +kernel : fAt "came" Lines_fields = some 1) (pv 0) (de_var 1 (pv 1)))
 (dss_cons (ds_appF 0 cl_Lines na_Lines_done (by decide +kernel : fAt "done" Lines_fields = some 2) (pv 0) (de_var 2 (pv 2)))
 (dss_cons (ds_appF 0 cl_Lines na_Lines_lying (by decide +kernel : fAt "lying" Lines_fields = some 3) (pv 0) (de_bty call_tuple_of od_tuple (by rfl) nb.tuple_ (by decide +kernel) (da_cons (de_lc (own := [("heap", 7), ("its", 6)]) rfl sc_Lines_turn.nd (di_zip2 (by rfl) nb.zip_ (da_cons (de_var 3 (pv 3)) (da_cons (de_var 4 (pv 4)) da_nil))) (blkOk_by (by kernel_rfl)) (fun _ _ _ _ _ => (dw_tup (n := 2) rfl (dws_cons (dw_name (i := 7) (pg_name (i := 7) sc_Lines_turn.nd rfl (by first | exact .inl rfl | exact .inr rfl)) (by decide)) (dws_cons (dw_name (i := 6) (pg_name (i := 6) sc_Lines_turn.nd rfl (by first | exact .inl rfl | exact .inr rfl)) (by decide)) dws_nil)))) (fun _ _ _ _ _ => dts_nil) (fun _ _ _ _ _ => (de_sub (de_var 7 (pv 7)) (de_var 6 (pv 6))))) da_nil)))
 (dss_one (ds_ret (de_var 4 (pv 4))))))))))))) (fun a0 ob xs Q h => ?_)
  unfold T_Lines_turn at h
  split at h
  rotate_left
  · exact h.elim
  rename_i x y
  obtain ⟨m, j, dx, b1, b2, b3, S, came, done, lying, l, cs, ⟨rfl, rfl, rfl, hS, hm8, hl, hlp, hc, hcp, hj, hb1, hb2, hb3⟩, h⟩ := h
  have hheap : (heapsOf l cs).length = m := by unfold heapsOf; rw [List.length_map, List.length_zip]; omega
  have hheapp : ∀ x ∈ heapsOf l cs, 0 ≤ x := fun x hx => by
    obtain ⟨p, hp, rfl⟩ := List.mem_map.mp hx
    have := hlp _ (List.of_mem_zip hp).1
    have := hcp _ (List.of_mem_zip hp).2
    omega
  have hgone : (goneOf (svAt S j) (heapsOf l cs)).length = m := by
    have hsv : S[j]? = some (svAt S j) := by
      unfold svAt
      rw [List.getD_eq_getElem?_getD, List.getElem?_eq_getElem hj]
      rfl
    have hsl := (hS.2.2 _ (List.mem_of_getElem? hsv)).1
    unfold goneOf
    rw [List.length_map, List.length_zip]; omega
  have e : ((lying ++ [l]).map tupI)[((lying ++ [l]).map tupI).length - 1]? = some (tupI l) := by
    rw [List.map_append, List.length_append, List.getElem?_append_right (by simp)]
    simp
  refine ⟨⟨rfl, rfl⟩, m, S, cs, ⟨rfl, rfl, hS, hm8, hc, hcp⟩, ?_⟩
  refine ⟨trivial, .f (congrArg (! ·) (decide_eq_true (Int.natCast_nonneg j))) ⟨⟨rfl, rfl⟩, .f (decide_eq_false (by rw [List.length_map]; omega)) ?_⟩⟩
  refine ⟨⟨rfl, rfl⟩, ⟨rfl, rfl⟩, .f (eq_intF (by rw [List.length_map]; omega)) ?_⟩
  refine ⟨⟨rfl, rfl⟩, itemAt_last (x := tupI l) e ?_⟩
  show _ ∧ compD _ _ _ _ (pairD (l.map .int) (cs.map .int)) _ _
  rw [pairD_map]
  have e1 : (.tuple ((l.zip cs).map fun (p : Int × Int) => .int (p.1 + p.2)) : PyData) = tupI (heapsOf l cs) := sum_rows (h := fun x => x = tupI (heapsOf l cs)) l cs rfl
  refine ⟨by rw [List.length_map, List.length_zip]; exact Nat.le_of_lt (small1000 (by omega)), comp_map (f := fun (p : Int × Int) => .int (p.1 + p.2)) rfl (fun p hp kk hk => ⟨rfl, .t rfl hk⟩) ?_⟩
  refine ⟨noLst_tup _ (fun _ => rfl) _, ?_⟩
  rw [e1]
  dsimp only [DL.putAll, DL.dgName, DL.dgCons, DL.dgNil, DL.dgTup, DL.asTup, List.map_cons, List.map_nil, List.cons_append, List.nil_append, List.replicate_succ, List.replicate_zero, List.length_cons, List.length_nil, Nat.reduceAdd, Nat.reduceSub, List.set_cons_zero, List.set_cons_succ]
  refine ⟨⟨rfl, rfl⟩, m, j, S, heapsOf l cs, ⟨rfl, rfl, rfl, hS, hm8, hheap, hheapp, hj⟩, ?_⟩
  dsimp only [DL.putAll, DL.dgName, DL.dgCons, DL.dgNil, DL.dgTup, DL.asTup, List.map_cons, List.map_nil, List.cons_append, List.nil_append, List.replicate_succ, List.replicate_zero, List.length_cons, List.length_nil, Nat.reduceAdd, Nat.reduceSub, List.set_cons_zero, List.set_cons_succ]
  refine ⟨⟨rfl, rfl⟩, ⟨rfl, rfl⟩, ⟨rfl, by rw [List.length_map]; exact small1000 (by omega)⟩, ?_⟩
  refine ⟨⟨rfl, rfl⟩, ⟨rfl, rfl⟩, ⟨rfl, by rw [List.length_map]; exact small1000 (by omega)⟩, ?_⟩
  refine ⟨⟨rfl, rfl⟩, ?_⟩
  show _ ∧ compD _ _ _ _ (pairD ((heapsOf l cs).map .int) ((goneOf (svAt S j) (heapsOf l cs)).map .int)) _ _
  rw [pairD_map]
  have e2 := dif_rows (h := fun x => x = tupI (restOf (heapsOf l cs) (goneOf (svAt S j) (heapsOf l cs)))) (heapsOf l cs) (goneOf (svAt S j) (heapsOf l cs)) rfl
  refine ⟨by rw [List.length_map, List.length_zip]; exact Nat.le_of_lt (small1000 (by omega)), comp_map (f := fun (p : Int × Int) => .int (p.1 - p.2)) rfl (fun p hp kk hk => ⟨rfl, .t rfl hk⟩) ?_⟩
  refine ⟨⟨rfl, rfl⟩, ⟨rfl, by rw [List.length_map, List.length_append, List.length_singleton]; exact small1000 (by omega)⟩, ?_⟩
  refine ⟨rfl, ?_⟩
  simp only [e2]
  unfold lnO at h
  rw [List.map_append (l₁ := came), List.map_append (l₁ := done), List.map_append (l₁ := lying ++ [l])] at h
  exact h
/-! ### played -/
theorem rows_idx {m : Nat} {A : List (List Int)} (h : ArOk m A) : tupB (tupB isIdxB) (rowsD A) = true := by
  show (A.map tupI).all (tupB isIdxB) = true
  rw [List.all_map, List.all_eq_true]
  intro r hr
  exact idx_tup fun x hx => ((h.2 r hr).2 x hx).1
theorem rows_ok {m : Nat} {A : List (List Int)} (h : ArOk m A) (hm : m ≤ 8) : tupP (tupP okAny) (rowsD A) := ⟨by rw [List.length_map]; exact Nat.le_of_lt (small1000 (by have := h.1; omega)), fun x hx => by
  obtain ⟨r, hr, rfl⟩ := List.mem_map.mp hx
  exact idx_ok (by have := (h.2 r hr).1; omega)⟩
def T_arrivals_checked : DTP := fun xs Q => match xs with
  | [a, c] => ∃ (m : Nat) (s0 : List Int) (A : List (List Int)), (a = tupI s0 ∧ c = rowsD A ∧ s0.length = m ∧ m ≤ 8 ∧ ArOk m A) ∧ Q (rowsD A)
  | _ => False
theorem ok_checked_arrivals (t : Txt K mg) : Cl P w K mg base 7 "checked_arrivals" 2 T_arrivals_checked := by
  have nb := t.nb
  have c_is_rows := ok_is_rows (P := P) (w := w) (base := base) t
  have c_MOST_TURNS := t.c_MOST_TURNS
  refine cl_of t.d_checked_arrivals sc_checked_arrivals rfl (by intro xs Q h; unfold T_arrivals_checked at h; split at h <;> first | rfl | exact h.elim) (fun f cdv A outer s H E hr => (dss_cons (ds_if (db_not (db_val (de_callC c_is_rows hr (by decide) (by rfl) (da_cons (de_var 1 (pv 1)) da_nil)))) (dss_one ds_never) dss_nil)
 (dss_cons (ds_if (db_cmp op_gt od_gt (de_blt call_len_seq od_len (by rfl) nb.len_ PySem.boot_len (da_cons (de_var 1 (pv 1)) da_nil)) (de_kc c_MOST_TURNS (by rfl)) (nomark _)) (dss_one ds_never) dss_nil)
 (dss_cons (ds_for PassesOwn.never rfl (di_enum (by rfl) nb.enumerate_ (da_cons (de_var 1 (pv 1)) da_nil)) (dg_tup (n := 2) rfl (dgs_cons (dg_name (i := 2) (pg_name (i := 2) sc_checked_arrivals.nd rfl (by first | exact .inl rfl | exact .inr rfl))) (dgs_cons (dg_name (i := 3) (pg_name (i := 3) sc_checked_arrivals.nd rfl (by first | exact .inl rfl | exact .inr rfl))) dgs_nil)))
 (dss_one (ds_if (db_cmp (op_neD hr.units) od_ne (de_blt call_len_seq od_len (by rfl) nb.len_ PySem.boot_len (da_cons (de_var 3 (pv 3)) da_nil)) (de_blt call_len_seq od_len (by rfl) nb.len_ PySem.boot_len (da_cons (de_var 0 (pv 0)) da_nil)) (nomark _)) (dss_one ds_never) dss_nil)))
 (dss_one (ds_ret (de_var 1 (pv 1)))))))) (fun xs Q h => ?_)
  unfold T_arrivals_checked at h
  split at h
  rotate_left
  · exact h.elim
  rename_i x y
  obtain ⟨m, s0, A, ⟨rfl, rfl, hs0, hm8, hA⟩, h⟩ := h
  have hA1 := hA.1
  refine ⟨rows_ok hA hm8, .f (congrArg (! ·) (rows_idx hA)) (.f (decide_eq_false (by rw [List.length_map]; omega)) ?_)⟩
  dsimp only [DL.dNext]
  dsimp only [DL.putAll, DL.dgName, DL.dgCons, DL.dgNil, DL.dgTup, DL.asTup, List.map_cons, List.map_nil, List.cons_append, List.nil_append, List.replicate_succ, List.replicate_zero, List.length_cons, List.length_nil, Nat.reduceAdd, Nat.reduceSub, List.set_cons_zero, List.set_cons_succ]
  refine seq_of (fun ρ' => ∃ s2 s3 : Sl, ρ' = [.d (tupI s0), .d (rowsD A), s2, s3]) (fun N hN => ?_) (fun ρ' hR => ?_)
  · show forD _ _ _ (numD (A.map tupI)) _
    rw [num_map]
    refine for_of (fun rest ρ => ∃ s2 s3 : Sl, ρ = [.d (tupI s0), .d (rowsD A), s2, s3] ∧ ∀ p ∈ rest, p.2 ∈ A) (fun a rest ρ N2 hN2 hI => ?_) (fun ρ hI => ?_) ⟨.un, .un, rfl, fun p hp => (List.of_mem_zip hp).2⟩
    · obtain ⟨s2, s3, rfl, hp⟩ := hI
      have ha := hp a (List.mem_cons_self ..)
      refine ⟨rfl, ⟨rfl, rfl⟩, .f (ne_intF (by rw [List.length_map, List.length_map, hs0, (hA.2 _ ha).1])) (hN2 _ ⟨.d (.int (0 + (a.1 : Int))), .d (tupI a.2), rfl, fun p h => hp p (List.mem_cons_of_mem _ h)⟩)⟩
    · obtain ⟨s2, s3, rfl, _⟩ := hI
      exact hN _ ⟨s2, s3, rfl⟩
  · obtain ⟨s2, s3, rfl⟩ := hR
    exact h
def lnStep (S : List (List Int)) (l c : List Int) (j : Nat) : List Int := restOf (heapsOf l c) (goneOf (svAt S j) (heapsOf l c))
theorem zip_get {x y : List Int} {m i : Nat} (hx : x.length = m) (hy : y.length = m) (hi : i < m) (f : Int × Int → Int) : ((x.zip y).map f).getD i 0 = f (x.getD i 0, y.getD i 0) := by
  have h1 : i < x.length := by omega
  have h2 : i < y.length := by omega
  have h3 : i < ((x.zip y).map f).length := by rw [List.length_map, List.length_zip]; omega
  rw [List.getD_eq_getElem?_getD, List.getD_eq_getElem?_getD, List.getD_eq_getElem?_getD, List.getElem?_eq_getElem h1, List.getElem?_eq_getElem h2, List.getElem?_eq_getElem h3, List.getElem_map, List.getElem_zip]
  rfl
theorem sv_at {m j : Nat} {S : List (List Int)} (hS : SvOk m S) (hj : j < S.length) : svAt S j ∈ S ∧ (svAt S j).length = m := by
  have hsv : S[j]? = some (svAt S j) := by
    unfold svAt
    rw [List.getD_eq_getElem?_getD, List.getElem?_eq_getElem hj]
    rfl
  have h := List.mem_of_getElem? hsv
  exact ⟨h, (hS.2.2 _ h).1⟩
theorem heaps_len {l c : List Int} {m : Nat} (hl : l.length = m) (hc : c.length = m) : (heapsOf l c).length = m := by unfold heapsOf; rw [List.length_map, List.length_zip]; omega
theorem gone_len {s h : List Int} {m : Nat} (hs : s.length = m) (hh : h.length = m) : (goneOf s h).length = m := by unfold goneOf; rw [List.length_map, List.length_zip]; omega
theorem ln_len {m j : Nat} {S : List (List Int)} {l c : List Int} (hS : SvOk m S) (hj : j < S.length) (hl : l.length = m) (hc : c.length = m) : (lnStep S l c j).length = m := by
  have h1 := heaps_len hl hc
  have h2 := gone_len (sv_at hS hj).2 h1
  unfold lnStep restOf
  rw [List.length_map, List.length_zip]; omega
theorem ln_get {m j i : Nat} {S : List (List Int)} {l c : List Int} (hS : SvOk m S) (hj : j < S.length) (hl : l.length = m) (hc : c.length = m) (hi : i < m) :
    (lnStep S l c j).getD i 0 = l.getD i 0 + c.getD i 0 - (if l.getD i 0 + c.getD i 0 < (svAt S j).getD i 0 then l.getD i 0 + c.getD i 0 else (svAt S j).getD i 0) := by
  have h1 := heaps_len hl hc
  have h0 := (sv_at hS hj).2
  have h2 := gone_len h0 h1
  have e1 : (heapsOf l c).getD i 0 = l.getD i 0 + c.getD i 0 := by unfold heapsOf; rw [zip_get hl hc hi]
  have e2 : (goneOf (svAt S j) (heapsOf l c)).getD i 0 = if (heapsOf l c).getD i 0 < (svAt S j).getD i 0 then (heapsOf l c).getD i 0 else (svAt S j).getD i 0 := by unfold goneOf; rw [zip_get h0 h1 hi]
  unfold lnStep
  unfold restOf
  rw [zip_get h1 h2 hi, e2, e1]
theorem getD_mem {x : List Int} {i : Nat} (h : i < x.length) : x.getD i 0 ∈ x := by
  rw [List.getD_eq_getElem?_getD, List.getElem?_eq_getElem h]
  exact List.getElem_mem h
theorem ln_pos {m j : Nat} {S : List (List Int)} {l c : List Int} (hS : SvOk m S) (hj : j < S.length) (hl : l.length = m) (hc : c.length = m) : ∀ x ∈ lnStep S l c j, 0 ≤ x := fun x hx => by
  obtain ⟨i, hi, rfl⟩ := List.mem_iff_getElem.mp hx
  have hlen := ln_len hS hj hl hc
  have e : (lnStep S l c j)[i] = (lnStep S l c j).getD i 0 := by
    rw [List.getD_eq_getElem?_getD, List.getElem?_eq_getElem hi]; rfl
  rw [e, ln_get hS hj hl hc (by omega)]
  split <;> omega
def linesOf (S : List (List Int)) : List Int → List (List Int × Nat) → List (List Int)
  | _, [] => []
  | l, p :: r => lnStep S l p.1 p.2 :: linesOf S (lnStep S l p.1 p.2) r
def hpsOf (S : List (List Int)) : List Int → List (List Int × Nat) → List (List Int)
  | _, [] => []
  | l, p :: r => heapsOf l p.1 :: hpsOf S (lnStep S l p.1 p.2) r
def gnsOf (S : List (List Int)) : List Int → List (List Int × Nat) → List (List Int)
  | _, [] => []
  | l, p :: r => goneOf (svAt S p.2) (heapsOf l p.1) :: gnsOf S (lnStep S l p.1 p.2) r
def natI (ns : List Nat) : List Int := ns.map fun (n : Nat) => (n : Int)
def T_plays_played : DTP := fun xs Q => match xs with
  | [a, c, d] => ∃ (m : Nat) (S A : List (List Int)) (ns : List Nat), (a = rowsD S ∧ c = rowsD A ∧ d = tupI (natI ns) ∧ SvOk m S ∧ m ≤ 8 ∧ ArOk m A ∧ ns.length = A.length ∧ ∀ n ∈ ns, n < S.length) ∧
      Q (.tuple [rowsD (linesOf S (List.replicate m 0) (A.zip ns)), rowsD (hpsOf S (List.replicate m 0) (A.zip ns)), rowsD (gnsOf S (List.replicate m 0) (A.zip ns))])
  | _ => False
theorem ok_played (t : Txt K mg) : Cl P w K mg base 8 "played" 3 T_plays_played := by
  have nb := t.nb
  have c_checked_arrivals := ok_checked_arrivals (P := P) (w := w) (base := base) t
  have c_is_indexes := ok_is_indexes (P := P) (w := w) (base := base) t
  obtain ⟨C_Lines, o_Lines⟩ := t.o_Lines
  have cl_Lines := o_Lines.cl
  have na_Lines_services := o_Lines.na_services
  have na_Lines_came := o_Lines.na_came
  have na_Lines_done := o_Lines.na_done
  have na_Lines_lying := o_Lines.na_lying
  have ci_Lines := okm_Lines___init__ (P := P) (w := w) (base := base) t o_Lines
  have cm_Lines_lines := okm_Lines_lines (P := P) (w := w) (base := base) t o_Lines
  have cm_Lines_turn := okm_Lines_turn (P := P) (w := w) (base := base) t o_Lines
  refine cl_of t.d_played sc_played rfl (by intro xs Q h; unfold T_plays_played at h; split at h <;> first | rfl | exact h.elim) (fun f cdv A outer s H E hr => (dss_cons (ds_try (dss_one (ds_expr (de_callC c_checked_arrivals hr (by decide) (by rfl) (da_cons (de_ix (de_var 0 (pv 0)) de_int) (da_cons (de_var 1 (pv 1)) da_nil))))))
 (dss_cons (ds_if (db_w (dw_or (db_not (db_val (de_callC c_is_indexes hr (by decide) (by rfl) (da_cons (de_var 2 (pv 2)) da_nil)))) (dw_or1 (db_cmp (op_neD hr.units) od_ne (de_blt call_len_seq od_len (by rfl) nb.len_ PySem.boot_len (da_cons (de_var 2 (pv 2)) da_nil)) (de_blt call_len_seq od_len (by rfl) nb.len_ PySem.boot_len (da_cons (de_var 1 (pv 1)) da_nil)) (nomark _))))) (dss_one ds_never) dss_nil)
 (dss_cons (ds_parN (ks := [3, 4, 5, 6]) rfl (dm_new (dn_lst da_nil) (dm_new (dn_lst da_nil) (dm_new (dn_lst da_nil) (dm_new (dn_make ci_Lines hr (by decide) (by rfl) (da_cons (de_var 0 (pv 0)) da_nil)) dm_nil)))) (pgs_cons (pg_name (i := 3) sc_played.nd rfl (by first | exact .inl rfl | exact .inr rfl)) (pgs_cons (pg_name (i := 4) sc_played.nd rfl (by first | exact .inl rfl | exact .inr rfl)) (pgs_cons (pg_name (i := 5) sc_played.nd rfl (by first | exact .inl rfl | exact .inr rfl)) (pgs_cons (pg_name (i := 6) sc_played.nd rfl (by first | exact .inl rfl | exact .inr rfl)) pgs_nil)))) rfl)
 (dss_cons (ds_for PassesOwn.never rfl (di_zip2 (by rfl) nb.zip_ (da_cons (de_var 1 (pv 1)) (da_cons (de_var 2 (pv 2)) da_nil))) (dg_tup (n := 2) rfl (dgs_cons (dg_name (i := 7) (pg_name (i := 7) sc_played.nd rfl (by first | exact .inl rfl | exact .inr rfl))) (dgs_cons (dg_name (i := 8) (pg_name (i := 8) sc_played.nd rfl (by first | exact .inl rfl | exact .inr rfl))) dgs_nil)))
 (dss_cons (ds_app 4 (pv 4) (de_bty call_tuple_of od_tuple (by rfl) nb.tuple_ (by decide +kernel) (da_cons (de_lc (own := [("line", 9), ("one", 10)]) rfl sc_played.nd (di_zip2 (by rfl) nb.zip_ (da_cons (de_meth0 6 cl_Lines cm_Lines_lines (nm := Lines_fields) (by decide +kernel) hr (by decide) (pv 6)) (da_cons (de_var 7 (pv 7)) da_nil))) (blkOk_by (by kernel_rfl)) (fun _ _ _ _ _ => (dw_tup (n := 2) rfl (dws_cons (dw_name (i := 9) (pg_name (i := 9) sc_played.nd rfl (by first | exact .inl rfl | exact .inr rfl)) (by decide)) (dws_cons (dw_name (i := 10) (pg_name (i := 10) sc_played.nd rfl (by first | exact .inl rfl | exact .inr rfl)) (by decide)) dws_nil)))) (fun _ _ _ _ _ => dts_nil) (fun _ _ _ _ _ => (de_addA (de_var 9 (pv 9)) (de_var 10 (pv 10))))) da_nil)))
 (dss_cons (ds_app 5 (pv 5) (de_meth 6 cl_Lines cm_Lines_turn (nm := Lines_fields) (by decide +kernel) hr (by decide) (pv 6) (da_cons (de_var 7 (pv 7)) (da_cons (de_var 8 (pv 8)) da_nil))))
 (dss_one (ds_app 3 (pv 3) (de_meth0 6 cl_Lines cm_Lines_lines (nm := Lines_fields) (by decide +kernel) hr (by decide) (pv 6)))))))
 (dss_one (ds_ret (de_frz 3 (de_frz 4 (de_frz 5 (de_tup (da_cons (de_bty call_tuple_of od_tuple (by rfl) nb.tuple_ (by decide +kernel) (da_cons (de_var 3 (pv 3)) da_nil)) (da_cons (de_bty call_tuple_of od_tuple (by rfl) nb.tuple_ (by decide +kernel) (da_cons (de_var 4 (pv 4)) da_nil)) (da_cons (de_bty call_tuple_of od_tuple (by rfl) nb.tuple_ (by decide +kernel) (da_cons (de_var 5 (pv 5)) da_nil)) da_nil)))))))))))))) (fun xs Q h => ?_)
  unfold T_plays_played at h
  split at h
  rotate_left
  · exact h.elim
  rename_i x y z
  obtain ⟨m, S, A, ns, ⟨rfl, rfl, rfl, hS, hm8, hA, hnl, hns⟩, h⟩ := h
  obtain ⟨s0, S', rfl⟩ : ∃ s0 S', S = s0 :: S' := by
    cases S with
    | nil => exact absurd hS.1 (by decide)
    | cons a b => exact ⟨a, b, rfl⟩
  have hs0 := (hS.2.2 s0 (List.mem_cons_self ..)).1
  have hA1 := hA.1
  have hnp : ∀ x ∈ natI ns, 0 ≤ x := fun x hx => by
    obtain ⟨n, _, rfl⟩ := List.mem_map.mp hx
    omega
  have hnl2 : (natI ns).length = A.length := by unfold natI; rw [List.length_map, hnl]
  refine (itemAt_int (j := 0) rfl (x := tupI s0) rfl _).mpr ⟨m, s0, A, ⟨rfl, rfl, hs0, hm8, hA⟩, ?_⟩
  refine ⟨idx_ok (by omega), .f (congrArg (! ·) (idx_tup hnp)) ⟨⟨rfl, rfl⟩, .f (ne_intF (by rw [List.length_map, List.length_map, hnl2])) ?_⟩⟩
  refine ⟨Nat.zero_le _, Nat.zero_le _, Nat.zero_le _, fun dx => ⟨m, s0 :: S', dx, ⟨rfl, hS, hm8, rfl⟩, fun b1 b2 b3 => ⟨rfl, fun p6 p5 p4 p3 => ⟨⟨rfl, by show 4 ≤ sizeLine; decide⟩, ?_⟩⟩⟩⟩
  dsimp only [DL.putAll, DL.dgName, DL.dgCons, DL.dgNil, DL.dgTup, DL.asTup, List.map_cons, List.map_nil, List.cons_append, List.nil_append, List.replicate_succ, List.replicate_zero, List.length_cons, List.length_nil, Nat.reduceAdd, Nat.reduceSub, List.set_cons_zero, List.set_cons_succ]
  generalize hSS : s0 :: S' = SS at *
  refine seq_of (fun ρ' => ∃ (L hs gs : List (List Int)) (s6 s7 s8 : Sl), ρ' = [.d (rowsD SS), .d (rowsD A), .d (tupI (natI ns)), .o p3 (.lst (L.map tupI)), .o p4 (.lst (hs.map tupI)), .o p5 (.lst (gs.map tupI)), s6, s7, s8, .un, .un] ∧ L = linesOf SS (List.replicate m 0) (A.zip ns) ∧ hs = hpsOf SS (List.replicate m 0) (A.zip ns) ∧ gs = gnsOf SS (List.replicate m 0) (A.zip ns)) (fun N hN => ?_) (fun ρ' hR => ?_)
  · show forD _ _ _ (pairD (A.map tupI) ((natI ns).map .int)) _
    have en : (natI ns).map PyData.int = ns.map (fun (n : Nat) => .int (n : Int)) := by unfold natI; rw [List.map_map]; rfl
    rw [en, pairD_map]
    refine for_of (fun rest ρ => ∃ (L hs gs came : List (List Int)) (done : List Int) (lying : List (List Int)) (l : List Int) (s7 s8 : Sl), ρ = [.d (rowsD SS), .d (rowsD A), .d (tupI (natI ns)), .o p3 (.lst (L.map tupI)), .o p4 (.lst (hs.map tupI)), .o p5 (.lst (gs.map tupI)), .o p6 (lnO C_Lines dx b1 b2 b3 SS came done (lying ++ [l])), s7, s8, .un, .un] ∧
        (L ++ linesOf SS l rest = linesOf SS (List.replicate m 0) (A.zip ns) ∧ hs ++ hpsOf SS l rest = hpsOf SS (List.replicate m 0) (A.zip ns) ∧ gs ++ gnsOf SS l rest = gnsOf SS (List.replicate m 0) (A.zip ns)) ∧ l.length = m ∧ (∀ x ∈ l, 0 ≤ x) ∧ (∀ p ∈ rest, p ∈ A.zip ns) ∧ L.length + rest.length ≤ 200 ∧ hs.length = L.length ∧ gs.length = L.length ∧ came.length = L.length ∧ done.length = L.length ∧ lying.length = L.length)
      (fun a rest ρ N2 hN2 hI => ?_) (fun ρ hI => ?_) ⟨[], [], [], [], [], [], List.replicate m 0, .un, .un, rfl, ⟨rfl, rfl, rfl⟩, List.length_replicate, (fun x hx => by rw [(List.mem_replicate.mp hx).2]; decide), (fun p hp => hp), by rw [List.length_zip]; show 0 + _ ≤ 200; omega, rfl, rfl, rfl, rfl, rfl⟩
    · obtain ⟨L, hs, gs, came, done, lying, l, s7, s8, rfl, hL, hl, hlp, hrest, hlen, l1, l2, l3, l4, l5⟩ := hI
      have ha := hrest a (List.mem_cons_self ..)
      have hc := hA.2 _ (List.of_mem_zip ha).1
      have hn := hns _ (List.of_mem_zip ha).2
      have hlen2 : L.length + (rest.length + 1) ≤ 200 := hlen
      refine ⟨rfl, ?_⟩
      dsimp only [DL.putAll, DL.dgName, DL.dgCons, DL.dgNil, DL.dgTup, DL.asTup, List.map_cons, List.map_nil, List.cons_append, List.nil_append, List.replicate_succ, List.replicate_zero, List.length_cons, List.length_nil, Nat.reduceAdd, Nat.reduceSub, List.set_cons_zero, List.set_cons_succ]
      have e1 : (.tuple ((l.zip a.1).map fun (p : Int × Int) => .int (p.1 + p.2)) : PyData) = tupI (heapsOf l a.1) := sum_rows (h := fun x => x = tupI (heapsOf l a.1)) l a.1 rfl
      refine ⟨⟨rfl, rfl⟩, dx, b1, b2, b3, SS, came, done, lying, l, rfl, ?_⟩
      show _ ∧ compD _ _ _ _ (pairD (l.map .int) (a.1.map .int)) _ _
      rw [pairD_map]
      refine ⟨by rw [List.length_map, List.length_zip]; exact Nat.le_of_lt (small1000 (by omega)), comp_map (f := fun (p : Int × Int) => .int (p.1 + p.2)) rfl (fun p hp kk hk => ⟨rfl, .t rfl hk⟩) ?_⟩
      refine ⟨by rw [List.length_map]; exact small1000 (by omega), ?_⟩
      rw [e1]
      dsimp only [DL.putAll, DL.dgName, DL.dgCons, DL.dgNil, DL.dgTup, DL.asTup, List.map_cons, List.map_nil, List.cons_append, List.nil_append, List.replicate_succ, List.replicate_zero, List.length_cons, List.length_nil, Nat.reduceAdd, Nat.reduceSub, List.set_cons_zero, List.set_cons_succ]
      refine ⟨⟨rfl, rfl⟩, m, a.2, dx, b1, b2, b3, SS, came, done, lying, l, a.1, ⟨rfl, rfl, rfl, hS, hm8, hl, hlp, hc.1, (fun x hx => (hc.2 x hx).1), hn, by omega, by omega, by omega⟩, ?_⟩
      refine ⟨by rw [List.length_map]; exact small1000 (by omega), ?_⟩
      dsimp only [DL.putAll, DL.dgName, DL.dgCons, DL.dgNil, DL.dgTup, DL.asTup, List.map_cons, List.map_nil, List.cons_append, List.nil_append, List.replicate_succ, List.replicate_zero, List.length_cons, List.length_nil, Nat.reduceAdd, Nat.reduceSub, List.set_cons_zero, List.set_cons_succ]
      refine ⟨⟨rfl, rfl⟩, dx, b1, b2, b3, SS, came ++ [a.1], done ++ [(a.2 : Int)], lying ++ [l], lnStep SS l a.1 a.2, rfl, ?_⟩
      refine ⟨by rw [List.length_map]; exact small1000 (by omega), hN2 _ ⟨L ++ [lnStep SS l a.1 a.2], hs ++ [heapsOf l a.1], gs ++ [goneOf (svAt SS a.2) (heapsOf l a.1)], came ++ [a.1], done ++ [(a.2 : Int)], lying ++ [l], lnStep SS l a.1 a.2, .d (tupI a.1), .d (.int (a.2 : Int)), ?_, ?_, ln_len hS hn hl hc.1, ln_pos hS hn hl hc.1, (fun p hp => hrest p (List.mem_cons_of_mem _ hp)), ?_, ?_, ?_, ?_, ?_, ?_⟩⟩
      · rw [List.map_append, List.map_append, List.map_append]
        rfl
      · rw [List.append_assoc, List.append_assoc, List.append_assoc]
        exact hL
      all_goals (simp only [List.length_append, List.length_singleton]; omega)
    · obtain ⟨L, hs, gs, came, done, lying, l, s7, s8, rfl, hL, hl, hlp, hrest, hlen, l1, l2, l3, l4, l5⟩ := hI
      exact hN _ ⟨L, hs, gs, _, s7, s8, rfl, (List.append_nil L).symm.trans hL.1, (List.append_nil hs).symm.trans hL.2.1, (List.append_nil gs).symm.trans hL.2.2⟩
  · obtain ⟨L, hs, gs, s6, s7, s8, rfl, rfl, rfl, rfl⟩ := hR
    exact ⟨by show 3 ≤ sizeLine; decide, h⟩
def T_plays_lines_behind : DTP := fun xs Q => match xs with
  | [a, c, d] => ∃ (m : Nat) (S A : List (List Int)) (ns : List Nat), (a = rowsD S ∧ c = rowsD A ∧ d = tupI (natI ns) ∧ SvOk m S ∧ m ≤ 8 ∧ ArOk m A ∧ ns.length = A.length ∧ ∀ n ∈ ns, n < S.length) ∧
      Q (rowsD (linesOf S (List.replicate m 0) (A.zip ns)))
  | _ => False
theorem ok_lines_behind (t : Txt K mg) : Cl P w K mg base 9 "lines_behind" 3 T_plays_lines_behind := by
  have nb := t.nb
  have c_played := ok_played (P := P) (w := w) (base := base) t
  refine cl_of t.d_lines_behind sc_lines_behind rfl (by intro xs Q h; unfold T_plays_lines_behind at h; split at h <;> first | rfl | exact h.elim) (fun f cdv A outer s H E hr => (dss_one (ds_ret (de_ix (de_callC c_played hr (by decide) (by rfl) (da_cons (de_var 0 (pv 0)) (da_cons (de_var 1 (pv 1)) (da_cons (de_var 2 (pv 2)) da_nil)))) de_int)))) (fun xs Q h => ?_)
  unfold T_plays_lines_behind at h
  split at h
  rotate_left
  · exact h.elim
  rename_i x y z
  obtain ⟨m, S, A, ns, hh, h⟩ := h
  exact ⟨m, S, A, ns, hh, .mk 0 _ rfl rfl h⟩

end LW

namespace LW
open PySem PySem.Spec PyProof.Rows L2 DL
variable {P : Program} {w : World} {K : PySem.W.Frag} {mg : Str → Option Value} {base : Heap}
/-! ### arrivals that keep a bound -/
def T_worstarrivals_check_turns : DTP := fun xs Q => match xs with
  | [.int k] => ∃ t : Nat, (k = (t : Int) ∧ t ≤ 100) ∧ Q .none
  | _ => False
theorem ok_check_turns (t : Txt K mg) : Cl P w K mg base 3 "check_turns" 1 T_worstarrivals_check_turns := by
  have nb := t.nb
  have c_is_index := ok_is_index (P := P) (w := w) (base := base) t
  have c_MOST_TURNS := t.c_MOST_TURNS
  refine cl_of t.d_check_turns sc_check_turns rfl (by intro xs Q h; unfold T_worstarrivals_check_turns at h; split at h <;> first | rfl | exact h.elim) (fun f cdv A outer s H E hr => (dss_one (ds_if (db_w (dw_or (db_not (db_val (de_callC c_is_index hr (by decide) (by rfl) (da_cons (de_var 0 (pv 0)) da_nil)))) (dw_or1 (db_cmp op_gt od_gt (de_var 0 (pv 0)) (de_kc c_MOST_TURNS (by rfl)) (nomark _))))) (dss_one ds_never) dss_nil))) (fun xs Q h => ?_)
  unfold T_worstarrivals_check_turns at h
  split at h
  rotate_left
  · exact h.elim
  rename_i x
  obtain ⟨t, ⟨rfl, ht⟩, h⟩ := h
  exact ⟨trivial, .f (congrArg (! ·) (decide_eq_true (Int.natCast_nonneg t))) (.f (decide_eq_false (by omega)) h)⟩
def lstI (ns : List Int) : PyData := .list (ns.map .int)
def bySums (xs : List Int) : List Int := ((0 :: xs).zip xs).map fun p => p.2 - p.1
def T_worstarrivals_by_sums : DTP := fun xs Q => match xs with
  | [a] => ∃ ns : List Int, (a = lstI ns ∧ ns.length ≤ 200) ∧ Q (lstI (bySums ns))
  | _ => False
theorem ok_by_sums (t : Txt K mg) : Cl P w K mg base 1 "by_sums" 1 T_worstarrivals_by_sums := by
  have nb := t.nb
  refine cl_of t.d_by_sums sc_by_sums rfl (by intro xs Q h; unfold T_worstarrivals_by_sums at h; split at h <;> first | rfl | exact h.elim) (fun f cdv A outer s H E hr => (dss_one (ds_ret (de_lc (own := [("ahead", 1), ("later", 2)]) rfl sc_by_sums.nd (di_zip2 (by rfl) nb.zip_ (da_cons (de_lst (da_cons de_int (da_star (de_var 0 (pv 0)) da_nil))) (da_cons (de_var 0 (pv 0)) da_nil))) (blkOk_by (by kernel_rfl)) (fun _ _ _ _ _ => (dw_tup (n := 2) rfl (dws_cons (dw_name (i := 1) (pg_name (i := 1) sc_by_sums.nd rfl (by first | exact .inl rfl | exact .inr rfl)) (by decide)) (dws_cons (dw_name (i := 2) (pg_name (i := 2) sc_by_sums.nd rfl (by first | exact .inl rfl | exact .inr rfl)) (by decide)) dws_nil)))) (fun _ _ _ _ _ => dts_nil) (fun _ _ _ _ _ => (de_sub (de_var 2 (pv 2)) (de_var 1 (pv 1)))))))) (fun xs Q h => ?_)
  unfold T_worstarrivals_by_sums at h
  split at h
  rotate_left
  · exact h.elim
  rename_i x
  obtain ⟨ns, ⟨rfl, hl⟩, h⟩ := h
  refine ⟨by rw [List.length_cons, List.append_nil, List.length_map]; exact small1000 (by omega), ?_⟩
  show _ ∧ compD _ _ _ _ (pairD (.int 0 :: (ns.map .int ++ [])) (ns.map .int)) _ _
  rw [List.append_nil, ← List.map_cons (f := PyData.int), pairD_map]
  refine ⟨by rw [List.length_map, List.length_zip, List.length_cons]; exact Nat.le_of_lt (small1000 (by omega)), comp_map (f := fun (p : Int × Int) => .int (p.2 - p.1)) rfl (fun p hp kk hk => ⟨rfl, .t rfl hk⟩) ?_⟩
  have e : lstI (bySums ns) = .list (((0 :: ns).zip ns).map fun (p : Int × Int) => .int (p.2 - p.1)) := by
    unfold lstI bySums
    rw [List.map_map]
    rfl
  rw [e] at h
  exact h
theorem rng {t : Int} (h : 0 ≤ t ∧ t ≤ 1000) : Rng t := by
  unfold Rng
  omega
def tog (cols : List (List Int)) (t : Nat) : List (List Int) := (List.range t).map fun n => cols.map fun c => c.getD n 0
def colsD (cols : List (List Int)) : PyData := .list (cols.map lstI)
def T_worstarrivals_together : DTP := fun xs Q => match xs with
  | [a, .int k] => ∃ (cols : List (List Int)) (t : Nat), (a = colsD cols ∧ k = (t : Int) ∧ t ≤ 100 ∧ cols.length ≤ 8 ∧ ∀ c ∈ cols, c.length = t) ∧ Q (rowsD (tog cols t))
  | _ => False
theorem ok_together (t : Txt K mg) : Cl P w K mg base 1 "together" 2 T_worstarrivals_together := by
  have nb := t.nb
  refine cl_of t.d_together sc_together rfl (by intro xs Q h; unfold T_worstarrivals_together at h; split at h <;> first | rfl | exact h.elim) (fun f cdv A outer s H E hr => (dss_one (ds_ret (de_bty call_tuple_of od_tuple (by rfl) nb.tuple_ (by decide +kernel) (da_cons (de_lc (own := [("turn", 2)]) rfl sc_together.nd (di_range1 (by rfl) nb.range_ (da_cons (de_var 1 (pv 1)) da_nil)) (blkOk_by (by kernel_rfl)) (fun _ _ _ _ _ => (dw_name (i := 2) (pg_name (i := 2) sc_together.nd rfl (by first | exact .inl rfl | exact .inr rfl)) (by decide))) (fun _ _ _ _ _ => dts_nil) (fun _ _ _ _ _ => (de_bty call_tuple_of od_tuple (by rfl) nb.tuple_ (by decide +kernel) (da_cons (de_lc (own := [("comes", 3)]) rfl sc_together.nd (di_seq (de_var 0 (pv 0))) (blkOk_by (by kernel_rfl)) (fun _ _ _ _ _ => (dw_name (i := 3) (pg_name (i := 3) sc_together.nd rfl (by first | exact .inl rfl | exact .inr rfl)) (by decide))) (fun _ _ _ _ _ => dts_nil) (fun _ _ _ _ _ => (de_ix (de_var 3 (pv 3)) (de_var 2 (pv 2))))) da_nil)))) da_nil))))) (fun xs Q h => ?_)
  unfold T_worstarrivals_together at h
  split at h
  rotate_left
  · exact h.elim
  rename_i x y
  obtain ⟨cols, t, ⟨rfl, rfl, ht, hc8, hc⟩, h⟩ := h
  refine ⟨rng (by omega), ?_⟩
  refine ⟨by show (rangeD 0 ((t : Int)).toNat).length ≤ sizeLine; unfold rangeD; rw [List.length_map, List.length_range, Int.toNat_natCast]; exact Nat.le_of_lt (small1000 (by omega)), ?_⟩
  show compD _ _ _ _ (rangeD 0 ((t : Int)).toNat) _ _
  unfold rangeD
  rw [Int.toNat_natCast]
  refine comp_map (f := fun n => tupI (cols.map fun c => c.getD n 0)) rfl (fun n hn kk hk => ?_) ?_
  · have hn := List.mem_range.mp hn
    refine .t rfl ⟨by rw [List.length_map]; exact Nat.le_of_lt (small1000 (by omega)), comp_map (enc := lstI) (f := fun c => .int (c.getD n 0)) rfl (fun c hcm k2 hk2 => .t rfl ((itemAt_int (j := 0 + (n : Int)) (i := n) (xs := c.map .int) (Int.zero_add _) (row_at (by rw [hc c hcm]; exact hn)) _).mpr hk2)) ?_⟩
    have e : tupI (cols.map fun c => c.getD n 0) = .tuple (cols.map fun c => .int (c.getD n 0)) := by
      unfold tupI
      rw [List.map_map]
      rfl
    rw [e] at hk
    exact hk
  · have e : rowsD (tog cols t) = .tuple ((List.range t).map fun n => tupI (cols.map fun c => c.getD n 0)) := by
      unfold rowsD tog
      rw [List.map_map]
      rfl
    rw [e] at h
    exact h
def stCol (r : Rat) (t : Nat) : List Int := bySums ((List.range t).map fun n => (r * (((n + 1 : Nat) : Int) : Rat)).floor)
theorem bySums_len (xs : List Int) : (bySums xs).length = xs.length := by
  unfold bySums
  rw [List.length_map, List.length_zip, List.length_cons]
  omega
theorem stCol_len (r : Rat) (t : Nat) : (stCol r t).length = t := by
  unfold stCol
  rw [bySums_len, List.length_map, List.length_range]
def T_worstarrivals_steady : DTP := fun xs Q => match xs with
  | [a, .int k] => ∃ (B : List (Rat × Rat)) (t : Nat), (a = bdsD B ∧ k = (t : Int) ∧ t ≤ 100 ∧ B.length ≤ 8 ∧ ∀ p ∈ B, BdOk p) ∧ Q (rowsD (tog (B.map fun p => stCol p.1 t) t))
  | _ => False
theorem ok_steady (t : Txt K mg) : Cl P w K mg base 4 "steady" 2 T_worstarrivals_steady := by
  have nb := t.nb
  have c_by_sums := ok_by_sums (P := P) (w := w) (base := base) t
  have c_check_turns := ok_check_turns (P := P) (w := w) (base := base) t
  have c_floor := ok_floor (P := P) (w := w) (base := base) t
  have c_times := ok_times (P := P) (w := w) (base := base) t
  have c_together := ok_together (P := P) (w := w) (base := base) t
  have c_whole := ok_whole (P := P) (w := w) (base := base) t
  refine cl_of t.d_steady sc_steady rfl (by intro xs Q h; unfold T_worstarrivals_steady at h; split at h <;> first | rfl | exact h.elim) (fun f cdv A outer s H E hr => (dss_cons (ds_expr (de_callC c_check_turns hr (by decide) (by rfl) (da_cons (de_var 1 (pv 1)) da_nil)))
 (dss_cons (ds_setN (i := 2) sc_steady.nd rfl (by first | exact .inl rfl | exact .inr rfl) (dn_lst da_nil))
 (dss_cons (ds_for PassesOwn.never rfl (di_seq (de_var 0 (pv 0))) (dg_tup (n := 2) rfl (dgs_cons (dg_name (i := 3) (pg_name (i := 3) sc_steady.nd rfl (by first | exact .inl rfl | exact .inr rfl))) (dgs_cons (dg_name (i := 4) (pg_name (i := 4) sc_steady.nd rfl (by first | exact .inl rfl | exact .inr rfl))) dgs_nil)))
 (dss_one (ds_app 2 (pv 2) (de_callC c_by_sums hr (by decide) (by rfl) (da_cons (de_lc (own := [("n", 5)]) rfl sc_steady.nd (di_range2 (by rfl) nb.range_ (da_cons de_int (da_cons (de_addA (de_var 1 (pv 1)) de_int) da_nil))) (blkOk_by (by kernel_rfl)) (fun _ _ _ _ _ => (dw_name (i := 5) (pg_name (i := 5) sc_steady.nd rfl (by first | exact .inl rfl | exact .inr rfl)) (by decide))) (fun _ _ _ _ _ => dts_nil) (fun _ _ _ _ _ => (de_callC c_floor hr (by decide) (by rfl) (da_cons (de_callC c_times hr (by decide) (by rfl) (da_cons (de_var 3 (pv 3)) (da_cons (de_callC c_whole hr (by decide) (by rfl) (da_cons (de_var 5 (pv 5)) da_nil)) da_nil))) da_nil)))) da_nil)))))
 (dss_one (ds_ret (de_frz 2 (de_callC c_together hr (by decide) (by rfl) (da_cons (de_var 2 (pv 2)) (da_cons (de_var 1 (pv 1)) da_nil)))))))))) (fun xs Q h => ?_)
  unfold T_worstarrivals_steady at h
  split at h
  rotate_left
  · exact h.elim
  rename_i x y
  obtain ⟨B, t, ⟨rfl, rfl, ht, hB8, hB⟩, h⟩ := h
  refine ⟨t, ⟨rfl, ht⟩, Nat.zero_le _, fun fp => ?_⟩
  dsimp only [DL.putAll, DL.dgName, DL.dgCons, DL.dgNil, DL.dgTup, DL.asTup, List.map_cons, List.map_nil, List.cons_append, List.nil_append, List.replicate_succ, List.replicate_zero, List.length_cons, List.length_nil, Nat.reduceAdd, Nat.reduceSub, List.set_cons_zero, List.set_cons_succ]
  refine seq_of (fun ρ' => ∃ s3 s4 : Sl, ρ' = [.d (bdsD B), .d (.int (t : Int)), .o fp (.lst ((B.map fun p => stCol p.1 t).map lstI)), s3, s4, .un]) (fun N hN => ?_) (fun ρ' hR => ?_)
  · show forD _ _ _ (B.map bdD) _
    refine for_of (fun rest ρ => ∃ (C : List (List Int)) (s3 s4 : Sl), ρ = [.d (bdsD B), .d (.int (t : Int)), .o fp (.lst (C.map lstI)), s3, s4, .un] ∧ C ++ (rest.map fun p => stCol p.1 t) = (B.map fun p => stCol p.1 t) ∧ (∀ p ∈ rest, p ∈ B) ∧ C.length + rest.length ≤ 8) (fun a rest ρ N2 hN2 hI => ?_) (fun ρ hI => ?_) ⟨[], .un, .un, rfl, rfl, fun p hp => hp, by show 0 + _ ≤ 8; omega⟩
    · obtain ⟨C, s3, s4, rfl, hC, hrest, hlen⟩ := hI
      have hlen2 : C.length + (rest.length + 1) ≤ 8 := hlen
      have ha := hB a (hrest a (List.mem_cons_self ..))
      refine ⟨rfl, ⟨rng (by omega), rng (by omega)⟩, ?_⟩
      show (rangeD 1 ((t : Int) + 1 - 1).toNat).length ≤ sizeLine ∧ compD _ _ _ _ (rangeD 1 ((t : Int) + 1 - 1).toNat) _ _
      have et : ((t : Int) + 1 - 1).toNat = t := by omega
      rw [et]
      unfold rangeD
      refine ⟨by rw [List.length_map, List.length_range]; exact Nat.le_of_lt (small1000 (by omega)), comp_map (f := fun n => .int (a.1 * (((n + 1 : Nat) : Int) : Rat)).floor) rfl (fun n hn kk hk => ?_) ?_⟩
      · have hn := List.mem_range.mp hn
        have en : (1 : Int) + (n : Int) = ((n + 1 : Nat) : Int) := by omega
        refine .t rfl ?_
        dsimp only [DL.putAll, DL.dgName, DL.dgCons, DL.dgNil, DL.dgTup, DL.asTup, List.map_cons, List.map_nil, List.cons_append, List.nil_append, List.replicate_succ, List.replicate_zero, List.length_cons, List.length_nil, Nat.reduceAdd, Nat.reduceSub, List.set_cons_zero, List.set_cons_succ]
        rw [en]
        have s1 : tv 1000 ((((n + 1 : Nat) : Int)) : Rat) := tv_int (by omega)
        exact ⟨a.1, _, ⟨rfl, rfl, tv_sm ha.1.2 (by decide), tv_sm s1 (by decide)⟩, _, ⟨rfl, tv_sm (tv_mul (M := 1000) ha.1.2 (by omega)) (by decide)⟩, hk⟩
      · refine ⟨(List.range t).map fun n => (a.1 * (((n + 1 : Nat) : Int) : Rat)).floor, ⟨?_, by rw [List.length_map, List.length_range]; omega⟩, ?_⟩
        · unfold lstI
          rw [List.map_map]
          rfl
        · refine ⟨by rw [List.length_map]; exact small1000 (by omega), hN2 _ ⟨C ++ [stCol a.1 t], .d (fr a.1), .d (fr a.2), ?_, ?_, fun p hp => hrest p (List.mem_cons_of_mem _ hp), ?_⟩⟩
          · rw [List.map_append]
            rfl
          · rw [List.append_assoc]
            exact hC
          · rw [List.length_append, List.length_singleton]; omega
    · obtain ⟨C, s3, s4, rfl, hC, _, _⟩ := hI
      rw [List.map_nil, List.append_nil] at hC
      rw [hC] at *
      exact hN _ ⟨s3, s4, rfl⟩
  · obtain ⟨s3, s4, rfl⟩ := hR
    exact ⟨_, t, ⟨rfl, rfl, ht, by rw [List.length_map]; exact hB8, fun c hc => by
      obtain ⟨p, hp, rfl⟩ := List.mem_map.mp hc
      exact stCol_len _ _⟩, h⟩
def fuCol (p : Rat × Rat) (t : Nat) : List Int := bySums ((List.range t).map fun n => (p.2 + p.1 * (((n + 1 : Nat) : Int) : Rat)).floor)
theorem fuCol_len (p : Rat × Rat) (t : Nat) : (fuCol p t).length = t := by
  unfold fuCol
  rw [bySums_len, List.length_map, List.length_range]
def T_worstarrivals_all_at_once : DTP := fun xs Q => match xs with
  | [a, .int k] => ∃ (B : List (Rat × Rat)) (t : Nat), (a = bdsD B ∧ k = (t : Int) ∧ t ≤ 100 ∧ B.length ≤ 8 ∧ ∀ p ∈ B, BdOk p) ∧ Q (rowsD (tog (B.map fun p => fuCol p t) t))
  | _ => False
theorem ok_all_at_once (t : Txt K mg) : Cl P w K mg base 4 "all_at_once" 2 T_worstarrivals_all_at_once := by
  have nb := t.nb
  have c_added := ok_added (P := P) (w := w) (base := base) t
  have c_by_sums := ok_by_sums (P := P) (w := w) (base := base) t
  have c_check_turns := ok_check_turns (P := P) (w := w) (base := base) t
  have c_floor := ok_floor (P := P) (w := w) (base := base) t
  have c_times := ok_times (P := P) (w := w) (base := base) t
  have c_together := ok_together (P := P) (w := w) (base := base) t
  have c_whole := ok_whole (P := P) (w := w) (base := base) t
  refine cl_of t.d_all_at_once sc_all_at_once rfl (by intro xs Q h; unfold T_worstarrivals_all_at_once at h; split at h <;> first | rfl | exact h.elim) (fun f cdv A outer s H E hr => (dss_cons (ds_expr (de_callC c_check_turns hr (by decide) (by rfl) (da_cons (de_var 1 (pv 1)) da_nil)))
 (dss_cons (ds_setN (i := 2) sc_all_at_once.nd rfl (by first | exact .inl rfl | exact .inr rfl) (dn_lst da_nil))
 (dss_cons (ds_for PassesOwn.never rfl (di_seq (de_var 0 (pv 0))) (dg_tup (n := 2) rfl (dgs_cons (dg_name (i := 3) (pg_name (i := 3) sc_all_at_once.nd rfl (by first | exact .inl rfl | exact .inr rfl))) (dgs_cons (dg_name (i := 4) (pg_name (i := 4) sc_all_at_once.nd rfl (by first | exact .inl rfl | exact .inr rfl))) dgs_nil)))
 (dss_one (ds_app 2 (pv 2) (de_callC c_by_sums hr (by decide) (by rfl) (da_cons (de_lc (own := [("n", 5)]) rfl sc_all_at_once.nd (di_range2 (by rfl) nb.range_ (da_cons de_int (da_cons (de_addA (de_var 1 (pv 1)) de_int) da_nil))) (blkOk_by (by kernel_rfl)) (fun _ _ _ _ _ => (dw_name (i := 5) (pg_name (i := 5) sc_all_at_once.nd rfl (by first | exact .inl rfl | exact .inr rfl)) (by decide))) (fun _ _ _ _ _ => dts_nil) (fun _ _ _ _ _ => (de_callC c_floor hr (by decide) (by rfl) (da_cons (de_callC c_added hr (by decide) (by rfl) (da_cons (de_var 4 (pv 4)) (da_cons (de_callC c_times hr (by decide) (by rfl) (da_cons (de_var 3 (pv 3)) (da_cons (de_callC c_whole hr (by decide) (by rfl) (da_cons (de_var 5 (pv 5)) da_nil)) da_nil))) da_nil))) da_nil)))) da_nil)))))
 (dss_one (ds_ret (de_frz 2 (de_callC c_together hr (by decide) (by rfl) (da_cons (de_var 2 (pv 2)) (da_cons (de_var 1 (pv 1)) da_nil)))))))))) (fun xs Q h => ?_)
  unfold T_worstarrivals_all_at_once at h
  split at h
  rotate_left
  · exact h.elim
  rename_i x y
  obtain ⟨B, t, ⟨rfl, rfl, ht, hB8, hB⟩, h⟩ := h
  refine ⟨t, ⟨rfl, ht⟩, Nat.zero_le _, fun fp => ?_⟩
  dsimp only [DL.putAll, DL.dgName, DL.dgCons, DL.dgNil, DL.dgTup, DL.asTup, List.map_cons, List.map_nil, List.cons_append, List.nil_append, List.replicate_succ, List.replicate_zero, List.length_cons, List.length_nil, Nat.reduceAdd, Nat.reduceSub, List.set_cons_zero, List.set_cons_succ]
  refine seq_of (fun ρ' => ∃ s3 s4 : Sl, ρ' = [.d (bdsD B), .d (.int (t : Int)), .o fp (.lst ((B.map fun p => fuCol p t).map lstI)), s3, s4, .un]) (fun N hN => ?_) (fun ρ' hR => ?_)
  · show forD _ _ _ (B.map bdD) _
    refine for_of (fun rest ρ => ∃ (C : List (List Int)) (s3 s4 : Sl), ρ = [.d (bdsD B), .d (.int (t : Int)), .o fp (.lst (C.map lstI)), s3, s4, .un] ∧ C ++ (rest.map fun p => fuCol p t) = (B.map fun p => fuCol p t) ∧ (∀ p ∈ rest, p ∈ B) ∧ C.length + rest.length ≤ 8) (fun a rest ρ N2 hN2 hI => ?_) (fun ρ hI => ?_) ⟨[], .un, .un, rfl, rfl, fun p hp => hp, by show 0 + _ ≤ 8; omega⟩
    · obtain ⟨C, s3, s4, rfl, hC, hrest, hlen⟩ := hI
      have hlen2 : C.length + (rest.length + 1) ≤ 8 := hlen
      have ha := hB a (hrest a (List.mem_cons_self ..))
      refine ⟨rfl, ⟨rng (by omega), rng (by omega)⟩, ?_⟩
      show (rangeD 1 ((t : Int) + 1 - 1).toNat).length ≤ sizeLine ∧ compD _ _ _ _ (rangeD 1 ((t : Int) + 1 - 1).toNat) _ _
      have et : ((t : Int) + 1 - 1).toNat = t := by omega
      rw [et]
      unfold rangeD
      refine ⟨by rw [List.length_map, List.length_range]; exact Nat.le_of_lt (small1000 (by omega)), comp_map (f := fun n => .int (a.2 + a.1 * (((n + 1 : Nat) : Int) : Rat)).floor) rfl (fun n hn kk hk => ?_) ?_⟩
      · have hn := List.mem_range.mp hn
        have en : (1 : Int) + (n : Int) = ((n + 1 : Nat) : Int) := by omega
        refine .t rfl ?_
        dsimp only [DL.putAll, DL.dgName, DL.dgCons, DL.dgNil, DL.dgTup, DL.asTup, List.map_cons, List.map_nil, List.cons_append, List.nil_append, List.replicate_succ, List.replicate_zero, List.length_cons, List.length_nil, Nat.reduceAdd, Nat.reduceSub, List.set_cons_zero, List.set_cons_succ]
        rw [en]
        have s1 : tv 1000 ((((n + 1 : Nat) : Int)) : Rat) := tv_int (by omega)
        have s2 : tv (100 * 1000) (a.1 * (((n + 1 : Nat) : Int) : Rat)) := tv_mul (M := 1000) ha.1.2 (by omega)
        exact ⟨a.1, _, ⟨rfl, rfl, tv_sm ha.1.2 (by decide), tv_sm s1 (by decide)⟩, a.2, _, ⟨rfl, rfl, tv_sm ha.2.1 (by decide), tv_sm s2 (by decide)⟩, _, ⟨rfl, tv_sm (tv_add ha.2.1 s2) (by decide)⟩, hk⟩
      · refine ⟨(List.range t).map fun n => (a.2 + a.1 * (((n + 1 : Nat) : Int) : Rat)).floor, ⟨?_, by rw [List.length_map, List.length_range]; omega⟩, ?_⟩
        · unfold lstI
          rw [List.map_map]
          rfl
        · refine ⟨by rw [List.length_map]; exact small1000 (by omega), hN2 _ ⟨C ++ [fuCol a t], .d (fr a.1), .d (fr a.2), ?_, ?_, fun p hp => hrest p (List.mem_cons_of_mem _ hp), ?_⟩⟩
          · rw [List.map_append]
            rfl
          · rw [List.append_assoc]
            exact hC
          · rw [List.length_append, List.length_singleton]; omega
    · obtain ⟨C, s3, s4, rfl, hC, _, _⟩ := hI
      rw [List.map_nil, List.append_nil] at hC
      rw [hC] at *
      exact hN _ ⟨s3, s4, rfl⟩
  · obtain ⟨s3, s4, rfl⟩ := hR
    exact ⟨_, t, ⟨rfl, rfl, ht, by rw [List.length_map]; exact hB8, fun c hc => by
      obtain ⟨p, hp, rfl⟩ := List.mem_map.mp hc
      exact fuCol_len _ _⟩, h⟩
/-! ### two arrivals together, later ones, sums of a stream -/
def addR (A B : List (List Int)) : List (List Int) := (A.zip B).map fun p => heapsOf p.1 p.2
def T_worstarrivals_both : DTP := fun xs Q => match xs with
  | [a, c] => ∃ (m : Nat) (A B : List (List Int)), (a = rowsD A ∧ c = rowsD B ∧ m ≤ 8 ∧ ArOk m A ∧ ArOk m B ∧ A.length = B.length) ∧ Q (rowsD (addR A B))
  | _ => False
theorem ok_both (t : Txt K mg) : Cl P w K mg base 7 "both" 2 T_worstarrivals_both := by
  have nb := t.nb
  have c_is_rows := ok_is_rows (P := P) (w := w) (base := base) t
  refine cl_of t.d_both sc_both rfl (by intro xs Q h; unfold T_worstarrivals_both at h; split at h <;> first | rfl | exact h.elim) (fun f cdv A outer s H E hr => (dss_cons (ds_if (db_w (dw_or (db_not (db_val (de_callC c_is_rows hr (by decide) (by rfl) (da_cons (de_var 0 (pv 0)) da_nil)))) (dw_or (db_not (db_val (de_callC c_is_rows hr (by decide) (by rfl) (da_cons (de_var 1 (pv 1)) da_nil)))) (dw_or1 (db_cmp (op_neD hr.units) od_ne (de_lc (own := [("comes", 5)]) rfl sc_both.nd (di_seq (de_var 0 (pv 0))) (blkOk_by (by kernel_rfl)) (fun _ _ _ _ _ => (dw_name (i := 5) (pg_name (i := 5) sc_both.nd rfl (by first | exact .inl rfl | exact .inr rfl)) (by decide))) (fun _ _ _ _ _ => dts_nil) (fun _ _ _ _ _ => (de_blt call_len_seq od_len (by rfl) nb.len_ PySem.boot_len (da_cons (de_var 5 (pv 5)) da_nil)))) (de_lc (own := [("comes", 5)]) rfl sc_both.nd (di_seq (de_var 1 (pv 1))) (blkOk_by (by kernel_rfl)) (fun _ _ _ _ _ => (dw_name (i := 5) (pg_name (i := 5) sc_both.nd rfl (by first | exact .inl rfl | exact .inr rfl)) (by decide))) (fun _ _ _ _ _ => dts_nil) (fun _ _ _ _ _ => (de_blt call_len_seq od_len (by rfl) nb.len_ PySem.boot_len (da_cons (de_var 5 (pv 5)) da_nil)))) (nomark _)))))) (dss_one ds_never) dss_nil)
 (dss_cons (ds_setN (i := 2) sc_both.nd rfl (by first | exact .inl rfl | exact .inr rfl) (dn_lst da_nil))
 (dss_cons (ds_for PassesOwn.never rfl (di_zip2 (by rfl) nb.zip_ (da_cons (de_var 0 (pv 0)) (da_cons (de_var 1 (pv 1)) da_nil))) (dg_tup (n := 2) rfl (dgs_cons (dg_name (i := 3) (pg_name (i := 3) sc_both.nd rfl (by first | exact .inl rfl | exact .inr rfl))) (dgs_cons (dg_name (i := 4) (pg_name (i := 4) sc_both.nd rfl (by first | exact .inl rfl | exact .inr rfl))) dgs_nil)))
 (dss_one (ds_app 2 (pv 2) (de_bty call_tuple_of od_tuple (by rfl) nb.tuple_ (by decide +kernel) (da_cons (de_lc (own := [("first", 6), ("second", 7)]) rfl sc_both.nd (di_zip2 (by rfl) nb.zip_ (da_cons (de_var 3 (pv 3)) (da_cons (de_var 4 (pv 4)) da_nil))) (blkOk_by (by kernel_rfl)) (fun _ _ _ _ _ => (dw_tup (n := 2) rfl (dws_cons (dw_name (i := 6) (pg_name (i := 6) sc_both.nd rfl (by first | exact .inl rfl | exact .inr rfl)) (by decide)) (dws_cons (dw_name (i := 7) (pg_name (i := 7) sc_both.nd rfl (by first | exact .inl rfl | exact .inr rfl)) (by decide)) dws_nil)))) (fun _ _ _ _ _ => dts_nil) (fun _ _ _ _ _ => (de_addA (de_var 6 (pv 6)) (de_var 7 (pv 7))))) da_nil)))))
 (dss_one (ds_ret (de_frz 2 (de_bty call_tuple_of od_tuple (by rfl) nb.tuple_ (by decide +kernel) (da_cons (de_var 2 (pv 2)) da_nil))))))))) (fun xs Q h => ?_)
  unfold T_worstarrivals_both at h
  split at h
  rotate_left
  · exact h.elim
  rename_i x y
  obtain ⟨m, A, B, ⟨rfl, rfl, hm8, hA, hB, hAB⟩, h⟩ := h
  have hA1 := hA.1
  have eA : ∀ A : List (List Int), A.map (fun _ => PyData.int (m : Int)) = (List.replicate A.length (m : Int)).map .int := fun A => by rw [List.map_const', List.map_replicate]
  refine ⟨rows_ok hA hm8, .f (congrArg (! ·) (rows_idx hA)) ⟨rows_ok hB hm8, .f (congrArg (! ·) (rows_idx hB)) ?_⟩⟩
  refine ⟨by rw [List.length_map]; exact Nat.le_of_lt (small1000 (by omega)), comp_map (enc := tupI) (f := fun _ => .int (m : Int)) rfl (fun r hr kk hk => .t rfl ((congrArg (fun b => kk (some (.int b)) _) (by rw [List.length_map, (hA.2 r hr).1])).mpr hk)) ?_⟩
  refine ⟨by rw [List.length_map]; exact Nat.le_of_lt (small1000 (by omega)), comp_map (enc := tupI) (f := fun _ => .int (m : Int)) rfl (fun r hr kk hk => .t rfl ((congrArg (fun b => kk (some (.int b)) _) (by rw [List.length_map, (hB.2 r hr).1])).mpr hk)) ?_⟩
  rw [eA A, eA B]
  refine ⟨⟨shaped_ints _, shaped_ints _⟩, .f (by rw [eqv_ints, hAB, decide_eq_true rfl]; rfl) ?_⟩
  refine ⟨Nat.zero_le _, fun fp => ?_⟩
  dsimp only [DL.putAll, DL.dgName, DL.dgCons, DL.dgNil, DL.dgTup, DL.asTup, List.map_cons, List.map_nil, List.cons_append, List.nil_append, List.replicate_succ, List.replicate_zero, List.length_cons, List.length_nil, Nat.reduceAdd, Nat.reduceSub, List.set_cons_zero, List.set_cons_succ]
  refine seq_of (fun ρ' => ∃ s3 s4 : Sl, ρ' = [.d (rowsD A), .d (rowsD B), .o fp (.lst ((addR A B).map tupI)), s3, s4, .un, .un, .un]) (fun N hN => ?_) (fun ρ' hR => ?_)
  · show forD _ _ _ (pairD (A.map tupI) (B.map tupI)) _
    rw [pairD_map]
    refine for_of (fun rest ρ => ∃ (C : List (List Int)) (s3 s4 : Sl), ρ = [.d (rowsD A), .d (rowsD B), .o fp (.lst (C.map tupI)), s3, s4, .un, .un, .un] ∧ C ++ (rest.map fun p => heapsOf p.1 p.2) = addR A B ∧ (∀ p ∈ rest, p ∈ A.zip B) ∧ C.length + rest.length ≤ 200) (fun a rest ρ N2 hN2 hI => ?_) (fun ρ hI => ?_) ⟨[], .un, .un, rfl, rfl, fun p hp => hp, by rw [List.length_zip]; show 0 + _ ≤ 200; omega⟩
    · obtain ⟨C, s3, s4, rfl, hC, hrest, hlen⟩ := hI
      have hlen2 : C.length + (rest.length + 1) ≤ 200 := hlen
      have ha := hrest a (List.mem_cons_self ..)
      have h1 := (hA.2 _ (List.of_mem_zip ha).1).1
      have h2 := (hB.2 _ (List.of_mem_zip ha).2).1
      refine ⟨rfl, ?_⟩
      dsimp only [DL.putAll, DL.dgName, DL.dgCons, DL.dgNil, DL.dgTup, DL.asTup, List.map_cons, List.map_nil, List.cons_append, List.nil_append, List.replicate_succ, List.replicate_zero, List.length_cons, List.length_nil, Nat.reduceAdd, Nat.reduceSub, List.set_cons_zero, List.set_cons_succ]
      have e1 : (.tuple ((a.1.zip a.2).map fun (p : Int × Int) => .int (p.1 + p.2)) : PyData) = tupI (heapsOf a.1 a.2) := sum_rows (h := fun x => x = tupI (heapsOf a.1 a.2)) a.1 a.2 rfl
      show _ ∧ compD _ _ _ _ (pairD (a.1.map .int) (a.2.map .int)) _ _
      rw [pairD_map]
      refine ⟨by rw [List.length_map, List.length_zip]; exact Nat.le_of_lt (small1000 (by omega)), comp_map (f := fun (p : Int × Int) => .int (p.1 + p.2)) rfl (fun p hp kk hk => ⟨rfl, .t rfl hk⟩) ?_⟩
      refine ⟨by rw [List.length_map]; exact small1000 (by omega), ?_⟩
      rw [e1]
      refine hN2 _ ⟨C ++ [heapsOf a.1 a.2], .d (tupI a.1), .d (tupI a.2), ?_, ?_, fun p hp => hrest p (List.mem_cons_of_mem _ hp), ?_⟩
      · rw [List.map_append]
        rfl
      · rw [List.append_assoc]
        exact hC
      · rw [List.length_append, List.length_singleton]; omega
    · obtain ⟨C, s3, s4, rfl, hC, _, _⟩ := hI
      rw [List.map_nil, List.append_nil] at hC
      rw [hC]
      exact hN _ ⟨s3, s4, rfl⟩
  · obtain ⟨s3, s4, rfl⟩ := hR
    exact h
def latR (m n : Nat) (A : List (List Int)) : List (List Int) := List.replicate n (List.replicate m 0) ++ A
theorem flat1 {α : Type} (x : α) : ∀ n : Nat, (List.replicate n [x]).flatten = List.replicate n x
  | 0 => rfl
  | n + 1 => by rw [List.replicate_succ, List.flatten_cons, flat1 x n, List.replicate_succ]; rfl
theorem canLay_map {α : Type} {f : α → PyData} (h : ∀ a, (f a).canLay0 = true) : ∀ l : List α, PyData.canLayAll0 (l.map f) = true
  | [] => rfl
  | a :: l => by rw [List.map_cons, PyData.canLayAll0, h a, canLay_map h l]; rfl
theorem depth_map {α : Type} {f : α → PyData} {k : Nat} (h : ∀ a, (f a).depth ≤ k) : ∀ l : List α, PyData.depthAll (l.map f) ≤ k
  | [] => Nat.zero_le _
  | a :: l => by
    rw [List.map_cons, PyData.depthAll]
    exact Nat.max_le.mpr ⟨h a, depth_map h l⟩
theorem depth_tup {xs : List PyData} {k : Nat} (h : PyData.depthAll xs ≤ k) : (PyData.tuple xs).depth ≤ k + 1 := by
  rw [PyData.depth]
  omega
theorem depth_lst {xs : List PyData} {k : Nat} (h : PyData.depthAll xs ≤ k) : (PyData.list xs).depth ≤ k + 1 := by
  rw [PyData.depth]
  omega
theorem lay_tupI (l : List Int) : (tupI l).canLay0 = true := canLay_map (f := PyData.int) (fun _ => rfl) l
theorem dep_tupI (l : List Int) : (tupI l).depth ≤ 1 := depth_tup (depth_map (f := PyData.int) (fun _ => Nat.le_of_eq (by rw [PyData.depth])) l)
theorem lay_rows (A : List (List Int)) : (rowsD A).canLay0 = true := canLay_map lay_tupI A
theorem dep_rows (A : List (List Int)) : (rowsD A).depth ≤ 2 := depth_tup (depth_map dep_tupI A)
theorem shaped_of {d : PyData} (h1 : d.canLay0 = true) (h2 : d.depth ≤ 64) : SeqAt.shaped d = true := by
  unfold SeqAt.shaped
  rw [h1, decide_eq_true h2]
  rfl
theorem shaped_rows (A : List (List Int)) : SeqAt.shaped (rowsD A) = true := shaped_of (lay_rows A) (Nat.le_trans (dep_rows A) (by decide))
def T_worstarrivals_later : DTP := fun xs Q => match xs with
  | [a, .int k] => ∃ (m n : Nat) (A : List (List Int)), (a = rowsD A ∧ k = (n : Int) ∧ m ≤ 8 ∧ ArOk m A ∧ A.length ≤ 100 ∧ n ≤ 100 ∧ (A = [] → n = 0)) ∧ Q (rowsD (latR m n A))
  | _ => False
theorem ok_later (t : Txt K mg) : Cl P w K mg base 3 "later" 2 T_worstarrivals_later := by
  have nb := t.nb
  have c_is_index := ok_is_index (P := P) (w := w) (base := base) t
  have c_MOST_TURNS := t.c_MOST_TURNS
  refine cl_of t.d_later sc_later rfl (by intro xs Q h; unfold T_worstarrivals_later at h; split at h <;> first | rfl | exact h.elim) (fun f cdv A outer s H E hr => (dss_cons (ds_if (db_w (dw_or (db_not (db_val (de_callC c_is_index hr (by decide) (by rfl) (da_cons (de_var 1 (pv 1)) da_nil)))) (dw_or1 (db_w (dw_and (db_cmp (op_eqD hr.units) od_eq (de_var 0 (pv 0)) (de_tup da_nil) (nomark _)) (dw_and1 (db_cmp op_gt od_gt (de_var 1 (pv 1)) de_int (nomark _)))))))) (dss_one ds_never) dss_nil)
 (dss_cons (ds_if (db_cmp (op_eqD hr.units) od_eq (de_var 0 (pv 0)) (de_tup da_nil) (nomark _)) (dss_one (ds_ret (de_tup da_nil))) dss_nil)
 (dss_cons (ds_if (db_cmp op_gt od_gt (de_addA (de_var 1 (pv 1)) (de_blt call_len_seq od_len (by rfl) nb.len_ PySem.boot_len (da_cons (de_var 0 (pv 0)) da_nil))) (de_kc c_MOST_TURNS (by rfl)) (nomark _)) (dss_one ds_never) dss_nil)
 (dss_one (ds_ret (de_addA (de_mulA (de_tup (da_cons (de_mulA (de_tup (da_cons de_int da_nil)) (de_blt call_len_seq od_len (by rfl) nb.len_ PySem.boot_len (da_cons (de_ix (de_var 0 (pv 0)) de_int) da_nil))) da_nil)) (de_var 1 (pv 1))) (de_var 0 (pv 0))))))))) (fun xs Q h => ?_)
  unfold T_worstarrivals_later at h
  split at h
  rotate_left
  · exact h.elim
  rename_i x y
  obtain ⟨m, n, A, ⟨rfl, rfl, hm8, hA, hA1, hn, hAn⟩, h⟩ := h
  have hsh : SeqAt.shaped (rowsD A) = true := shaped_rows A
  refine ⟨trivial, .f (congrArg (! ·) (decide_eq_true (Int.natCast_nonneg n))) ⟨Nat.zero_le _, ⟨hsh, rfl⟩, ?_⟩⟩
  cases A with
  | nil =>
    have hn0 := hAn rfl
    subst hn0
    refine .t rfl (.f (decide_eq_false (by omega)) ?_)
    refine ⟨Nat.zero_le _, ⟨hsh, rfl⟩, .t rfl ⟨Nat.zero_le _, h⟩⟩
  | cons r A =>
    refine .f rfl (.f rfl ⟨Nat.zero_le _, ⟨hsh, rfl⟩, .f rfl ?_⟩)
    dsimp only [DL.dNext]
    refine .f (decide_eq_false (by rw [List.length_map]; omega)) ?_
    dsimp only [DL.dNext]
    have hr := (hA.2 r (List.mem_cons_self ..)).1
    refine ⟨by show 1 ≤ sizeLine; decide, (itemAt_int (j := 0) rfl (x := tupI r) rfl _).mpr ⟨⟨by omega, by rw [List.length_map]; omega, by decide⟩, ?_⟩⟩
    refine ⟨by show 1 ≤ sizeLine; decide, ⟨by omega, by omega, by show 1 ≤ 1000; decide⟩, ?_⟩
    have e : PyData.tuple ((List.replicate ((n : Int)).toNat [PyData.tuple (List.replicate (((r.map PyData.int).length : Int)).toNat [PyData.int 0]).flatten]).flatten ++ (r :: A).map tupI) = rowsD (latR m n (r :: A)) := by
      rw [List.length_map, hr, Int.toNat_natCast, Int.toNat_natCast, zeros, flat1]
      unfold rowsD latR
      rw [List.map_append, List.map_replicate]
    refine ⟨?_, Eq.mp (congrArg Q e.symm) h⟩
    rw [flat1, List.length_replicate, Int.toNat_natCast, List.length_map]
    exact Nat.le_of_lt (small1000 (by omega))
def T_worstarrivals_total_of : DTP := fun xs Q => match xs with
  | [a, .int k] => ∃ (m j : Nat) (A : List (List Int)), (a = rowsD A ∧ k = (j : Int) ∧ m ≤ 8 ∧ ArOk m A ∧ j < m) ∧ Q (.int (col A j).sum)
  | _ => False
theorem ok_total_of (t : Txt K mg) : Cl P w K mg base 3 "total_of" 2 T_worstarrivals_total_of := by
  have nb := t.nb
  have c_is_index := ok_is_index (P := P) (w := w) (base := base) t
  refine cl_of t.d_total_of sc_total_of rfl (by intro xs Q h; unfold T_worstarrivals_total_of at h; split at h <;> first | rfl | exact h.elim) (fun f cdv A outer s H E hr => (dss_cons (ds_if (db_w (dw_or (db_not (db_val (de_callC c_is_index hr (by decide) (by rfl) (da_cons (de_var 1 (pv 1)) da_nil)))) (dw_or1 (db_val (de_blt (cr_any rfl) od_bools (by rfl) nb.any_ (by decide +kernel) (da_cons (de_lc (own := [("comes", 2)]) rfl sc_total_of.nd (di_seq (de_var 0 (pv 0))) (blkOk_by (by kernel_rfl)) (fun _ _ _ _ _ => (dw_name (i := 2) (pg_name (i := 2) sc_total_of.nd rfl (by first | exact .inl rfl | exact .inr rfl)) (by decide))) (fun _ _ _ _ _ => dts_nil) (fun _ _ _ _ _ => (de_cmp op_ge od_ge (de_var 1 (pv 1)) (de_blt call_len_seq od_len (by rfl) nb.len_ PySem.boot_len (da_cons (de_var 2 (pv 2)) da_nil)) (nomark _)))) da_nil)))))) (dss_one ds_never) dss_nil)
 (dss_one (ds_ret (de_blt (cr_sumA rfl) od_sum (by rfl) nb.sum_ (by decide +kernel) (da_cons (de_lc (own := [("comes", 2)]) rfl sc_total_of.nd (di_seq (de_var 0 (pv 0))) (blkOk_by (by kernel_rfl)) (fun _ _ _ _ _ => (dw_name (i := 2) (pg_name (i := 2) sc_total_of.nd rfl (by first | exact .inl rfl | exact .inr rfl)) (by decide))) (fun _ _ _ _ _ => dts_nil) (fun _ _ _ _ _ => (de_ix (de_var 2 (pv 2)) (de_var 1 (pv 1))))) da_nil)))))) (fun xs Q h => ?_)
  unfold T_worstarrivals_total_of at h
  split at h
  rotate_left
  · exact h.elim
  rename_i x y
  obtain ⟨m, j, A, ⟨rfl, rfl, hm8, hA, hj⟩, h⟩ := h
  have hA1 := hA.1
  refine ⟨trivial, .f (congrArg (! ·) (decide_eq_true (Int.natCast_nonneg j))) ⟨by rw [List.length_map]; exact Nat.le_of_lt (small1000 (by omega)), comp_map (enc := tupI) (f := fun _ => .bool false) rfl (fun r hr kk hk => .t rfl ((congrArg (fun b => kk (some (.bool b)) _) (decide_eq_false (by rw [List.length_map, (hA.2 r hr).1]; omega))).mpr hk)) ?_⟩⟩
  dsimp only [DL.dNil]
  refine (oBools_map (fun bs => bs.any id) (fun _ => false) A _).mpr ?_
  refine .f (any_false A) ?_
  refine ⟨by rw [List.length_map]; exact Nat.le_of_lt (small1000 (by omega)), comp_map (enc := tupI) (f := fun r => .int (r.getD j 0)) rfl (fun r hr kk hk => .t rfl ((itemAt_nat (xs := r.map .int) (row_at (by rw [(hA.2 r hr).1]; exact hj)) _).mpr hk)) ?_⟩
  dsimp only [DL.dNil]
  exact (oSum_map (fun r => r.getD j 0) A _).mpr h
/-! ### arrivals that go on -/
def up0 (q : Rat) : Rat := if 0 < q then q else 0
def goB (r : Rat) : Rat → List Int → Rat
  | best, [] => best
  | best, c :: cs => goB r (up0 best + (c : Rat) - r) cs
def goX (r b : Rat) : Nat → Rat → List Int
  | 0, _ => []
  | n + 1, best => (b + r - up0 best).floor :: goX r b n (up0 best + ((b + r - up0 best).floor : Rat) - r)
theorem tv_up0 {N : Nat} {x : Rat} (h : tv N x) : tv N (up0 x) := by
  unfold up0
  split
  · exact h
  · exact tv_zero N
def T_worstarrivals_goes_on : DTP := fun xs Q => match xs with
  | [a, c, d, .int k] => ∃ (p : Rat × Rat) (cs : List Int) (t : Nat), (a = fr p.1 ∧ c = fr p.2 ∧ d = lstI cs ∧ k = (t : Int) ∧ BdOk p ∧ cs.length ≤ t ∧ t ≤ 100 ∧ ∀ x ∈ cs, 0 ≤ x ∧ x ≤ 1000) ∧
      Q (lstI (cs ++ goX p.1 p.2 (t - cs.length) (goB p.1 0 cs)))
  | _ => False
theorem bySums_get (F : Nat → Int) {t i : Nat} (h : i < t) : (bySums ((List.range t).map F))[i]? = some (F i - if i = 0 then 0 else F (i - 1)) := by
  unfold bySums
  have hl : i < (((0 :: (List.range t).map F).zip ((List.range t).map F)).map fun p => p.2 - p.1).length := by rw [List.length_map, List.length_zip, List.length_cons, List.length_map, List.length_range]; omega
  rw [List.getElem?_eq_getElem hl, List.getElem_map, List.getElem_zip]
  cases i with
  | zero => simp
  | succ i => simp
theorem stCol_get (r : Rat) {t i : Nat} (h : i < t) : (stCol r t)[i]? = some ((r * (((i + 1 : Nat) : Int) : Rat)).floor - (r * ((i : Int) : Rat)).floor) := by
  unfold stCol
  rw [bySums_get _ h]
  congr 1
  cases i with
  | zero =>
    have : (r * (((0 : Nat) : Int) : Rat)).floor = 0 := by
      have e : r * (((0 : Nat) : Int) : Rat) = ((0 : Int) : Rat) := by
        show r * ((0 : Int) : Rat) = _
        have : ((0 : Int) : Rat) = 0 := rfl
        rw [this]; grind
      rw [e, Rat.floor_intCast]
    rw [this]
    rfl
  | succ i => simp
theorem rt_le {q : Rat} (h : RtOk q) : q ≤ ((100 : Int) : Rat) := (tv_le h.2).1
theorem cast_succ (n : Nat) : (((n + 1 : Nat) : Int) : Rat) = ((n : Int) : Rat) + 1 := by
  have : ((n + 1 : Nat) : Int) = (n : Int) + 1 := by omega
  rw [this, Rat.intCast_add]
  rfl
theorem floor_step {x y : Rat} (h0 : 0 ≤ y) : x.floor ≤ (x + y).floor := Rat.le_floor_iff.mpr (by have := Rat.floor_le x; grind)
theorem floor_step2 {x y : Rat} {k : Int} (h : y ≤ (k : Rat)) : (x + y).floor ≤ x.floor + k := by
  have : (x + y).floor < x.floor + k + 1 := Rat.floor_lt_iff.mpr (by
    have h1 := Rat.lt_floor_add_one x
    rw [Rat.intCast_add] at h1 ⊢
    rw [Rat.intCast_add]
    grind)
  omega
theorem stCol_ok {r : Rat} (h : RtOk r) (t : Nat) : ∀ x ∈ stCol r t, 0 ≤ x ∧ x ≤ 1000 := fun x hx => by
  obtain ⟨i, hi, rfl⟩ := List.mem_iff_getElem.mp hx
  have hi2 : i < t := by rw [stCol_len] at hi; exact hi
  have e := stCol_get r hi2
  rw [List.getElem?_eq_getElem hi] at e
  injection e with e
  rw [e, cast_succ]
  have e2 : r * (((i : Int) : Rat) + 1) = r * ((i : Int) : Rat) + r := by grind
  rw [e2]
  have h1 := floor_step (x := r * ((i : Int) : Rat)) h.1
  have h2 := floor_step2 (x := r * ((i : Int) : Rat)) (k := 100) (rt_le h)
  omega
theorem tog_col {cols : List (List Int)} {t k : Nat} {c : List Int} (hk : cols[k]? = some c) (hc : c.length = t) : col (tog cols t) k = c := by
  unfold col tog
  rw [List.map_map]
  refine List.ext_getElem (by rw [List.length_map, List.length_range, hc]) fun i h1 h2 => ?_
  rw [List.getElem_map, List.getElem_range]
  show ((cols.map fun c => c.getD i 0).getD k 0) = c[i]
  rw [List.getD_eq_getElem?_getD, List.getElem?_map, hk]
  show c.getD i 0 = c[i]
  rw [List.getD_eq_getElem?_getD, List.getElem?_eq_getElem h2]
  rfl
def spR (p : Rat × Rat) (t n : Nat) : List Int := stCol p.1 n ++ goX p.1 p.2 (t - n) (goB p.1 0 (stCol p.1 n))
theorem goX_len (r b : Rat) : ∀ (n : Nat) (q : Rat), (goX r b n q).length = n
  | 0, _ => rfl
  | n + 1, q => by
    show (goX r b n _).length + 1 = _
    rw [goX_len r b n]
theorem spR_len (p : Rat × Rat) {t n : Nat} (h : n ≤ t) : (spR p t n).length = t := by
  unfold spR
  rw [List.length_append, stCol_len, goX_len]
  omega
def T_worstarrivals_spread_out : DTP := fun xs Q => match xs with
  | [a, .int k, .int l] => ∃ (B : List (Rat × Rat)) (t n : Nat), (a = bdsD B ∧ k = (t : Int) ∧ l = (n : Int) ∧ n ≤ t ∧ t ≤ 100 ∧ B.length ≤ 8 ∧ ∀ p ∈ B, BdOk p) ∧ Q (rowsD (tog (B.map fun p => spR p t n) t))
  | _ => False
/-! ### plain: what keeps a bound at one stream -/
def Kp (p : Rat × Rat) (cs : List Int) : Prop := ∀ i e, i < e → e ≤ cs.length → pot p.1 cs e - pot p.1 cs i ≤ p.2
theorem fb_none {B : List (Rat × Rat)} {A : List (List Int)} {o : Option (Nat × Nat × Nat)} (h : ∀ k p, B[k]? = some p → Kp p (col A k)) (ho : FB B A o) : o = none := by
  cases o with
  | none => rfl
  | some x =>
    obtain ⟨k, i, e⟩ := x
    obtain ⟨⟨p, h1, h2, h3, h4⟩, _⟩ := ho
    have := h k p h1 i e h2 (by rw [col_len]; exact h3)
    grind
theorem kp_none {B : List (Rat × Rat)} {A : List (List Int)} (h : FB B A none) {k : Nat} {p : Rat × Rat} (hp : B[k]? = some p) : Kp p (col A k) := fun i e h1 h2 => by
  have := h k i e
  rw [col_len] at h2
  have h3 : ¬ p.2 < pot p.1 (col A k) e - pot p.1 (col A k) i := fun g => this ⟨p, hp, h1, h2, g⟩
  grind
theorem sum_nonneg : ∀ {cs : List Int}, (∀ c ∈ cs, 0 ≤ c) → 0 ≤ cs.sum
  | [], _ => by simp
  | c :: cs, h => by
    have h1 := h c (List.mem_cons_self ..)
    have h2 := sum_nonneg (cs := cs) fun d hd => h d (List.mem_cons_of_mem _ hd)
    rw [List.sum_cons]
    omega
theorem sum_split (cs : List Int) (t : Nat) : cs.sum = (cs.take t).sum + (cs.drop t).sum := by
  have h := congrArg List.sum (List.take_append_drop t cs)
  rw [List.sum_append] at h
  exact h.symm
theorem sum_zero_take {cs : List Int} (h : ∀ c ∈ cs, 0 ≤ c) (h0 : cs.sum = 0) (t : Nat) : (cs.take t).sum = 0 := by
  have h1 := sum_nonneg (cs := cs.take t) fun c hc => h c (List.mem_of_mem_take hc)
  have h2 := sum_nonneg (cs := cs.drop t) fun c hc => h c (List.mem_of_mem_drop hc)
  have h3 := sum_split cs t
  omega
theorem kp_lb {A : List (List Int)} {k : Nat} {p : Rat × Rat} (hc : ∀ c ∈ col A k, 0 ≤ c) (h : LB A k p) : Kp p (col A k) := by
  obtain ⟨b, hb, e⟩ := h
  intro i n hi hn
  rw [e]
  split
  · rename_i q
    have : pot p.1 (col A k) n - pot p.1 (col A k) i = 0 := by
      unfold pot
      rw [q.1, sum_zero_take hc q.2, sum_zero_take hc q.2]
      grind
    rw [this]
    grind
  · exact hb.2.1 i n hi hn
theorem lb_pos {A : List (List Int)} {k : Nat} {p : Rat × Rat} (h : LB A k p) : 0 ≤ p.2 := by
  obtain ⟨b, hb, e⟩ := h
  rw [e]
  have := hb.1
  split <;> grind
theorem pot_tw2 {r : Rat} {cs : List Int} {N M : Nat} (hr : tv 100 r) (t : Nat) (hc : (cs.take t).sum.natAbs ≤ N) (ht : t ≤ M) : tv (N + 100 * M) (pot r cs t) :=
  tv_sub (tv_int hc) (tv_mul (k := (t : Int)) (M := M) hr (by omega))
/-! sums -/
theorem getD_col (A : List (List Int)) (k : Nat) : ∀ i, (col A k).getD i 0 = (A.getD i []).getD k 0 := fun i => by
  unfold col
  rw [List.getD_eq_getElem?_getD, List.getElem?_map, List.getD_eq_getElem?_getD (l := A)]
  cases A[i]? with
  | none => rfl
  | some r => rfl
theorem heaps_get {l c : List Int} {m i : Nat} (hl : l.length = m) (hc : c.length = m) (hi : i < m) : (heapsOf l c).getD i 0 = l.getD i 0 + c.getD i 0 := zip_get hl hc hi _
theorem addR_take {m k : Nat} (hk : k < m) : ∀ {A B : List (List Int)} (t : Nat), A.length = B.length → (∀ r ∈ A, r.length = m) → (∀ r ∈ B, r.length = m) → ((col (addR A B) k).take t).sum = ((col A k).take t).sum + ((col B k).take t).sum
  | [], [], t, _, _, _ => by simp [addR, col]
  | [], _ :: _, t, h, _, _ => by simp at h
  | _ :: _, [], t, h, _, _ => by simp at h
  | a :: A, b :: B, 0, _, _, _ => by simp
  | a :: A, b :: B, t + 1, h, hA, hB => by
    have ih := addR_take hk (A := A) (B := B) t (by simpa using h) (fun r hr => hA r (List.mem_cons_of_mem _ hr)) (fun r hr => hB r (List.mem_cons_of_mem _ hr))
    have e : (heapsOf a b).getD k 0 = a.getD k 0 + b.getD k 0 := heaps_get (hA a (List.mem_cons_self ..)) (hB b (List.mem_cons_self ..)) hk
    show (((heapsOf a b).getD k 0 :: col (addR A B) k).take (t + 1)).sum = ((a.getD k 0 :: col A k).take (t + 1)).sum + ((b.getD k 0 :: col B k).take (t + 1)).sum
    rw [List.take_succ_cons, List.take_succ_cons, List.take_succ_cons, List.sum_cons, List.sum_cons, List.sum_cons, ih, e]
    omega
theorem addR_len {A B : List (List Int)} (h : A.length = B.length) : (addR A B).length = A.length := by
  unfold addR
  rw [List.length_map, List.length_zip]
  omega
theorem kp_add {m k : Nat} (hk : k < m) {A B : List (List Int)} {p q : Rat × Rat} (h : A.length = B.length) (hA : ∀ r ∈ A, r.length = m) (hB : ∀ r ∈ B, r.length = m) (h1 : Kp p (col A k)) (h2 : Kp q (col B k)) : Kp (p.1 + q.1, p.2 + q.2) (col (addR A B) k) := by
  intro i e hi he
  rw [col_len, addR_len h] at he
  have a := h1 i e hi (by rw [col_len]; exact he)
  have b := h2 i e hi (by rw [col_len, ← h]; exact he)
  have c : ∀ t, pot (p.1 + q.1) (col (addR A B) k) t = pot p.1 (col A k) t + pot q.1 (col B k) t := fun t => by
    unfold pot
    rw [addR_take hk t h hA hB, Rat.intCast_add]
    grind
  show pot (p.1 + q.1) _ e - pot (p.1 + q.1) _ i ≤ p.2 + q.2
  rw [c, c]
  grind
/-! later ones, parts -/
theorem sum_rep0 (n : Nat) : (List.replicate n (0 : Int)).sum = 0 := by
  induction n with
  | zero => rfl
  | succ n ih => rw [List.replicate_succ, List.sum_cons, ih]; rfl
theorem pot_lat (r : Rat) (cs : List Int) (n t : Nat) : pot r (List.replicate n 0 ++ cs) t = pot r cs (t - n) - r * (((min t n : Nat) : Int) : Rat) := by
  unfold pot
  rw [List.take_append, List.sum_append, List.take_replicate, sum_rep0, List.length_replicate]
  have e : ((t : Int) : Rat) = (((t - n : Nat) : Int) : Rat) + (((min t n : Nat) : Int) : Rat) := by
    rw [← Rat.intCast_add]
    congr 1
    omega
  rw [e]
  have : ((0 + (cs.take (t - n)).sum : Int)) = (cs.take (t - n)).sum := by omega
  rw [this]
  grind
theorem cast_le {a b : Nat} (h : a ≤ b) : ((a : Int) : Rat) ≤ ((b : Int) : Rat) := Rat.intCast_le_intCast.mpr (by omega)
theorem mul_le {r x y : Rat} (h0 : 0 ≤ r) (h : x ≤ y) : r * x ≤ r * y := Rat.mul_le_mul_of_nonneg_left h h0
theorem kp_later {p : Rat × Rat} {cs : List Int} (n : Nat) (h0 : 0 ≤ p.1) (h1 : 0 ≤ p.2) (h : Kp p cs) : Kp p (List.replicate n 0 ++ cs) := by
  intro i e hi he
  rw [List.length_append, List.length_replicate] at he
  rw [pot_lat, pot_lat]
  have h2 := mul_le h0 (cast_le (show min i n ≤ min e n by omega))
  rcases Nat.lt_or_ge (i - n) (e - n) with q | q
  · have := h (i - n) (e - n) q (by omega)
    grind
  · have e1 : e - n = i - n := by omega
    rw [e1]
    grind
theorem col_lat {m n k : Nat} {A : List (List Int)} : col (latR m n A) k = List.replicate n 0 ++ col A k := by
  unfold col latR
  rw [List.map_append, List.map_replicate]
  congr 2
  rw [List.getD_eq_getElem?_getD, List.getElem?_replicate]
  split <;> rfl
theorem kp_drop {p : Rat × Rat} {cs : List Int} (n : Nat) (h : Kp p cs) : Kp p (cs.drop n) := by
  intro i e hi he
  rw [List.length_drop] at he
  have a := h (n + i) (n + e) (by omega) (by omega)
  have c : ∀ t, pot p.1 (cs.drop n) t = pot p.1 cs (n + t) - pot p.1 cs n := fun t => by
    unfold pot
    rw [List.take_add, List.sum_append, Rat.intCast_add]
    have : (((n + t : Nat) : Int) : Rat) = ((n : Int) : Rat) + ((t : Int) : Rat) := by
      rw [← Rat.intCast_add]
      rfl
    rw [this]
    grind
  rw [c, c]
  grind
theorem kp_take {p : Rat × Rat} {cs : List Int} (n : Nat) (h : Kp p cs) : Kp p (cs.take n) := by
  intro i e hi he
  rw [List.length_take] at he
  have a := h i e hi (by omega)
  have c : ∀ t, t ≤ n → pot p.1 (cs.take n) t = pot p.1 cs t := fun t ht => by
    unfold pot
    rw [List.take_take, Nat.min_eq_left ht]
  rw [c e (by omega), c i (by omega)]
  exact a
theorem col_drop (A : List (List Int)) (n k : Nat) : col (A.drop n) k = (col A k).drop n := by
  unfold col
  rw [List.map_drop]
theorem col_take (A : List (List Int)) (n k : Nat) : col (A.take n) k = (col A k).take n := by
  unfold col
  rw [List.map_take]
/-! steady ones -/
theorem st_sum (r : Rat) (T : Nat) : ∀ t, t ≤ T → ((stCol r T).take t).sum = (r * ((t : Int) : Rat)).floor
  | 0, _ => by
    have : r * (((0 : Nat) : Int) : Rat) = ((0 : Int) : Rat) := by
      show r * ((0 : Int) : Rat) = _
      have : ((0 : Int) : Rat) = 0 := rfl
      rw [this]; grind
    rw [this, Rat.floor_intCast]
    rfl
  | t + 1, h => by
    have hl : t < (stCol r T).length := by rw [stCol_len]; omega
    rw [sum_take_succ hl, st_sum r T t (by omega)]
    have e := stCol_get r (t := T) (i := t) (by omega)
    rw [List.getElem?_eq_getElem hl] at e
    injection e with e
    rw [e]
    omega
theorem kp_st {p : Rat × Rat} (T : Nat) (hb : 1 ≤ p.2 ∨ (p.1 = 0 ∧ p.2 = 0)) : Kp p (stCol p.1 T) := by
  intro i e hi he
  rw [stCol_len] at he
  unfold pot
  rw [st_sum _ _ _ he, st_sum _ _ _ (by omega)]
  rcases hb with q | ⟨q1, q2⟩
  · have a := Rat.floor_le (p.1 * ((e : Int) : Rat))
    have b := Rat.lt_floor_add_one (p.1 * ((i : Int) : Rat))
    rw [Rat.intCast_add] at b
    have : ((1 : Int) : Rat) = 1 := rfl
    grind
  · rw [q1, q2]
    have z : ∀ x : Rat, (0 : Rat) * x = ((0 : Int) : Rat) := fun x => by
      have : ((0 : Int) : Rat) = 0 := rfl
      rw [this]; grind
    rw [z, z, Rat.floor_intCast]
    grind
/-! all at once -/
theorem fuCol_get (p : Rat × Rat) {t i : Nat} (h : i < t) : (fuCol p t)[i]? = some ((p.2 + p.1 * (((i + 1 : Nat) : Int) : Rat)).floor - if i = 0 then 0 else (p.2 + p.1 * ((i : Int) : Rat)).floor) := by
  unfold fuCol
  rw [bySums_get _ h]
  congr 1
  cases i with
  | zero => rfl
  | succ i => simp
theorem fu_sum (p : Rat × Rat) (T : Nat) : ∀ t, t + 1 ≤ T → ((fuCol p T).take (t + 1)).sum = (p.2 + p.1 * (((t + 1 : Nat) : Int) : Rat)).floor
  | 0, h => by
    have hl : 0 < (fuCol p T).length := by rw [fuCol_len]; omega
    rw [sum_take_succ hl]
    have e := fuCol_get p (t := T) (i := 0) (by omega)
    rw [List.getElem?_eq_getElem hl] at e
    injection e with e
    rw [e]
    simp
  | t + 1, h => by
    have hl : t + 1 < (fuCol p T).length := by rw [fuCol_len]; omega
    rw [sum_take_succ hl, fu_sum p T t (by omega)]
    have e := fuCol_get p (t := T) (i := t + 1) (by omega)
    rw [List.getElem?_eq_getElem hl] at e
    injection e with e
    rw [e, if_neg (by omega)]
    omega
theorem zero_floor (x : Rat) : ((0 : Rat) + 0 * x).floor = 0 := by
  have : (0 : Rat) + 0 * x = ((0 : Int) : Rat) := by
    have : ((0 : Int) : Rat) = 0 := rfl
    rw [this]; grind
  rw [this, Rat.floor_intCast]
theorem kp_fu {p : Rat × Rat} (T : Nat) (hb : 1 ≤ p.2 ∨ (p.1 = 0 ∧ p.2 = 0)) : Kp p (fuCol p T) := by
  intro i e hi he
  rw [fuCol_len] at he
  obtain ⟨e, rfl⟩ : ∃ e', e = e' + 1 := ⟨e - 1, by omega⟩
  have a := Rat.floor_le (p.2 + p.1 * (((e + 1 : Nat) : Int) : Rat))
  cases i with
  | zero =>
    rw [pot_zero]
    unfold pot
    rw [fu_sum _ _ _ he]
    grind
  | succ i =>
    unfold pot
    rw [fu_sum _ _ _ he, fu_sum _ _ _ (by omega)]
    have b := Rat.lt_floor_add_one (p.2 + p.1 * (((i + 1 : Nat) : Int) : Rat))
    rw [Rat.intCast_add] at b
    have : ((1 : Int) : Rat) = 1 := rfl
    rcases hb with q | ⟨q1, q2⟩
    · grind
    · rw [q1, q2, zero_floor, zero_floor]
      grind
/-! spread out -/
theorem pot_app {r : Rat} {cs : List Int} {c : Int} {t : Nat} (h : t ≤ cs.length) : pot r (cs ++ [c]) t = pot r cs t := by
  unfold pot
  rw [List.take_append_of_le_length h]
theorem pot_last {r : Rat} {cs : List Int} {c : Int} : pot r (cs ++ [c]) (cs.length + 1) = pot r cs cs.length + ((c : Rat) - r) := by
  have h : cs.length < (cs ++ [c]).length := by simp
  rw [pot_succ h, pot_app (Nat.le_refl _)]
  simp
theorem up0_le (q : Rat) : q ≤ up0 q ∧ 0 ≤ up0 q := by
  unfold up0
  split <;> grind
theorem up0_id {q : Rat} (h : 0 ≤ q) : up0 q = q := by
  unfold up0
  split <;> grind
/-- q is the most of too much that ends here -/
def Top (r : Rat) (cs : List Int) (q : Rat) : Prop := (∀ i, i ≤ cs.length → pot r cs cs.length - pot r cs i ≤ up0 q) ∧ ∃ i, i ≤ cs.length ∧ q = pot r cs cs.length - pot r cs i
theorem top_nil (r : Rat) : Top r [] 0 := by
  refine ⟨fun i hi => ?_, 0, Nat.le_refl _, ?_⟩
  · have : i = 0 := by simpa using hi
    subst this
    have := (up0_le 0).2
    show pot r [] 0 - pot r [] 0 ≤ _
    grind
  · show (0 : Rat) = pot r [] 0 - pot r [] 0
    grind
theorem top_step {r : Rat} {cs : List Int} {q : Rat} (h : Top r cs q) (c : Int) : Top r (cs ++ [c]) (up0 q + (c : Rat) - r) := by
  obtain ⟨h1, i0, h2, h3⟩ := h
  have hl : (cs ++ [c]).length = cs.length + 1 := by simp
  have hu := up0_le (up0 q + (c : Rat) - r)
  refine ⟨fun i hi => ?_, ?_⟩
  · rw [hl] at hi ⊢
    rw [pot_last]
    rcases Nat.lt_or_ge cs.length i with g | g
    · have : i = cs.length + 1 := by omega
      subst this
      rw [pot_last]
      grind
    · rw [pot_app g]
      have := h1 i g
      grind
  · rw [hl, pot_last]
    by_cases g : 0 < q
    · refine ⟨i0, by omega, ?_⟩
      rw [pot_app h2]
      unfold up0
      rw [if_pos g]
      grind
    · refine ⟨cs.length, by omega, ?_⟩
      rw [pot_app (Nat.le_refl _)]
      unfold up0
      rw [if_neg g]
      grind
theorem top_goB {r : Rat} : ∀ (cs pre : List Int) (q : Rat), Top r pre q → Top r (pre ++ cs) (goB r q cs)
  | [], pre, q, h => by rw [List.append_nil]; exact h
  | c :: cs, pre, q, h => by
    have := top_goB cs (pre ++ [c]) _ (top_step h c)
    rw [List.append_assoc] at this
    exact this
theorem kp_step {p : Rat × Rat} {cs : List Int} {q : Rat} (h : Top p.1 cs q) (hk : Kp p cs) {c : Int} (hc : up0 q + (c : Rat) - p.1 ≤ p.2) : Kp p (cs ++ [c]) := by
  intro i e hi he
  rw [List.length_append, List.length_singleton] at he
  rcases Nat.lt_or_ge cs.length e with g | g
  · have : e = cs.length + 1 := by omega
    subst this
    rw [pot_last, pot_app (by omega)]
    have := h.1 i (by omega)
    grind
  · rw [pot_app g, pot_app (by omega)]
    exact hk i e hi g
theorem go_pick (b r : Rat) (q : Rat) : up0 q + ((b + r - up0 q).floor : Rat) - r ≤ b := by
  have := Rat.floor_le (b + r - up0 q)
  grind
theorem kp_goX {p : Rat × Rat} : ∀ (n : Nat) (pre : List Int) (q : Rat), Top p.1 pre q → Kp p pre → Kp p (pre ++ goX p.1 p.2 n q)
  | 0, pre, q, _, hk => by
    show Kp p (pre ++ [])
    rw [List.append_nil]; exact hk
  | n + 1, pre, q, h, hk => by
    have := kp_goX n (pre ++ [(p.2 + p.1 - up0 q).floor]) _ (top_step h _) (kp_step h hk (go_pick p.2 p.1 q))
    rw [List.append_assoc] at this
    exact this
theorem kp_sp {p : Rat × Rat} (T n : Nat) (hb : 1 ≤ p.2 ∨ (p.1 = 0 ∧ p.2 = 0)) : Kp p (spR p T n) := by
  have h := top_goB (r := p.1) (stCol p.1 n) [] 0 (top_nil p.1)
  exact kp_goX (T - n) (stCol p.1 n) _ h (kp_st n hb)
theorem top_le {p : Rat × Rat} {cs : List Int} {q : Rat} (h0 : 0 ≤ p.2) (h : Top p.1 cs q) (hk : Kp p cs) : q ≤ p.2 := by
  obtain ⟨_, i, h1, h2⟩ := h
  rw [h2]
  rcases Nat.lt_or_ge i cs.length with g | g
  · exact hk i _ g (Nat.le_refl _)
  · have : i = cs.length := by omega
    subst this
    grind
theorem floor_nn {x : Rat} (h : 0 ≤ x) : 0 ≤ x.floor := Rat.le_floor_iff.mpr (by
  have : ((0 : Int) : Rat) = 0 := rfl
  rw [this]; exact h)
theorem floor_le_of {x : Rat} {n : Int} (h : x ≤ (n : Rat)) : x.floor ≤ n := by
  have : x.floor < n + 1 := Rat.floor_lt_iff.mpr (by
    rw [Rat.intCast_add]
    have : ((1 : Int) : Rat) = 1 := rfl
    grind)
  omega
theorem goX_ok {p : Rat × Rat} {M : Int} (h0 : 0 ≤ p.1) (h1 : 0 ≤ p.2) (hM : p.2 + p.1 ≤ (M : Rat)) : ∀ (n : Nat) (pre : List Int) (q : Rat), Top p.1 pre q → Kp p pre → ∀ x ∈ goX p.1 p.2 n q, 0 ≤ x ∧ x ≤ M
  | 0, _, _, _, _, x, hx => by cases hx
  | n + 1, pre, q, h, hk, x, hx => by
    rcases List.mem_cons.mp hx with e | e
    · rw [e]
      have h2 := top_le h1 h hk
      have h3 : up0 q ≤ p.2 := by unfold up0; split <;> grind
      have h4 := (up0_le q).2
      exact ⟨floor_nn (by grind), floor_le_of (by grind)⟩
    · exact goX_ok h0 h1 hM n (pre ++ [_]) _ (top_step h _) (kp_step h hk (go_pick p.2 p.1 q)) x e
theorem goX_fu {p : Rat × Rat} (h0 : 0 ≤ p.1) (hb : 1 ≤ p.2 ∨ (p.1 = 0 ∧ p.2 = 0)) : ∀ (n t : Nat), goX p.1 p.2 n (if t = 0 then 0 else ((p.2 + p.1 * ((t : Int) : Rat)).floor : Rat) - p.1 * ((t : Int) : Rat)) = (List.range' t n).map fun i => (p.2 + p.1 * (((i + 1 : Nat) : Int) : Rat)).floor - if i = 0 then 0 else (p.2 + p.1 * ((i : Int) : Rat)).floor
  | 0, _ => rfl
  | n + 1, t => by
    have ih := goX_fu h0 hb n (t + 1)
    rw [if_neg (by omega)] at ih
    rw [List.range'_succ, List.map_cons]
    have pos : ∀ s : Nat, 0 ≤ ((p.2 + p.1 * ((s : Int) : Rat)).floor : Rat) - p.1 * ((s : Int) : Rat) := fun s => by
      rcases hb with q | ⟨q1, q2⟩
      · have b := Rat.lt_floor_add_one (p.2 + p.1 * ((s : Int) : Rat))
        rw [Rat.intCast_add] at b
        have : ((1 : Int) : Rat) = 1 := rfl
        grind
      · rw [q1, q2, zero_floor]
        have : ((0 : Int) : Rat) = 0 := rfl
        grind
    have up : up0 (if t = 0 then 0 else ((p.2 + p.1 * ((t : Int) : Rat)).floor : Rat) - p.1 * ((t : Int) : Rat)) = (if t = 0 then 0 else ((p.2 + p.1 * ((t : Int) : Rat)).floor : Rat) - p.1 * ((t : Int) : Rat)) := by
      refine up0_id ?_
      split
      · grind
      · exact pos t
    have c : (p.2 + p.1 - up0 (if t = 0 then 0 else ((p.2 + p.1 * ((t : Int) : Rat)).floor : Rat) - p.1 * ((t : Int) : Rat))).floor = (p.2 + p.1 * (((t + 1 : Nat) : Int) : Rat)).floor - if t = 0 then 0 else (p.2 + p.1 * ((t : Int) : Rat)).floor := by
      rw [up, cast_succ]
      by_cases ht : t = 0
      · subst ht
        rw [if_pos rfl, if_pos rfl]
        have e : p.2 + p.1 - 0 = p.2 + p.1 * ((((0 : Nat) : Int) : Rat) + 1) := by
          have : (((0 : Nat) : Int) : Rat) = 0 := rfl
          rw [this]; grind
        rw [e]
        omega
      · rw [if_neg ht, if_neg ht]
        have e : p.2 + p.1 - (((p.2 + p.1 * ((t : Int) : Rat)).floor : Rat) - p.1 * ((t : Int) : Rat)) = p.2 + p.1 * (((t : Int) : Rat) + 1) + ((-(p.2 + p.1 * ((t : Int) : Rat)).floor : Int) : Rat) := by
          rw [Rat.intCast_neg]
          grind
        rw [e, Rat.floor_add_intCast]
        omega
    show (_ :: goX p.1 p.2 n _) = _
    rw [c]
    congr 1
    rw [← ih]
    congr 1
    rw [up]
    by_cases ht : t = 0
    · subst ht
      rw [if_pos rfl, if_pos rfl]
      have e1 : (((0 + 1 : Nat) : Int) : Rat) = 1 := rfl
      rw [e1]
      grind
    · rw [if_neg ht, if_neg ht, Rat.intCast_sub, cast_succ]
      grind
theorem sp_zero {p : Rat × Rat} (h0 : 0 ≤ p.1) (hb : 1 ≤ p.2 ∨ (p.1 = 0 ∧ p.2 = 0)) (T : Nat) : spR p T 0 = fuCol p T := by
  have h := goX_fu h0 hb T 0
  rw [if_pos rfl] at h
  have e : spR p T 0 = goX p.1 p.2 T 0 := rfl
  rw [e, h]
  refine List.ext_getElem? fun i => ?_
  rcases Nat.lt_or_ge i T with g | g
  · rw [fuCol_get p g, List.getElem?_map, List.getElem?_range' (by exact g)]
    simp
  · rw [List.getElem?_eq_none (by rw [List.length_map, List.length_range']; exact g), List.getElem?_eq_none (by rw [fuCol_len]; exact g)]
theorem sp_get (p : Rat × Rat) {T n i : Nat} (h : i < n) (hn : n ≤ T) : (spR p T n).getD i 0 = (stCol p.1 T).getD i 0 := by
  unfold spR
  rw [List.getD_eq_getElem?_getD, List.getD_eq_getElem?_getD, List.getElem?_append_left (by rw [stCol_len]; exact h), stCol_get _ h, stCol_get _ (by omega)]
theorem sp_take (B : List (Rat × Rat)) {T n : Nat} (hn : n ≤ T) : (tog (B.map fun p => spR p T n) T).take n = (tog (B.map fun p => stCol p.1 T) T).take n := by
  unfold tog
  rw [← List.map_take, ← List.map_take]
  refine List.map_congr_left fun i hi => ?_
  have hi : i < n := by
    rw [List.take_range] at hi
    have := List.mem_range.mp hi
    omega
  rw [List.map_map, List.map_map]
  refine List.map_congr_left fun p hp => sp_get p hi hn
/-! what came in all -/
theorem kp_sum {p : Rat × Rat} {cs : List Int} (h : Kp p cs) {e : Nat} (h0 : 0 < e) (he : e ≤ cs.length) : (cs.take e).sum ≤ (p.2 + p.1 * ((e : Int) : Rat)).floor := by
  have := h 0 e h0 he
  rw [pot_zero] at this
  unfold pot at this
  exact Rat.le_floor_iff.mpr (by grind)
theorem floor_mono {x y : Rat} (h : x ≤ y) : x.floor ≤ y.floor := Rat.le_floor_iff.mpr (by have := Rat.floor_le x; grind)
/-! lines -/
theorem ln_mono {m j : Nat} {S : List (List Int)} {l c l' c' : List Int} (hS : SvOk m S) (hj : j < S.length) (hl : l.length = m) (hc : c.length = m) (hl' : l'.length = m) (hc' : c'.length = m)
    (h1 : ∀ i, i < m → l.getD i 0 ≤ l'.getD i 0) (h2 : ∀ i, i < m → c.getD i 0 ≤ c'.getD i 0) : ∀ i, i < m → (lnStep S l c j).getD i 0 ≤ (lnStep S l' c' j).getD i 0 := fun i hi => by
  rw [ln_get hS hj hl hc hi, ln_get hS hj hl' hc' hi]
  have := h1 i hi
  have := h2 i hi
  split <;> split <;> omega
theorem lines_mono {m : Nat} {S : List (List Int)} (hS : SvOk m S) : ∀ (A A' : List (List Int)) (ns : List Nat) (l l' : List Int), A.length = A'.length → (∀ r ∈ A, r.length = m) → (∀ r ∈ A', r.length = m) → (∀ n ∈ ns, n < S.length) → l.length = m → l'.length = m →
    (∀ i, i < m → l.getD i 0 ≤ l'.getD i 0) → (∀ (u : Nat) (r r' : List Int), A[u]? = some r → A'[u]? = some r' → ∀ i, i < m → r.getD i 0 ≤ r'.getD i 0) →
    ∀ (u : Nat) (x y : List Int), (linesOf S l (A.zip ns))[u]? = some x → (linesOf S l' (A'.zip ns))[u]? = some y → ∀ i, i < m → x.getD i 0 ≤ y.getD i 0
  | [], _, _, _, _, _, _, _, _, _, _, _, _, u, x, y, hx, _, _, _ => by simp [linesOf] at hx
  | _ :: _, [], _, _, _, hl, _, _, _, _, _, _, _, _, _, _, _, _, _, _ => by simp at hl
  | _ :: _, _ :: _, [], _, _, _, _, _, _, _, _, _, _, u, x, y, hx, _, _, _ => by simp [linesOf] at hx
  | a :: A, a' :: A', n :: ns, l, l', hlen, hA, hA', hn, hl, hl', h1, h2, u, x, y, hx, hy, i, hi => by
    have ha := hA a (List.mem_cons_self ..)
    have ha' := hA' a' (List.mem_cons_self ..)
    have hj := hn n (List.mem_cons_self ..)
    have st := ln_mono hS hj hl ha hl' ha' h1 (h2 0 a a' rfl rfl)
    rw [List.zip_cons_cons] at hx hy
    cases u with
    | zero =>
      have e1 : lnStep S l a n = x := by simpa [linesOf] using hx
      have e2 : lnStep S l' a' n = y := by simpa [linesOf] using hy
      rw [← e1, ← e2]
      exact st i hi
    | succ u =>
      exact lines_mono hS A A' ns _ _ (by simpa using hlen) (fun r hr => hA r (List.mem_cons_of_mem _ hr)) (fun r hr => hA' r (List.mem_cons_of_mem _ hr)) (fun k hk => hn k (List.mem_cons_of_mem _ hk)) (ln_len hS hj hl ha) (ln_len hS hj hl' ha') st
        (fun u r r' hr hr' => h2 (u + 1) r r' (by simpa using hr) (by simpa using hr')) u x y (by simpa [linesOf] using hx) (by simpa [linesOf] using hy) i hi

end LW

namespace LW
open PySem PySem.Spec PyProof.Rows L2 DL
variable {P : Program} {w : World} {K : PySem.W.Frag} {mg : Str → Option Value} {base : Heap}
/-! ### the law's own words for a breach, a burst, all at once -/
theorem slice_pot (r : Rat) (cs : List Int) {j n : Nat} (h : j ≤ n) : (((((cs.drop j).take (n - j)).sum : Int)) : Rat) = pot r cs n - pot r cs j + r * (((n : Int) - (j : Int) : Int) : Rat) := by
  have e : cs.take n = cs.take j ++ (cs.drop j).take (n - j) := by
    have := List.take_add (l := cs) (i := j) (j := n - j)
    rw [← this]
    congr 1
    omega
  unfold pot
  rw [e, List.sum_append, Rat.intCast_add, Rat.intCast_sub]
  grind
theorem rd_sumT {i lo hi : Nat} {ρ : List Sl} {Q : PyData → List Sl → Prop} {cs : List Int} {a b : Int} {j n : Nat} (h1 : ρ[i]? = some (.d (tupI cs))) (h2 : ρ[lo]? = some (.d (.int a))) (h3 : ρ[hi]? = some (.d (.int b))) (ha : a = (j : Int)) (hb : b = (n : Int))
    (q : Q (.int ((cs.drop j).take (n - j)).sum) ρ) : dCB oSum (dCons (dSl (dVar i) (dPart (dVar lo)) (dPart (dVar hi))) dNil) ρ Q := by
  subst ha
  subst hb
  simp only [DL.dNil, DL.dCons, DL.dCB, DL.dSl, DL.dPart, DL.dVar, h1, h2, h3, tupI, DL.asInt]
  rw [cut_map, cut_two]
  exact (oSum_tup _ _).mpr q
theorem sum_le4 : ∀ (cs : List Int), (∀ c ∈ cs, 0 ≤ c ∧ c ≤ 4) → 0 ≤ cs.sum ∧ cs.sum ≤ 4 * cs.length
  | [], _ => by simp
  | c :: cs, h => by
    have h1 := h c (List.mem_cons_self ..)
    have h2 := sum_le4 cs fun d hd => h d (List.mem_cons_of_mem _ hd)
    rw [List.sum_cons, List.length_cons]
    omega
theorem col_mem {A : List (List Int)} {k : Nat} {P : Int → Prop} (h0 : P 0) (h : ∀ r ∈ A, ∀ x ∈ r, P x) : ∀ c ∈ col A k, P c := fun c hc => by
  obtain ⟨r, hr, rfl⟩ := List.mem_map.mp hc
  rw [List.getD_eq_getElem?_getD]
  cases q : r[k]? with
  | none => exact h0
  | some x => exact h r hr x (List.mem_of_getElem? q)
theorem bst_unique {r : Rat} {cs : List Int} {b b' : Rat} (h : Bst r cs b) (h' : Bst r cs b') : b = b' := by
  have le : ∀ {b b'}, Bst r cs b → Bst r cs b' → b ≤ b' := fun {b b'} h h' => by
    rcases h.2.2 with q | ⟨x, y, q1, q2, q3⟩
    · rw [q]; exact h'.1
    · rw [q3]; exact h'.2.1 x y q1 q2
  have h1 := le h h'
  have h2 := le h' h
  grind
theorem sd_ints {l : List Int} (h : l.length ≤ 100) (hx : ∀ x ∈ l, x.natAbs < 2 ^ 100) (m : Nat) (hm : l.length ≤ m) : SD 1 (m * 122) (tupI l) := sd_tup (dp := 0) (n := 121) m (fun x hx' => by
  obtain ⟨i, hi, rfl⟩ := List.mem_map.mp hx'
  exact sd_int (Nat.lt_of_lt_of_le (hx i hi) (by decide))) (by rw [List.length_map]; exact hm)
theorem sd_rows {m : Nat} {A : List (List Int)} (hm : m ≤ 8) (h : ArOk m A) (hl : A.length ≤ 100) : SD 2 97700 (rowsD A) := sd_tup (dp := 1) (n := 976) 100 (fun x hx => by
  obtain ⟨r, hr, rfl⟩ := List.mem_map.mp hx
  have h1 := (h.2 r hr).1
  exact sd_ints (by omega) (fun x hx => by have := (h.2 r hr).2 x hx; have h2 : (1001 : Nat) ≤ 2 ^ 100 := by decide
                                           omega) 8 (by omega)) (by rw [List.length_map]; exact hl)
theorem sd_br {m : Nat} {B : List (Rat × Rat)} {A : List (List Int)} {o : Option (Nat × Nat × Nat)} (hB : B.length ≤ 8) (hA : A.length ≤ 200) (h : FB B A o) : SD 1 366 (brD o) := by
  cases o with
  | none => exact sd_none.mono (by decide) (by decide)
  | some x =>
    obtain ⟨k, i, e⟩ := x
    obtain ⟨⟨q, h1, h2, h3, h4⟩, _⟩ := h
    have hk := (List.getElem?_eq_some_iff.mp h1).1
    have big : (1000 : Nat) ≤ 2 ^ 120 := by decide
    refine sd_tup (dp := 0) (n := 121) 3 (fun x hx => ?_) (Nat.le_refl 3)
    have : x = .int (k : Int) ∨ x = .int (i : Int) ∨ x = .int (e : Int) := by simpa using hx
    rcases this with e | e | e <;> rw [e] <;> exact sd_int (by omega)
theorem lat_ok {k n : Nat} {A : List (List Int)} (h : ArOk k A) (hl : n + A.length ≤ 200) : ArOk k (latR k n A) := by
  refine ⟨by unfold latR; rw [List.length_append, List.length_replicate]; omega, fun r hr => ?_⟩
  rcases List.mem_append.mp hr with e | e
  · rw [(List.mem_replicate.mp e).2]
    exact ⟨List.length_replicate, fun x hx => by rw [(List.mem_replicate.mp hx).2]; decide⟩
  · exact h.2 r e
theorem addR_get {A B : List (List Int)} {u : Nat} {y : List Int} (h : (addR A B)[u]? = some y) : ∃ a b, A[u]? = some a ∧ B[u]? = some b ∧ y = heapsOf a b := by
  unfold addR at h
  rw [List.getElem?_map] at h
  cases hz : (A.zip B)[u]? with
  | none => rw [hz] at h; cases h
  | some q =>
    rw [hz] at h
    injection h with h
    rw [List.getElem?_zip_eq_some] at hz
    exact ⟨q.1, q.2, hz.1, hz.2, h.symm⟩
theorem addR_ge1 {k : Nat} {A B : List (List Int)} (hA : ArOk k A) (hB : ArOk k B) : ∀ (u : Nat) (r r' : List Int), A[u]? = some r → (addR A B)[u]? = some r' → ∀ i, i < k → r.getD i 0 ≤ r'.getD i 0 := fun u r r' h h' i hi => by
  obtain ⟨a, b, h1, h2, rfl⟩ := addR_get h'
  rw [h] at h1
  cases h1
  have gb := hB.2 b (List.mem_of_getElem? h2)
  rw [heaps_get (hA.2 r (List.mem_of_getElem? h)).1 gb.1 hi]
  have := getD_nn (fun x hx => (gb.2 x hx).1) i
  omega
theorem addR_ge2 {k : Nat} {A B : List (List Int)} (hA : ArOk k A) (hB : ArOk k B) : ∀ (u : Nat) (r r' : List Int), B[u]? = some r → (addR A B)[u]? = some r' → ∀ i, i < k → r.getD i 0 ≤ r'.getD i 0 := fun u r r' h h' i hi => by
  obtain ⟨a, b, h1, h2, rfl⟩ := addR_get h'
  rw [h] at h2
  cases h2
  have ga := hA.2 a (List.mem_of_getElem? h1)
  rw [heaps_get ga.1 (hB.2 r (List.mem_of_getElem? h)).1 hi]
  have := getD_nn (fun x hx => (ga.2 x hx).1) i
  omega
theorem lines_len1 {k : Nat} {S : List (List Int)} (hS : SvOk k S) : ∀ (A : List (List Int)) (ns : List Nat) (l : List Int), (∀ r ∈ A, r.length = k) → (∀ n ∈ ns, n < S.length) → l.length = k → (linesOf S l (A.zip ns)).length ≤ A.length ∧ ∀ x ∈ linesOf S l (A.zip ns), x.length = k
  | [], _, _, _, _, _ => ⟨Nat.zero_le _, fun x hx => by simp [linesOf] at hx⟩
  | _ :: _, [], _, _, _, _ => ⟨Nat.zero_le _, fun x hx => by simp [linesOf] at hx⟩
  | a :: A, n :: ns, l, hA, hn, hl => by
    have st := ln_len hS (hn n (List.mem_cons_self ..)) hl (hA a (List.mem_cons_self ..))
    have ih := lines_len1 hS A ns _ (fun r hr => hA r (List.mem_cons_of_mem _ hr)) (fun r hr => hn r (List.mem_cons_of_mem _ hr)) st
    rw [List.zip_cons_cons, linesOf, List.length_cons, List.length_cons]
    exact ⟨Nat.succ_le_succ ih.1, fun x hx => by
      rcases List.mem_cons.mp hx with e | e
      · rw [e]; exact st
      · exact ih.2 x e⟩
theorem lines_len {k T : Nat} {S : List (List Int)} (hS : SvOk k S) (hT : T ≤ 8) (A : List (List Int)) (ns : List Nat) (l : List Int) (hAl : A.length = T) (hA : ∀ r ∈ A, r.length = k) (hn : ∀ n ∈ ns, n < S.length) (hl : l.length = k) : (linesOf S l (A.zip ns)).length ≤ 8 ∧ ∀ x ∈ linesOf S l (A.zip ns), x.length = k := by
  have := lines_len1 hS A ns l hA hn hl
  exact ⟨by omega, this.2⟩
/-- a column that may be put together -/
def ColOk (p : Rat × Rat) (t : Nat) (c : List Int) : Prop := c.length = t ∧ (∀ x ∈ c, 0 ≤ x ∧ x ≤ 1000) ∧ Kp p c
theorem tog_pf {k t : Nat} {B : List (Rat × Rat)} {F : Rat × Rat → List Int} (hBl : B.length = k) (hk : k ≤ 8) (ht : t ≤ 8) (h : ∀ p ∈ B, ColOk p t (F p)) : ArOk k (tog (B.map F) t) ∧ (tog (B.map F) t).length = t ∧ ∀ i p, B[i]? = some p → Kp p (col (tog (B.map F) t) i) := by
  have hl : (tog (B.map F) t).length = t := by unfold tog; rw [List.length_map, List.length_range]
  refine ⟨⟨by omega, fun r hr => ?_⟩, hl, fun i p hp => ?_⟩
  · obtain ⟨u, hu, rfl⟩ := List.mem_map.mp hr
    refine ⟨by rw [List.length_map, List.length_map, hBl], fun x hx => ?_⟩
    obtain ⟨c, hc, rfl⟩ := List.mem_map.mp hx
    obtain ⟨p, hp, rfl⟩ := List.mem_map.mp hc
    have hu := List.mem_range.mp hu
    have hh := h p hp
    exact hh.2.1 _ (getD_mem (by rw [hh.1]; exact hu))
  · have hh := h p (List.mem_of_getElem? hp)
    rw [tog_col (by rw [List.getElem?_map, hp]; rfl) hh.1]
    exact hh.2.2
theorem bd_sum {p : Rat × Rat} (h : BdOk p) : p.2 + p.1 ≤ ((200 : Int) : Rat) ∧ 0 ≤ p.2 := by
  have h1 := (tv_le h.1.2).1
  have h2 := (tv_le h.2.1).1
  have e : (((100 : Nat) : Int) : Rat) = 100 := rfl
  have e4 : ((200 : Int) : Rat) = 200 := rfl
  rw [e] at h1 h2
  have h3 := h.g.2.2
  refine ⟨by grind, h3⟩
theorem fuCol_ok {t : Nat} {p : Rat × Rat} (h : BdOk p) : ColOk p t (fuCol p t) := by
  refine ⟨fuCol_len p t, fun x hx => ?_, kp_fu t h.2.2⟩
  obtain ⟨i, hi, rfl⟩ := List.mem_iff_getElem.mp hx
  have hi2 : i < t := by rw [fuCol_len] at hi; exact hi
  have e := fuCol_get p hi2
  rw [List.getElem?_eq_getElem hi] at e
  injection e with e
  obtain ⟨s1, s2⟩ := bd_sum h
  rw [e, cast_succ]
  by_cases h0 : i = 0
  · subst h0
    rw [if_pos rfl]
    have e1 : p.2 + p.1 * ((((0 : Nat) : Int) : Rat) + 1) = p.2 + p.1 := by
      have : (((0 : Nat) : Int) : Rat) = 0 := rfl
      rw [this]; grind
    rw [e1]
    have a := floor_nn (x := p.2 + p.1) (by have := h.1.1; grind)
    have b := floor_le_of s1
    omega
  · rw [if_neg h0]
    have e2 : p.2 + p.1 * (((i : Int) : Rat) + 1) = (p.2 + p.1 * ((i : Int) : Rat)) + p.1 := by grind
    rw [e2]
    have h1 := floor_step (x := p.2 + p.1 * ((i : Int) : Rat)) h.1.1
    have h2 := floor_step2 (x := p.2 + p.1 * ((i : Int) : Rat)) (k := 100) (rt_le h.1)
    omega
theorem stCol_pf {t : Nat} {p : Rat × Rat} (h : BdOk p) : ColOk p t (stCol p.1 t) := ⟨stCol_len _ _, stCol_ok h.1 t, kp_st t h.2.2⟩
theorem spR_ok {t n : Nat} {p : Rat × Rat} (h : BdOk p) (hn : n ≤ t) : ColOk p t (spR p t n) := by
  refine ⟨spR_len p hn, fun x hx => ?_, kp_sp t n h.2.2⟩
  rcases List.mem_append.mp hx with e | e
  · exact stCol_ok h.1 n x e
  · have tp := top_goB (r := p.1) (stCol p.1 n) [] 0 (top_nil p.1)
    have := goX_ok h.1.1 (bd_sum h).2 (bd_sum h).1 (t - n) (stCol p.1 n) _ tp (kp_st n h.2.2) x e
    omega
theorem bd_eqv (p q : Rat × Rat) : PyData.eqv (bdD p) (bdD q) = decide (p = q) := by
  have e : PyData.eqv (bdD p) (bdD q) = (PyData.eqv (fr p.1) (fr q.1) && (PyData.eqv (fr p.2) (fr q.2) && true)) := rfl
  rw [e, fr_eqv, fr_eqv, Bool.and_true, ← Bool.decide_and]
  exact decide_eq_decide.mpr ⟨fun h => Prod.ext h.1 h.2, fun h => by rw [h]; exact ⟨rfl, rfl⟩⟩
theorem bd_sd {p : Rat × Rat} (h : sm p.1 ∧ sm p.2) : SD 2 490 (bdD p) := by
  have := sd_tup (dp := 1) (n := 244) (xs := [fr p.1, fr p.2]) 2 (fun x hx => by
    rcases List.mem_cons.mp hx with e | e
    · rw [e]; exact sd_fr h.1
    · rw [List.mem_singleton.mp e]; exact sd_fr h.2) (Nat.le_refl 2)
  exact this

end LW

namespace LW
open PySem PySem.Spec PyProof.Rows L2 DL
variable {P : Program} {w : World} {K : PySem.W.Frag} {mg : Str → Option Value} {base : Heap}
def T_plays_heaps_in : DTP := fun xs Q => match xs with
  | [a, c, d] => ∃ (m : Nat) (S A : List (List Int)) (ns : List Nat), (a = rowsD S ∧ c = rowsD A ∧ d = tupI (natI ns) ∧ SvOk m S ∧ m ≤ 8 ∧ ArOk m A ∧ ns.length = A.length ∧ ∀ n ∈ ns, n < S.length) ∧
      Q (rowsD (hpsOf S (List.replicate m 0) (A.zip ns)))
  | _ => False
def T_plays_gone_in : DTP := fun xs Q => match xs with
  | [a, c, d] => ∃ (m : Nat) (S A : List (List Int)) (ns : List Nat), (a = rowsD S ∧ c = rowsD A ∧ d = tupI (natI ns) ∧ SvOk m S ∧ m ≤ 8 ∧ ArOk m A ∧ ns.length = A.length ∧ ∀ n ∈ ns, n < S.length) ∧
      Q (rowsD (gnsOf S (List.replicate m 0) (A.zip ns)))
  | _ => False
theorem ok_heaps_in (t : Txt K mg) : Cl P w K mg base 9 "heaps_in" 3 T_plays_heaps_in := by
  have nb := t.nb
  have c_played := ok_played (P := P) (w := w) (base := base) t
  refine cl_of t.d_heaps_in sc_heaps_in rfl (by intro xs Q h; unfold T_plays_heaps_in at h; split at h <;> first | rfl | exact h.elim) (fun f cdv A outer s H E hr => (dss_one (ds_ret (de_ix (de_callC c_played hr (by decide) (by rfl) (da_cons (de_var 0 (pv 0)) (da_cons (de_var 1 (pv 1)) (da_cons (de_var 2 (pv 2)) da_nil)))) de_int)))) (fun xs Q h => ?_)
  unfold T_plays_heaps_in at h
  split at h
  rotate_left
  · exact h.elim
  rename_i x y z
  obtain ⟨m, S, A, ns, hh, h⟩ := h
  exact ⟨m, S, A, ns, hh, .mk 1 _ rfl rfl h⟩
theorem ok_gone_in (t : Txt K mg) : Cl P w K mg base 9 "gone_in" 3 T_plays_gone_in := by
  have nb := t.nb
  have c_played := ok_played (P := P) (w := w) (base := base) t
  refine cl_of t.d_gone_in sc_gone_in rfl (by intro xs Q h; unfold T_plays_gone_in at h; split at h <;> first | rfl | exact h.elim) (fun f cdv A outer s H E hr => (dss_one (ds_ret (de_ix (de_callC c_played hr (by decide) (by rfl) (da_cons (de_var 0 (pv 0)) (da_cons (de_var 1 (pv 1)) (da_cons (de_var 2 (pv 2)) da_nil)))) de_int)))) (fun xs Q h => ?_)
  unfold T_plays_gone_in at h
  split at h
  rotate_left
  · exact h.elim
  rename_i x y z
  obtain ⟨m, S, A, ns, hh, h⟩ := h
  exact ⟨m, S, A, ns, hh, .mk 2 _ rfl rfl h⟩
def lastL (m : Nat) : List (List Int) → List Int
  | [] => List.replicate m 0
  | [l] => l
  | _ :: l :: r => lastL m (l :: r)
theorem lastL_get {m : Nat} : ∀ {L : List (List Int)}, L ≠ [] → L[L.length - 1]? = some (lastL m L)
  | [], h => absurd rfl h
  | [l], _ => rfl
  | _ :: l :: r, _ => by
    have := lastL_get (m := m) (L := l :: r) (by simp)
    simpa [lastL] using this
def T_plays_last_lines : DTP := fun xs Q => match xs with
  | [a, c, d] => ∃ (m : Nat) (S A : List (List Int)) (ns : List Nat), (a = rowsD S ∧ c = rowsD A ∧ d = tupI (natI ns) ∧ SvOk m S ∧ m ≤ 8 ∧ ArOk m A ∧ ns.length = A.length ∧ ∀ n ∈ ns, n < S.length) ∧
      Q (tupI (lastL m (linesOf S (List.replicate m 0) (A.zip ns))))
  | _ => False
theorem ok_last_lines (t : Txt K mg) : Cl P w K mg base 10 "last_lines" 3 T_plays_last_lines := by
  have nb := t.nb
  have c_lines_behind := ok_lines_behind (P := P) (w := w) (base := base) t
  refine cl_of t.d_last_lines sc_last_lines rfl (by intro xs Q h; unfold T_plays_last_lines at h; split at h <;> first | rfl | exact h.elim) (fun f cdv A outer s H E hr => (dss_cons (ds_set (i := 3) sc_last_lines.nd rfl (by first | exact .inl rfl | exact .inr rfl) (de_callC c_lines_behind hr (by decide) (by rfl) (da_cons (de_var 0 (pv 0)) (da_cons (de_var 1 (pv 1)) (da_cons (de_var 2 (pv 2)) da_nil)))))
 (dss_one (ds_ret (de_ifExp (db_cmp (op_neD hr.units) od_ne (de_var 3 (pv 3)) (de_tup da_nil) (nomark _)) (de_ix (de_var 3 (pv 3)) (de_neg de_int)) (de_mulA (de_tup (da_cons de_int da_nil)) (de_blt call_len_seq od_len (by rfl) nb.len_ PySem.boot_len (da_cons (de_ix (de_var 0 (pv 0)) de_int) da_nil)))))))) (fun xs Q h => ?_)
  unfold T_plays_last_lines at h
  split at h
  rotate_left
  · exact h.elim
  rename_i x y z
  obtain ⟨m, S, A, ns, ⟨rfl, rfl, rfl, hS, hm8, hA, hnl, hns⟩, h⟩ := h
  refine ⟨m, S, A, ns, ⟨rfl, rfl, rfl, hS, hm8, hA, hnl, hns⟩, ?_⟩
  obtain ⟨L, hL⟩ : ∃ L, L = linesOf S (List.replicate m 0) (A.zip ns) := ⟨_, rfl⟩
  rw [← hL] at h ⊢
  refine ⟨Nat.zero_le _, ⟨shaped_rows L, rfl⟩, ?_⟩
  cases L with
  | nil =>
    refine .f rfl ⟨by show 1 ≤ sizeLine; decide, ?_⟩
    obtain ⟨s0, S', rfl⟩ : ∃ s0 S', S = s0 :: S' := by
      cases S with
      | nil => exact absurd hS.1 (by decide)
      | cons a b => exact ⟨a, b, rfl⟩
    have hs0 := (hS.2.2 s0 (List.mem_cons_self ..)).1
    refine (itemAt_int (j := 0) rfl (x := tupI s0) rfl _).mpr ⟨⟨by omega, by rw [List.length_map]; omega, by decide⟩, ?_⟩
    have e : PyData.tuple (List.replicate ((s0.map PyData.int).length : Int).toNat [PyData.int 0]).flatten = tupI (List.replicate m 0) := by
      rw [List.length_map, hs0, Int.toNat_natCast, zeros]
    rw [e]
    exact h
  | cons l L =>
    refine .t rfl (itemAt_last (x := tupI (lastL m (l :: L))) ?_ h)
    rw [List.length_map, List.getElem?_map, lastL_get (m := m) (List.cons_ne_nil l L)]
    rfl
/-- the greatest line at stream i, 0 of no turns -/
def topAt (L : List (List Int)) (i : Nat) : Int := PySem.W.maxOf 0 (L.map fun r => r.getD i 0)
def T_plays_greatest_lines : DTP := fun xs Q => match xs with
  | [a, c, d] => ∃ (m : Nat) (S A : List (List Int)) (ns : List Nat), (a = rowsD S ∧ c = rowsD A ∧ d = tupI (natI ns) ∧ SvOk m S ∧ m ≤ 8 ∧ ArOk m A ∧ ns.length = A.length ∧ ∀ n ∈ ns, n < S.length) ∧
      Q (tupI ((List.range m).map fun i => topAt (linesOf S (List.replicate m 0) (A.zip ns)) i))
  | _ => False
theorem ok_greatest_lines (t : Txt K mg) : Cl P w K mg base 10 "greatest_lines" 3 T_plays_greatest_lines := by
  have nb := t.nb
  have c_lines_behind := ok_lines_behind (P := P) (w := w) (base := base) t
  refine cl_of t.d_greatest_lines sc_greatest_lines rfl (by intro xs Q h; unfold T_plays_greatest_lines at h; split at h <;> first | rfl | exact h.elim) (fun f cdv A outer s H E hr => (dss_cons (ds_set (i := 3) sc_greatest_lines.nd rfl (by first | exact .inl rfl | exact .inr rfl) (de_callC c_lines_behind hr (by decide) (by rfl) (da_cons (de_var 0 (pv 0)) (da_cons (de_var 1 (pv 1)) (da_cons (de_var 2 (pv 2)) da_nil)))))
 (dss_one (ds_ret (de_bty call_tuple_of od_tuple (by rfl) nb.tuple_ (by decide +kernel) (da_cons (de_lc (own := [("stream", 4)]) rfl sc_greatest_lines.nd (di_range1 (by rfl) nb.range_ (da_cons (de_blt call_len_seq od_len (by rfl) nb.len_ PySem.boot_len (da_cons (de_ix (de_var 0 (pv 0)) de_int) da_nil)) da_nil)) (blkOk_by (by kernel_rfl)) (fun _ _ _ _ _ => (dw_name (i := 4) (pg_name (i := 4) sc_greatest_lines.nd rfl (by first | exact .inl rfl | exact .inr rfl)) (by decide))) (fun _ _ _ _ _ => dts_nil) (fun _ _ _ _ _ => (de_blt (cr_maxD (α := Int) rfl (best_room hr (by decide))) od_bestI (by rfl) nb.max_ (by decide +kernel) (da_cons (de_lst (da_cons de_int (da_star (de_lc (own := [("one", 5)]) rfl sc_greatest_lines.nd (di_seq (de_var 3 (pv 3))) (blkOk_by (by kernel_rfl)) (fun _ _ _ _ _ => (dw_name (i := 5) (pg_name (i := 5) sc_greatest_lines.nd rfl (by first | exact .inl rfl | exact .inr rfl)) (by decide))) (fun _ _ _ _ _ => dts_nil) (fun _ _ _ _ _ => (de_ix (de_var 5 (pv 5)) (de_var 4 (pv 4))))) da_nil))) da_nil)))) da_nil)))))) (fun xs Q h => ?_)
  unfold T_plays_greatest_lines at h
  split at h
  rotate_left
  · exact h.elim
  rename_i x y z
  obtain ⟨m, S, A, ns, ⟨rfl, rfl, rfl, hS, hm8, hA, hnl, hns⟩, h⟩ := h
  have hA1 := hA.1
  refine ⟨m, S, A, ns, ⟨rfl, rfl, rfl, hS, hm8, hA, hnl, hns⟩, ?_⟩
  have hL := lines_len1 hS A ns (List.replicate m 0) (fun r hr => (hA.2 r hr).1) hns List.length_replicate
  obtain ⟨L, hLe⟩ : ∃ L, L = linesOf S (List.replicate m 0) (A.zip ns) := ⟨_, rfl⟩
  rw [← hLe] at h hL ⊢
  obtain ⟨s0, S', rfl⟩ : ∃ s0 S', S = s0 :: S' := by
    cases S with
    | nil => exact absurd hS.1 (by decide)
    | cons a b => exact ⟨a, b, rfl⟩
  have hs0 := (hS.2.2 s0 (List.mem_cons_self ..)).1
  refine (itemAt_int (j := 0) rfl (x := tupI s0) rfl _).mpr ⟨rng (by rw [List.length_map]; omega), ?_⟩
  show (rangeD 0 ((s0.map PyData.int).length : Int).toNat).length ≤ sizeLine ∧ compD _ _ _ _ (rangeD 0 ((s0.map PyData.int).length : Int).toNat) _ _
  rw [List.length_map, hs0, Int.toNat_natCast]
  unfold rangeD
  refine ⟨range_szN (by omega), comp_map (f := fun i => .int (topAt L i)) rfl (fun i hi kk hk => .t rfl ?_) ?_⟩
  · have hi := List.mem_range.mp hi
    refine ⟨by show (L.map tupI).length ≤ _; rw [List.length_map]; exact Nat.le_of_lt (small1000 (by omega)), comp_map (enc := tupI) (f := fun r => .int (r.getD i 0)) rfl (fun r hr k2 hk2 => .t rfl ((itemAt_int (j := 0 + (i : Int)) (i := i) (xs := r.map .int) (Int.zero_add _) (row_at (by rw [hL.2 r hr]; exact hi)) _).mpr hk2)) ?_⟩
    have e : (L.map fun r => PyData.int (r.getD i 0)) ++ [] = (L.map fun r => r.getD i 0).map .int := by
      rw [List.append_nil, List.map_map]
      rfl
    refine ⟨by show _ + 1 ≤ _; rw [List.append_nil, List.length_map]; exact small1000 (by omega), ?_⟩
    dsimp only [DL.dNil, DL.dCons]
    rw [e]
    exact (oBestI_lst _ 0 _ _).mpr hk
  · have e : tupI ((List.range m).map fun i => topAt L i) = .tuple ((List.range m).map fun i => .int (topAt L i)) := by
      unfold tupI
      rw [List.map_map]
      rfl
    rw [e] at h
    exact h
theorem noLsts_tupI (L : List (List Int)) : noLsts (L.map tupI) = true := noLsts_map tupI (fun l => noLst_tup .int (fun _ => rfl) l) L
theorem noLsts_int (L : List Int) : noLsts (L.map .int) = true := noLsts_map .int (fun _ => rfl) L
def T_Lines_arrivals (C : Addr) : DTB := fun ob xs Q => match xs with
  | [] => ∃ (dx b1 b2 b3 : Addr) (S came : List (List Int)) (done : List Int) (lying : List (List Int)), ob = lnO C dx b1 b2 b3 S came done lying ∧ Q (rowsD came) ob
  | _ => False
def T_Lines_numbers (C : Addr) : DTB := fun ob xs Q => match xs with
  | [] => ∃ (dx b1 b2 b3 : Addr) (S came : List (List Int)) (done : List Int) (lying : List (List Int)), ob = lnO C dx b1 b2 b3 S came done lying ∧ Q (tupI done) ob
  | _ => False
def T_Lines_turns (C : Addr) : DTB := fun ob xs Q => match xs with
  | [] => ∃ (dx b1 b2 b3 : Addr) (S came : List (List Int)) (done : List Int) (lying : List (List Int)), ob = lnO C dx b1 b2 b3 S came done lying ∧ Q (.int (done.length : Int)) ob
  | _ => False
def T_Lines_twin (C : Addr) : DTBN := fun ob xs Q => match xs with
  | [] => ∃ (m : Nat) (dx b1 b2 b3 : Addr) (S came : List (List Int)) (done : List Int) (lying : List (List Int)), (ob = lnO C dx b1 b2 b3 S came done lying ∧ SvOk m S ∧ m ≤ 8 ∧ came.length ≤ 1000 ∧ done.length ≤ 1000 ∧ lying.length ≤ 1000) ∧
      ∀ dx' c1 c2 c3, Q (lnO C dx' c1 c2 c3 S came done lying) ob
  | _ => False
theorem okm_Lines_arrivals {C : Addr} (t : Txt K mg) (o : Lines_ok K mg C) : ClM P w K mg base 1 C "arrivals" 1 (T_Lines_arrivals C) := by
  have nb := t.nb
  have cl_Lines := o.cl
  have na_Lines_services := o.na_services
  have na_Lines_came := o.na_came
  have na_Lines_done := o.na_done
  have na_Lines_lying := o.na_lying
  refine clM_of o.d_arrivals sc_Lines_arrivals rfl (by intro ob xs Q h; unfold T_Lines_arrivals at h; split at h <;> first | rfl | exact h.elim) (fun f cdv A outer s H E hr => (dss_one (ds_ret (de_bor (de_bty call_tuple_of od_tuple (by rfl) nb.tuple_ (by decide +kernel) (da_cons (de_fld 0 cl_Lines na_Lines_came (by decide +kernel : fAt "came" Lines_fields = some 1) (pv 0)) da_nil)))))) (fun a0 ob xs Q h => ?_)
  unfold T_Lines_arrivals at h
  split at h
  rotate_left
  · exact h.elim
  obtain ⟨dx, b1, b2, b3, S, came, done, lying, rfl, h⟩ := h
  exact ⟨⟨rfl, rfl⟩, noLsts_tupI came, rfl, h⟩
theorem okm_Lines_numbers {C : Addr} (t : Txt K mg) (o : Lines_ok K mg C) : ClM P w K mg base 1 C "numbers" 1 (T_Lines_numbers C) := by
  have nb := t.nb
  have cl_Lines := o.cl
  have na_Lines_services := o.na_services
  have na_Lines_came := o.na_came
  have na_Lines_done := o.na_done
  have na_Lines_lying := o.na_lying
  refine clM_of o.d_numbers sc_Lines_numbers rfl (by intro ob xs Q h; unfold T_Lines_numbers at h; split at h <;> first | rfl | exact h.elim) (fun f cdv A outer s H E hr => (dss_one (ds_ret (de_bor (de_bty call_tuple_of od_tuple (by rfl) nb.tuple_ (by decide +kernel) (da_cons (de_fld 0 cl_Lines na_Lines_done (by decide +kernel : fAt "done" Lines_fields = some 2) (pv 0)) da_nil)))))) (fun a0 ob xs Q h => ?_)
  unfold T_Lines_numbers at h
  split at h
  rotate_left
  · exact h.elim
  obtain ⟨dx, b1, b2, b3, S, came, done, lying, rfl, h⟩ := h
  exact ⟨⟨rfl, rfl⟩, noLsts_int done, rfl, h⟩
theorem okm_Lines_turns {C : Addr} (t : Txt K mg) (o : Lines_ok K mg C) : ClM P w K mg base 1 C "turns" 1 (T_Lines_turns C) := by
  have nb := t.nb
  have cl_Lines := o.cl
  have na_Lines_services := o.na_services
  have na_Lines_came := o.na_came
  have na_Lines_done := o.na_done
  have na_Lines_lying := o.na_lying
  refine clM_of o.d_turns sc_Lines_turns rfl (by intro ob xs Q h; unfold T_Lines_turns at h; split at h <;> first | rfl | exact h.elim) (fun f cdv A outer s H E hr => (dss_one (ds_ret (de_bor (de_blt call_len_seq od_len (by rfl) nb.len_ PySem.boot_len (da_cons (de_fld 0 cl_Lines na_Lines_done (by decide +kernel : fAt "done" Lines_fields = some 2) (pv 0)) da_nil)))))) (fun a0 ob xs Q h => ?_)
  unfold T_Lines_turns at h
  split at h
  rotate_left
  · exact h.elim
  obtain ⟨dx, b1, b2, b3, S, came, done, lying, rfl, h⟩ := h
  refine ⟨⟨rfl, rfl⟩, rfl, rfl, ?_⟩
  have e : ((done.map PyData.int).length : Int) = (done.length : Int) := by rw [List.length_map]
  rw [← e] at h
  exact h
theorem okm_Lines_twin {C : Addr} (t : Txt K mg) (o : Lines_ok K mg C) : ClMN P w K mg base 3 C "twin" 1 (T_Lines_twin C) := by
  have nb := t.nb
  have cl_Lines := o.cl
  have na_Lines_services := o.na_services
  have na_Lines_came := o.na_came
  have na_Lines_done := o.na_done
  have na_Lines_lying := o.na_lying
  have ci_Lines := okm_Lines___init__ (P := P) (w := w) (base := base) t o
  refine clMN_of o.d_twin sc_Lines_twin rfl (by intro ob xs Q h; unfold T_Lines_twin at h; split at h <;> first | rfl | exact h.elim) (fun f cdv A outer s H E hr => (dss_cons (ds_setN (i := 1) sc_Lines_twin.nd rfl (by first | exact .inl rfl | exact .inr rfl) (dn_make ci_Lines hr (by decide) (by rfl) (da_cons (de_fld 0 cl_Lines na_Lines_services (by decide +kernel : fAt "services" Lines_fields = some 0) (pv 0)) da_nil)))
 (dss_cons (ds_parF (i := 1) (nm := Lines_fields) (ns := ["came", "done", "lying"]) rfl (dm_new (dn_bor (dn_list (by rfl) nb.list_ (de_fld 0 cl_Lines na_Lines_came (by decide +kernel : fAt "came" Lines_fields = some 1) (pv 0)))) (dm_new (dn_bor (dn_list (by rfl) nb.list_ (de_fld 0 cl_Lines na_Lines_done (by decide +kernel : fAt "done" Lines_fields = some 2) (pv 0)))) (dm_new (dn_bor (dn_list (by rfl) nb.list_ (de_fld 0 cl_Lines na_Lines_lying (by decide +kernel : fAt "lying" Lines_fields = some 3) (pv 0)))) dm_nil))) (pgs_cons (pg_fld 1 (pv 1) cl_Lines na_Lines_came) (pgs_cons (pg_fld 1 (pv 1) cl_Lines na_Lines_done) (pgs_cons (pg_fld 1 (pv 1) cl_Lines na_Lines_lying) pgs_nil))) rfl)
 (dss_one (ds_retO (dn_move 1 (pv 1))))))) (fun a0 ob xs Q h => ?_)
  unfold T_Lines_twin at h
  split at h
  rotate_left
  · exact h.elim
  obtain ⟨m, dx, b1, b2, b3, S, came, done, lying, ⟨rfl, hS, hm8, h1, h2, h3⟩, h⟩ := h
  refine ⟨⟨rfl, rfl⟩, fun dx' => ⟨m, S, dx', ⟨rfl, hS, hm8, rfl⟩, fun c1 c2 c3 => ⟨rfl, fun p => ?_⟩⟩⟩
  dsimp only [DL.putAll, DL.dgName, DL.dgCons, DL.dgNil, DL.dgTup, DL.asTup, List.map_cons, List.map_nil, List.cons_append, List.nil_append, List.replicate_succ, List.replicate_zero, List.length_cons, List.length_nil, Nat.reduceAdd, Nat.reduceSub, List.set_cons_zero, List.set_cons_succ]
  refine ⟨⟨rfl, rfl⟩, noLsts_tupI came, ⟨rfl, rfl⟩, noLsts_int done, ⟨rfl, rfl⟩, noLsts_tupI lying, fun p3 p2 p1 => ⟨⟨rfl, by show 3 ≤ sizeLine; decide, rfl⟩, ⟨rfl, rfl⟩, by show 4 + 3 ≤ 1000; decide, ?_⟩⟩
  exact ⟨rfl, h dx' p1 p2 p3⟩

end LW

namespace LW
open PySem PySem.Spec PyProof.Rows L2 DL
variable {P : Program} {w : World} {K : PySem.W.Frag} {mg : Str → Option Value} {base : Heap}
/-! ### the laws' other words for fractions -/
def T__law_gcd : DTP := fun xs Q => match xs with
  | [.int a, .int b] => (0 ≤ a ∧ 0 ≤ b) ∧ Q (.int ((Int.gcd a b : Nat) : Int))
  | _ => False
theorem ok__law_gcd (t : Txt K mg) : Cl P w K mg base 1 "_law_gcd" 2 T__law_gcd := by
  have nb := t.nb
  refine cl_of t.d__law_gcd sc__law_gcd rfl (by intro xs Q h; unfold T__law_gcd at h; split at h <;> first | rfl | exact h.elim) (fun f cdv A outer s H E hr => (dss_cons (ds_while PassesOwn.never (db_cmp (op_neD hr.units) od_ne (de_var 1 (pv 1)) de_int (nomark _))
 (dss_one (ds_par (i := 0) (j := 1) rfl sc__law_gcd.nd rfl rfl (by decide) rfl rfl (dm_dat (de_var 1 (pv 1)) (dm_dat (de_mod (de_var 0 (pv 0)) (de_var 1 (pv 1))) dm_nil)) (by rfl))))
 (dss_one (ds_ret (de_var 0 (pv 0)))))) (fun xs Q h => ?_)
  unfold T__law_gcd at h
  split at h
  rotate_left
  · exact h.elim
  rename_i x y
  obtain ⟨⟨h0, h1⟩, h⟩ := h
  refine while_of (fun m ρ => ∃ a b : Nat, ρ = [.d (.int a), .d (.int b)] ∧ m = b ∧ Nat.gcd a b = Int.gcd x y) (fun m ρ N hN hI => ?_) (m := y.natAbs) ⟨x.natAbs, y.natAbs, ?_, rfl, rfl⟩
  · obtain ⟨a, b, rfl, hm, hg⟩ := hI
    refine ⟨⟨rfl, rfl⟩, ?_⟩
    by_cases hb : (b : Int) = 0
    · refine .f (ne_intF hb) ?_
      have hb' : b = 0 := by omega
      subst hb'
      rw [Nat.gcd_zero_right] at hg
      rw [← hg] at h
      exact h
    · refine .t (ne_intT hb) ?_
      refine ⟨by show (0 : Int) < _; omega, rfl, hN (a % b) _ (by rw [hm]; exact Nat.mod_lt _ (by omega)) ⟨b, a % b, ?_, rfl, ?_⟩⟩
      · rw [Int.natCast_emod]
        rfl
      · rw [← hg, Nat.gcd_comm b, ← Nat.gcd_rec, Nat.gcd_comm]
  · rw [Int.natAbs_of_nonneg h0, Int.natAbs_of_nonneg h1]
    rfl
def T__law_fraction : DTP := fun xs Q => match xs with
  | [.int a, .int b] => (0 < b ∧ b.natAbs < 2 ^ 250 ∧ a.natAbs < 2 ^ 250) ∧ Q (fr (mkRat a b.toNat))
  | _ => False
theorem ok__law_fraction (t : Txt K mg) : Cl P w K mg base 2 "_law_fraction" 2 T__law_fraction := by
  have nb := t.nb
  have c__law_gcd := ok__law_gcd (P := P) (w := w) (base := base) t
  refine cl_of t.d__law_fraction sc__law_fraction rfl (by intro xs Q h; unfold T__law_fraction at h; split at h <;> first | rfl | exact h.elim) (fun f cdv A outer s H E hr => (dss_cons (ds_set (i := 2) sc__law_fraction.nd rfl (by first | exact .inl rfl | exact .inr rfl) (de_callC c__law_gcd hr (by decide) (by rfl) (da_cons (de_blt call_abs od_abs (by rfl) nb.abs_ (by decide +kernel) (da_cons (de_var 0 (pv 0)) da_nil)) (da_cons (de_blt call_abs od_abs (by rfl) nb.abs_ (by decide +kernel) (da_cons (de_var 1 (pv 1)) da_nil)) da_nil))))
 (dss_cons (ds_set (i := 3) sc__law_fraction.nd rfl (by first | exact .inl rfl | exact .inr rfl) (de_ifExp (db_cmp op_gt od_gt (de_var 1 (pv 1)) de_int (nomark _)) de_int (de_neg de_int)))
 (dss_one (ds_ret (de_tup (da_cons (de_div (de_mulA (de_var 3 (pv 3)) (de_var 0 (pv 0))) (de_var 2 (pv 2))) (da_cons (de_div (de_mulA (de_var 3 (pv 3)) (de_var 1 (pv 1))) (de_var 2 (pv 2))) da_nil)))))))) (fun xs Q h => ?_)
  unfold T__law_fraction at h
  split at h
  rotate_left
  · exact h.elim
  rename_i x y
  obtain ⟨⟨h0, h1, h2⟩, h⟩ := h
  have hb : (y.toNat : Int) = y := Int.toNat_of_nonneg (by omega)
  have hn : y.toNat ≠ 0 := by omega
  rw [fr_mk hn, hb] at h
  have hg : 0 < Int.gcd x y := Int.gcd_pos_of_ne_zero_right _ (by omega)
  have hle : ((Int.gcd x y : Nat) : Int) ≤ y := Int.le_of_dvd h0 (Int.gcd_dvd_right ..)
  have hd : ∀ z, CDivW z ((Int.gcd x y : Nat) : Int) := fun z => wide_div (by omega) (b := 250) (by omega) (by decide) (by decide)
  have hm : ∀ z : Int, z.natAbs < 2 ^ 250 → CMulW 1 z := fun z hz => wide_mul (a := 1) (b := 250) (by decide) hz (by decide) (by decide) (by decide)
  have eg : ((Int.gcd ((x.natAbs : Int)) ((y.natAbs : Int)) : Nat) : Int) = ((Int.gcd x y : Nat) : Int) := rfl
  have ex : (if x < 0 then -x else x) = (x.natAbs : Int) := absI x
  have ey : (if y < 0 then -y else y) = (y.natAbs : Int) := absI y
  simp only [↓DL.dVar, ↓DL.dC, ↓DL.dU, ↓DL.dOp, ↓DL.dBor, ↓DL.dBorT, ↓DL.dnLst, ↓DL.dFz, ↓DL.dSetN, ↓DL.dmNil, ↓DL.dmDat, ↓DL.dmNew, ↓DL.dPar, ↓DL.setAt0, ↓DL.setAt1, ↓DL.setAt2, ↓DL.ownAt, ↓DL.dSetIx, ↓DL.dAugIx, ↓DL.dCallB, ↓DL.insAt, ↓DL.dFld, ↓DL.dFldD, ↓DL.dFldN, ↓DL.fownAt, ↓DL.dAppF, ↓DL.dMeth, ↓DL.daNil, ↓DL.dMake, ↓DL.dZip2, ↓DL.dZip3, ↓DL.oAddL, ↓DL.oMulL, ↓DL.dnOp, ↓DL.oListN, ↓DL.dnU, ↓DL.dChain, ↓DL.dgLst, ↓DL.dmRaw, ↓DL.dmVarR, ↓DL.dCallM, ↓DL.dCallL, ↓DL.oRepr, ↓DL.asInt, ↓DL.asBool, ↓DL.asTup, ↓DL.asLst, ↓DL.asSeq, ↓DL.oI0, ↓DL.oI, ↓DL.oNeg, ↓DL.oEq_int, ↓DL.oNe_int, ↓DL.oIsN, ↓DL.oNotN, ↓DL.oIsB, ↓DL.oNotB, ↓DL.dTst, ↓DL.dNotB, ↓DL.dAndB, ↓DL.dOrB, ↓DL.dAndV, ↓DL.dOrV, ↓DL.dNotV, ↓DL.dIf, ↓DL.dNil, ↓DL.dCons, ↓DL.dStar, ↓DL.dTup, ↓DL.dLst, ↓DL.itemAt0, ↓DL.itemAt1, ↓DL.itemAt2, ↓DL.itemAt3, ↓DL.oIx, ↓DL.dNoPart, ↓DL.dPart, ↓DL.dSl, ↓DL.dgName, ↓DL.dgNil, ↓DL.dgCons, ↓DL.dgTup, ↓DL.dNext, ↓DL.dSeq, ↓DL.dBreak, ↓DL.dCont, ↓DL.dDrop, ↓DL.dRet, ↓DL.dRetN, ↓DL.dIfS, ↓DL.dNever, ↓DL.dAsg, ↓DL.dAug, ↓DL.dOwn, ↓DL.dApp, ↓DL.dFrz, ↓DL.dFrzS, ↓DL.dIt, ↓DL.dItL, ↓DL.dItT, ↓DL.dRng1, ↓DL.dRng2, ↓DL.dZip, ↓DL.dFor, ↓DL.dYes, ↓DL.turnD, ↓DL.dLc, ↓DL.dRetO, ↓DL.dnCall, ↓DL.dnMove, ↓DL.frzAll, ↓DL.frz1, ↓DL.noLst, ↓DL.noLsts, ↓DL.dFz, ↓DL.dCall, ↓DL.dCB, ↓DL.oLen, ↓DL.oAbs, ↓DL.oInt2, ↓DL.oInt, ↓DL.oTuple, ↓DL.oList, ↓DL.dIsi, ↓DL.dEnum, ↓DL.oAdd, ↓DL.oMul, ↓DL.putAll, ↓DL.isNone, ↓DL.isIntB, ↓DL.isBoolB, ↓DL.isTupB, ↓DL.isStrB, ↓List.map_cons, ↓List.map_nil, ↓List.length_cons, ↓List.length_nil, ↓List.replicate_succ, ↓List.replicate_zero, ↓List.cons_append, ↓List.nil_append, ↓List.append_nil, ↓List.getElem?_cons_zero, ↓List.getElem?_cons_succ, ↓List.set_cons_zero, ↓List.set_cons_succ, Nat.reduceAdd, Nat.reduceSub, Nat.sub_self, Nat.add_sub_cancel, Nat.zero_add, ↓List.append_assoc, ↓DL.ifd_t, ↓DL.ifd_f, ↓DL.sz0, ↓DL.sz1, ↓DL.sz2, ↓DL.sz3, ↓DL.sz4, ↓DL.sz5, ↓DL.sz6, ↓DL.sz7, ↓DL.sz8, ↓DL.sz9, ↓DL.sz10, ↓DL.sz11, ↓DL.sz12, ↓DL.sz13, ↓DL.sz14, ↓DL.sz15, Bool.false_eq_true, ↓Bool.not_true, ↓Bool.not_false, ↓true_and, ↓and_true, T__law_gcd, ex, ey]
  refine ⟨⟨by omega, by omega⟩, ?_⟩
  rw [decide_eq_true h0]
  simp only [↓DL.dVar, ↓DL.dC, ↓DL.dU, ↓DL.dOp, ↓DL.dBor, ↓DL.dBorT, ↓DL.dnLst, ↓DL.dFz, ↓DL.dSetN, ↓DL.dmNil, ↓DL.dmDat, ↓DL.dmNew, ↓DL.dPar, ↓DL.setAt0, ↓DL.setAt1, ↓DL.setAt2, ↓DL.ownAt, ↓DL.dSetIx, ↓DL.dAugIx, ↓DL.dCallB, ↓DL.insAt, ↓DL.dFld, ↓DL.dFldD, ↓DL.dFldN, ↓DL.fownAt, ↓DL.dAppF, ↓DL.dMeth, ↓DL.daNil, ↓DL.dMake, ↓DL.dZip2, ↓DL.dZip3, ↓DL.oAddL, ↓DL.oMulL, ↓DL.dnOp, ↓DL.oListN, ↓DL.dnU, ↓DL.dChain, ↓DL.dgLst, ↓DL.dmRaw, ↓DL.dmVarR, ↓DL.dCallM, ↓DL.dCallL, ↓DL.oRepr, ↓DL.asInt, ↓DL.asBool, ↓DL.asTup, ↓DL.asLst, ↓DL.asSeq, ↓DL.oI0, ↓DL.oI, ↓DL.oNeg, ↓DL.oEq_int, ↓DL.oNe_int, ↓DL.oIsN, ↓DL.oNotN, ↓DL.oIsB, ↓DL.oNotB, ↓DL.dTst, ↓DL.dNotB, ↓DL.dAndB, ↓DL.dOrB, ↓DL.dAndV, ↓DL.dOrV, ↓DL.dNotV, ↓DL.dIf, ↓DL.dNil, ↓DL.dCons, ↓DL.dStar, ↓DL.dTup, ↓DL.dLst, ↓DL.itemAt0, ↓DL.itemAt1, ↓DL.itemAt2, ↓DL.itemAt3, ↓DL.oIx, ↓DL.dNoPart, ↓DL.dPart, ↓DL.dSl, ↓DL.dgName, ↓DL.dgNil, ↓DL.dgCons, ↓DL.dgTup, ↓DL.dNext, ↓DL.dSeq, ↓DL.dBreak, ↓DL.dCont, ↓DL.dDrop, ↓DL.dRet, ↓DL.dRetN, ↓DL.dIfS, ↓DL.dNever, ↓DL.dAsg, ↓DL.dAug, ↓DL.dOwn, ↓DL.dApp, ↓DL.dFrz, ↓DL.dFrzS, ↓DL.dIt, ↓DL.dItL, ↓DL.dItT, ↓DL.dRng1, ↓DL.dRng2, ↓DL.dZip, ↓DL.dFor, ↓DL.dYes, ↓DL.turnD, ↓DL.dLc, ↓DL.dRetO, ↓DL.dnCall, ↓DL.dnMove, ↓DL.frzAll, ↓DL.frz1, ↓DL.noLst, ↓DL.noLsts, ↓DL.dFz, ↓DL.dCall, ↓DL.dCB, ↓DL.oLen, ↓DL.oAbs, ↓DL.oInt2, ↓DL.oInt, ↓DL.oTuple, ↓DL.oList, ↓DL.dIsi, ↓DL.dEnum, ↓DL.oAdd, ↓DL.oMul, ↓DL.putAll, ↓DL.isNone, ↓DL.isIntB, ↓DL.isBoolB, ↓DL.isTupB, ↓DL.isStrB, ↓List.map_cons, ↓List.map_nil, ↓List.length_cons, ↓List.length_nil, ↓List.replicate_succ, ↓List.replicate_zero, ↓List.cons_append, ↓List.nil_append, ↓List.append_nil, ↓List.getElem?_cons_zero, ↓List.getElem?_cons_succ, ↓List.set_cons_zero, ↓List.set_cons_succ, Nat.reduceAdd, Nat.reduceSub, Nat.sub_self, Nat.add_sub_cancel, Nat.zero_add, ↓List.append_assoc, ↓DL.ifd_t, ↓DL.ifd_f, ↓DL.sz0, ↓DL.sz1, ↓DL.sz2, ↓DL.sz3, ↓DL.sz4, ↓DL.sz5, ↓DL.sz6, ↓DL.sz7, ↓DL.sz8, ↓DL.sz9, ↓DL.sz10, ↓DL.sz11, ↓DL.sz12, ↓DL.sz13, ↓DL.sz14, ↓DL.sz15, Bool.false_eq_true, ↓Bool.not_true, ↓Bool.not_false, ↓true_and, ↓and_true]
  rw [eg]
  refine ⟨hm x h2, hd _, hm y h1, hd _, ?_⟩
  rw [Int.one_mul, Int.one_mul]
  exact h
def T__law_plus : DTP := T_fractions_added
def T__law_minus : DTP := T_fractions_less
def T__law_times : DTP := T_fractions_times
def T__law_less : DTP := T_fractions_is_less
theorem fr_sz {p q : Rat} (hp : sm p) (hq : sm q) : (p.num * (q.den : Int) + q.num * (p.den : Int)).natAbs < 2 ^ 250 ∧ (p.num * q.num).natAbs < 2 ^ 250 := by
  have a1 := wide_lt (i := p.num) (j := (q.den : Int)) (a := 100) (b := 100) hp.1 (by simpa using hq.2)
  have a2 := wide_lt (i := q.num) (j := (p.den : Int)) (a := 100) (b := 100) hq.1 (by simpa using hp.2)
  have a3 := wide_lt (i := p.num) (j := q.num) hp.1 hq.1
  have e : (2 : Nat) ^ (100 + 100) + 2 ^ (100 + 100) ≤ 2 ^ 250 := by decide
  omega
theorem ok__law_plus (t : Txt K mg) : Cl P w K mg base 3 "_law_plus" 2 T__law_plus := by
  have nb := t.nb
  have c__law_fraction := ok__law_fraction (P := P) (w := w) (base := base) t
  refine cl_of t.d__law_plus sc__law_plus rfl (by intro xs Q h; unfold T__law_plus T_fractions_added at h; split at h <;> first | rfl | exact h.elim) (fun f cdv A outer s H E hr => (dss_one (ds_ret (de_callC c__law_fraction hr (by decide) (by rfl) (da_cons (de_addA (de_mulA (de_ix (de_var 0 (pv 0)) de_int) (de_ix (de_var 1 (pv 1)) de_int)) (de_mulA (de_ix (de_var 1 (pv 1)) de_int) (de_ix (de_var 0 (pv 0)) de_int))) (da_cons (de_mulA (de_ix (de_var 0 (pv 0)) de_int) (de_ix (de_var 1 (pv 1)) de_int)) da_nil)))))) (fun xs Q h => ?_)
  unfold T__law_plus T_fractions_added at h
  split at h
  rotate_left
  · exact h.elim
  rename_i x y
  obtain ⟨p, q, ⟨rfl, rfl, hp, hq⟩, h⟩ := h
  have e : p + q = mkRat (p.num * (q.den : Int) + q.num * (p.den : Int)) ((p.den : Int) * (q.den : Int)).toNat := by
    rw [Rat.add_def', ← Int.natCast_mul, Int.toNat_natCast]
  rw [e] at h
  simp only [↓DL.dVar, ↓DL.dC, ↓DL.dU, ↓DL.dOp, ↓DL.dBor, ↓DL.dBorT, ↓DL.dnLst, ↓DL.dFz, ↓DL.dSetN, ↓DL.dmNil, ↓DL.dmDat, ↓DL.dmNew, ↓DL.dPar, ↓DL.setAt0, ↓DL.setAt1, ↓DL.setAt2, ↓DL.ownAt, ↓DL.dSetIx, ↓DL.dAugIx, ↓DL.dCallB, ↓DL.insAt, ↓DL.dFld, ↓DL.dFldD, ↓DL.dFldN, ↓DL.fownAt, ↓DL.dAppF, ↓DL.dMeth, ↓DL.daNil, ↓DL.dMake, ↓DL.dZip2, ↓DL.dZip3, ↓DL.oAddL, ↓DL.oMulL, ↓DL.dnOp, ↓DL.oListN, ↓DL.dnU, ↓DL.dChain, ↓DL.dgLst, ↓DL.dmRaw, ↓DL.dmVarR, ↓DL.dCallM, ↓DL.dCallL, ↓DL.oRepr, ↓DL.asInt, ↓DL.asBool, ↓DL.asTup, ↓DL.asLst, ↓DL.asSeq, ↓DL.oI0, ↓DL.oI, ↓DL.oNeg, ↓DL.oEq_int, ↓DL.oNe_int, ↓DL.oIsN, ↓DL.oNotN, ↓DL.oIsB, ↓DL.oNotB, ↓DL.dTst, ↓DL.dNotB, ↓DL.dAndB, ↓DL.dOrB, ↓DL.dAndV, ↓DL.dOrV, ↓DL.dNotV, ↓DL.dIf, ↓DL.dNil, ↓DL.dCons, ↓DL.dStar, ↓DL.dTup, ↓DL.dLst, ↓DL.itemAt0, ↓DL.itemAt1, ↓DL.itemAt2, ↓DL.itemAt3, ↓DL.oIx, ↓DL.dNoPart, ↓DL.dPart, ↓DL.dSl, ↓DL.dgName, ↓DL.dgNil, ↓DL.dgCons, ↓DL.dgTup, ↓DL.dNext, ↓DL.dSeq, ↓DL.dBreak, ↓DL.dCont, ↓DL.dDrop, ↓DL.dRet, ↓DL.dRetN, ↓DL.dIfS, ↓DL.dNever, ↓DL.dAsg, ↓DL.dAug, ↓DL.dOwn, ↓DL.dApp, ↓DL.dFrz, ↓DL.dFrzS, ↓DL.dIt, ↓DL.dItL, ↓DL.dItT, ↓DL.dRng1, ↓DL.dRng2, ↓DL.dZip, ↓DL.dFor, ↓DL.dYes, ↓DL.turnD, ↓DL.dLc, ↓DL.dRetO, ↓DL.dnCall, ↓DL.dnMove, ↓DL.frzAll, ↓DL.frz1, ↓DL.noLst, ↓DL.noLsts, ↓DL.dFz, ↓DL.dCall, ↓DL.dCB, ↓DL.oLen, ↓DL.oAbs, ↓DL.oInt2, ↓DL.oInt, ↓DL.oTuple, ↓DL.oList, ↓DL.dIsi, ↓DL.dEnum, ↓DL.oAdd, ↓DL.oMul, ↓DL.putAll, ↓DL.isNone, ↓DL.isIntB, ↓DL.isBoolB, ↓DL.isTupB, ↓DL.isStrB, ↓List.map_cons, ↓List.map_nil, ↓List.length_cons, ↓List.length_nil, ↓List.replicate_succ, ↓List.replicate_zero, ↓List.cons_append, ↓List.nil_append, ↓List.append_nil, ↓List.getElem?_cons_zero, ↓List.getElem?_cons_succ, ↓List.set_cons_zero, ↓List.set_cons_succ, Nat.reduceAdd, Nat.reduceSub, Nat.sub_self, Nat.add_sub_cancel, Nat.zero_add, ↓List.append_assoc, ↓DL.ifd_t, ↓DL.ifd_f, ↓DL.sz0, ↓DL.sz1, ↓DL.sz2, ↓DL.sz3, ↓DL.sz4, ↓DL.sz5, ↓DL.sz6, ↓DL.sz7, ↓DL.sz8, ↓DL.sz9, ↓DL.sz10, ↓DL.sz11, ↓DL.sz12, ↓DL.sz13, ↓DL.sz14, ↓DL.sz15, Bool.false_eq_true, ↓Bool.not_true, ↓Bool.not_false, ↓true_and, ↓and_true, fr, T__law_fraction]
  exact ⟨sm_mul hp hq, sm_mul hq hp, sm_mulD hp hq, ⟨den_pos2 p q, den_lt2 hp hq, (fr_sz hp hq).1⟩, h⟩
theorem ok__law_times (t : Txt K mg) : Cl P w K mg base 3 "_law_times" 2 T__law_times := by
  have nb := t.nb
  have c__law_fraction := ok__law_fraction (P := P) (w := w) (base := base) t
  refine cl_of t.d__law_times sc__law_times rfl (by intro xs Q h; unfold T__law_times T_fractions_times at h; split at h <;> first | rfl | exact h.elim) (fun f cdv A outer s H E hr => (dss_one (ds_ret (de_callC c__law_fraction hr (by decide) (by rfl) (da_cons (de_mulA (de_ix (de_var 0 (pv 0)) de_int) (de_ix (de_var 1 (pv 1)) de_int)) (da_cons (de_mulA (de_ix (de_var 0 (pv 0)) de_int) (de_ix (de_var 1 (pv 1)) de_int)) da_nil)))))) (fun xs Q h => ?_)
  unfold T__law_times T_fractions_times at h
  split at h
  rotate_left
  · exact h.elim
  rename_i x y
  obtain ⟨p, q, ⟨rfl, rfl, hp, hq⟩, h⟩ := h
  have e : p * q = mkRat (p.num * q.num) ((p.den : Int) * (q.den : Int)).toNat := by
    rw [Rat.mul_def', ← Int.natCast_mul, Int.toNat_natCast]
  rw [e] at h
  simp only [↓DL.dVar, ↓DL.dC, ↓DL.dU, ↓DL.dOp, ↓DL.dBor, ↓DL.dBorT, ↓DL.dnLst, ↓DL.dFz, ↓DL.dSetN, ↓DL.dmNil, ↓DL.dmDat, ↓DL.dmNew, ↓DL.dPar, ↓DL.setAt0, ↓DL.setAt1, ↓DL.setAt2, ↓DL.ownAt, ↓DL.dSetIx, ↓DL.dAugIx, ↓DL.dCallB, ↓DL.insAt, ↓DL.dFld, ↓DL.dFldD, ↓DL.dFldN, ↓DL.fownAt, ↓DL.dAppF, ↓DL.dMeth, ↓DL.daNil, ↓DL.dMake, ↓DL.dZip2, ↓DL.dZip3, ↓DL.oAddL, ↓DL.oMulL, ↓DL.dnOp, ↓DL.oListN, ↓DL.dnU, ↓DL.dChain, ↓DL.dgLst, ↓DL.dmRaw, ↓DL.dmVarR, ↓DL.dCallM, ↓DL.dCallL, ↓DL.oRepr, ↓DL.asInt, ↓DL.asBool, ↓DL.asTup, ↓DL.asLst, ↓DL.asSeq, ↓DL.oI0, ↓DL.oI, ↓DL.oNeg, ↓DL.oEq_int, ↓DL.oNe_int, ↓DL.oIsN, ↓DL.oNotN, ↓DL.oIsB, ↓DL.oNotB, ↓DL.dTst, ↓DL.dNotB, ↓DL.dAndB, ↓DL.dOrB, ↓DL.dAndV, ↓DL.dOrV, ↓DL.dNotV, ↓DL.dIf, ↓DL.dNil, ↓DL.dCons, ↓DL.dStar, ↓DL.dTup, ↓DL.dLst, ↓DL.itemAt0, ↓DL.itemAt1, ↓DL.itemAt2, ↓DL.itemAt3, ↓DL.oIx, ↓DL.dNoPart, ↓DL.dPart, ↓DL.dSl, ↓DL.dgName, ↓DL.dgNil, ↓DL.dgCons, ↓DL.dgTup, ↓DL.dNext, ↓DL.dSeq, ↓DL.dBreak, ↓DL.dCont, ↓DL.dDrop, ↓DL.dRet, ↓DL.dRetN, ↓DL.dIfS, ↓DL.dNever, ↓DL.dAsg, ↓DL.dAug, ↓DL.dOwn, ↓DL.dApp, ↓DL.dFrz, ↓DL.dFrzS, ↓DL.dIt, ↓DL.dItL, ↓DL.dItT, ↓DL.dRng1, ↓DL.dRng2, ↓DL.dZip, ↓DL.dFor, ↓DL.dYes, ↓DL.turnD, ↓DL.dLc, ↓DL.dRetO, ↓DL.dnCall, ↓DL.dnMove, ↓DL.frzAll, ↓DL.frz1, ↓DL.noLst, ↓DL.noLsts, ↓DL.dFz, ↓DL.dCall, ↓DL.dCB, ↓DL.oLen, ↓DL.oAbs, ↓DL.oInt2, ↓DL.oInt, ↓DL.oTuple, ↓DL.oList, ↓DL.dIsi, ↓DL.dEnum, ↓DL.oAdd, ↓DL.oMul, ↓DL.putAll, ↓DL.isNone, ↓DL.isIntB, ↓DL.isBoolB, ↓DL.isTupB, ↓DL.isStrB, ↓List.map_cons, ↓List.map_nil, ↓List.length_cons, ↓List.length_nil, ↓List.replicate_succ, ↓List.replicate_zero, ↓List.cons_append, ↓List.nil_append, ↓List.append_nil, ↓List.getElem?_cons_zero, ↓List.getElem?_cons_succ, ↓List.set_cons_zero, ↓List.set_cons_succ, Nat.reduceAdd, Nat.reduceSub, Nat.sub_self, Nat.add_sub_cancel, Nat.zero_add, ↓List.append_assoc, ↓DL.ifd_t, ↓DL.ifd_f, ↓DL.sz0, ↓DL.sz1, ↓DL.sz2, ↓DL.sz3, ↓DL.sz4, ↓DL.sz5, ↓DL.sz6, ↓DL.sz7, ↓DL.sz8, ↓DL.sz9, ↓DL.sz10, ↓DL.sz11, ↓DL.sz12, ↓DL.sz13, ↓DL.sz14, ↓DL.sz15, Bool.false_eq_true, ↓Bool.not_true, ↓Bool.not_false, ↓true_and, ↓and_true, fr, T__law_fraction]
  exact ⟨sm_mulN hp hq, sm_mulD hp hq, ⟨den_pos2 p q, den_lt2 hp hq, (fr_sz hp hq).2⟩, h⟩
theorem ok__law_minus (t : Txt K mg) : Cl P w K mg base 4 "_law_minus" 2 T__law_minus := by
  have nb := t.nb
  have c__law_plus := ok__law_plus (P := P) (w := w) (base := base) t
  refine cl_of t.d__law_minus sc__law_minus rfl (by intro xs Q h; unfold T__law_minus T_fractions_less at h; split at h <;> first | rfl | exact h.elim) (fun f cdv A outer s H E hr => (dss_one (ds_ret (de_callC c__law_plus hr (by decide) (by rfl) (da_cons (de_var 0 (pv 0)) (da_cons (de_tup (da_cons (de_sub de_int (de_ix (de_var 1 (pv 1)) de_int)) (da_cons (de_ix (de_var 1 (pv 1)) de_int) da_nil))) da_nil)))))) (fun xs Q h => ?_)
  unfold T__law_minus T_fractions_less at h
  split at h
  rotate_left
  · exact h.elim
  rename_i x y
  obtain ⟨p, q, ⟨rfl, rfl, hp, hq⟩, h⟩ := h
  rw [Rat.sub_eq_add_neg] at h
  have e : (.tuple [.int (0 - q.num), .int (q.den : Int)] : PyData) = fr (-q) := (fr_neg q).symm
  simp only [↓DL.dVar, ↓DL.dC, ↓DL.dU, ↓DL.dOp, ↓DL.dBor, ↓DL.dBorT, ↓DL.dnLst, ↓DL.dFz, ↓DL.dSetN, ↓DL.dmNil, ↓DL.dmDat, ↓DL.dmNew, ↓DL.dPar, ↓DL.setAt0, ↓DL.setAt1, ↓DL.setAt2, ↓DL.ownAt, ↓DL.dSetIx, ↓DL.dAugIx, ↓DL.dCallB, ↓DL.insAt, ↓DL.dFld, ↓DL.dFldD, ↓DL.dFldN, ↓DL.fownAt, ↓DL.dAppF, ↓DL.dMeth, ↓DL.daNil, ↓DL.dMake, ↓DL.dZip2, ↓DL.dZip3, ↓DL.oAddL, ↓DL.oMulL, ↓DL.dnOp, ↓DL.oListN, ↓DL.dnU, ↓DL.dChain, ↓DL.dgLst, ↓DL.dmRaw, ↓DL.dmVarR, ↓DL.dCallM, ↓DL.dCallL, ↓DL.oRepr, ↓DL.asInt, ↓DL.asBool, ↓DL.asTup, ↓DL.asLst, ↓DL.asSeq, ↓DL.oI0, ↓DL.oI, ↓DL.oNeg, ↓DL.oEq_int, ↓DL.oNe_int, ↓DL.oIsN, ↓DL.oNotN, ↓DL.oIsB, ↓DL.oNotB, ↓DL.dTst, ↓DL.dNotB, ↓DL.dAndB, ↓DL.dOrB, ↓DL.dAndV, ↓DL.dOrV, ↓DL.dNotV, ↓DL.dIf, ↓DL.dNil, ↓DL.dCons, ↓DL.dStar, ↓DL.dTup, ↓DL.dLst, ↓DL.itemAt0, ↓DL.itemAt1, ↓DL.itemAt2, ↓DL.itemAt3, ↓DL.oIx, ↓DL.dNoPart, ↓DL.dPart, ↓DL.dSl, ↓DL.dgName, ↓DL.dgNil, ↓DL.dgCons, ↓DL.dgTup, ↓DL.dNext, ↓DL.dSeq, ↓DL.dBreak, ↓DL.dCont, ↓DL.dDrop, ↓DL.dRet, ↓DL.dRetN, ↓DL.dIfS, ↓DL.dNever, ↓DL.dAsg, ↓DL.dAug, ↓DL.dOwn, ↓DL.dApp, ↓DL.dFrz, ↓DL.dFrzS, ↓DL.dIt, ↓DL.dItL, ↓DL.dItT, ↓DL.dRng1, ↓DL.dRng2, ↓DL.dZip, ↓DL.dFor, ↓DL.dYes, ↓DL.turnD, ↓DL.dLc, ↓DL.dRetO, ↓DL.dnCall, ↓DL.dnMove, ↓DL.frzAll, ↓DL.frz1, ↓DL.noLst, ↓DL.noLsts, ↓DL.dFz, ↓DL.dCall, ↓DL.dCB, ↓DL.oLen, ↓DL.oAbs, ↓DL.oInt2, ↓DL.oInt, ↓DL.oTuple, ↓DL.oList, ↓DL.dIsi, ↓DL.dEnum, ↓DL.oAdd, ↓DL.oMul, ↓DL.putAll, ↓DL.isNone, ↓DL.isIntB, ↓DL.isBoolB, ↓DL.isTupB, ↓DL.isStrB, ↓List.map_cons, ↓List.map_nil, ↓List.length_cons, ↓List.length_nil, ↓List.replicate_succ, ↓List.replicate_zero, ↓List.cons_append, ↓List.nil_append, ↓List.append_nil, ↓List.getElem?_cons_zero, ↓List.getElem?_cons_succ, ↓List.set_cons_zero, ↓List.set_cons_succ, Nat.reduceAdd, Nat.reduceSub, Nat.sub_self, Nat.add_sub_cancel, Nat.zero_add, ↓List.append_assoc, ↓DL.ifd_t, ↓DL.ifd_f, ↓DL.sz0, ↓DL.sz1, ↓DL.sz2, ↓DL.sz3, ↓DL.sz4, ↓DL.sz5, ↓DL.sz6, ↓DL.sz7, ↓DL.sz8, ↓DL.sz9, ↓DL.sz10, ↓DL.sz11, ↓DL.sz12, ↓DL.sz13, ↓DL.sz14, ↓DL.sz15, Bool.false_eq_true, ↓Bool.not_true, ↓Bool.not_false, ↓true_and, ↓and_true, fr, T__law_plus, T_fractions_added]
  exact ⟨p, -q, ⟨rfl, e, hp, sm_neg hq⟩, h⟩
theorem ok__law_less (t : Txt K mg) : Cl P w K mg base 1 "_law_less" 2 T__law_less := by
  have nb := t.nb
  refine cl_of t.d__law_less sc__law_less rfl (by intro xs Q h; unfold T__law_less T_fractions_is_less at h; split at h <;> first | rfl | exact h.elim) (fun f cdv A outer s H E hr => (dss_one (ds_ret (de_cmp op_lt od_lt (de_mulA (de_ix (de_var 0 (pv 0)) de_int) (de_ix (de_var 1 (pv 1)) de_int)) (de_mulA (de_ix (de_var 1 (pv 1)) de_int) (de_ix (de_var 0 (pv 0)) de_int)) (nomark _))))) (fun xs Q h => ?_)
  unfold T__law_less T_fractions_is_less at h
  split at h
  rotate_left
  · exact h.elim
  rename_i x y
  obtain ⟨p, q, ⟨rfl, rfl, hp, hq⟩, h⟩ := h
  simp only [↓DL.dVar, ↓DL.dC, ↓DL.dU, ↓DL.dOp, ↓DL.dBor, ↓DL.dBorT, ↓DL.dnLst, ↓DL.dFz, ↓DL.dSetN, ↓DL.dmNil, ↓DL.dmDat, ↓DL.dmNew, ↓DL.dPar, ↓DL.setAt0, ↓DL.setAt1, ↓DL.setAt2, ↓DL.ownAt, ↓DL.dSetIx, ↓DL.dAugIx, ↓DL.dCallB, ↓DL.insAt, ↓DL.dFld, ↓DL.dFldD, ↓DL.dFldN, ↓DL.fownAt, ↓DL.dAppF, ↓DL.dMeth, ↓DL.daNil, ↓DL.dMake, ↓DL.dZip2, ↓DL.dZip3, ↓DL.oAddL, ↓DL.oMulL, ↓DL.dnOp, ↓DL.oListN, ↓DL.dnU, ↓DL.dChain, ↓DL.dgLst, ↓DL.dmRaw, ↓DL.dmVarR, ↓DL.dCallM, ↓DL.dCallL, ↓DL.oRepr, ↓DL.asInt, ↓DL.asBool, ↓DL.asTup, ↓DL.asLst, ↓DL.asSeq, ↓DL.oI0, ↓DL.oI, ↓DL.oNeg, ↓DL.oEq_int, ↓DL.oNe_int, ↓DL.oIsN, ↓DL.oNotN, ↓DL.oIsB, ↓DL.oNotB, ↓DL.dTst, ↓DL.dNotB, ↓DL.dAndB, ↓DL.dOrB, ↓DL.dAndV, ↓DL.dOrV, ↓DL.dNotV, ↓DL.dIf, ↓DL.dNil, ↓DL.dCons, ↓DL.dStar, ↓DL.dTup, ↓DL.dLst, ↓DL.itemAt0, ↓DL.itemAt1, ↓DL.itemAt2, ↓DL.itemAt3, ↓DL.oIx, ↓DL.dNoPart, ↓DL.dPart, ↓DL.dSl, ↓DL.dgName, ↓DL.dgNil, ↓DL.dgCons, ↓DL.dgTup, ↓DL.dNext, ↓DL.dSeq, ↓DL.dBreak, ↓DL.dCont, ↓DL.dDrop, ↓DL.dRet, ↓DL.dRetN, ↓DL.dIfS, ↓DL.dNever, ↓DL.dAsg, ↓DL.dAug, ↓DL.dOwn, ↓DL.dApp, ↓DL.dFrz, ↓DL.dFrzS, ↓DL.dIt, ↓DL.dItL, ↓DL.dItT, ↓DL.dRng1, ↓DL.dRng2, ↓DL.dZip, ↓DL.dFor, ↓DL.dYes, ↓DL.turnD, ↓DL.dLc, ↓DL.dRetO, ↓DL.dnCall, ↓DL.dnMove, ↓DL.frzAll, ↓DL.frz1, ↓DL.noLst, ↓DL.noLsts, ↓DL.dFz, ↓DL.dCall, ↓DL.dCB, ↓DL.oLen, ↓DL.oAbs, ↓DL.oInt2, ↓DL.oInt, ↓DL.oTuple, ↓DL.oList, ↓DL.dIsi, ↓DL.dEnum, ↓DL.oAdd, ↓DL.oMul, ↓DL.putAll, ↓DL.isNone, ↓DL.isIntB, ↓DL.isBoolB, ↓DL.isTupB, ↓DL.isStrB, ↓List.map_cons, ↓List.map_nil, ↓List.length_cons, ↓List.length_nil, ↓List.replicate_succ, ↓List.replicate_zero, ↓List.cons_append, ↓List.nil_append, ↓List.append_nil, ↓List.getElem?_cons_zero, ↓List.getElem?_cons_succ, ↓List.set_cons_zero, ↓List.set_cons_succ, Nat.reduceAdd, Nat.reduceSub, Nat.sub_self, Nat.add_sub_cancel, Nat.zero_add, ↓List.append_assoc, ↓DL.ifd_t, ↓DL.ifd_f, ↓DL.sz0, ↓DL.sz1, ↓DL.sz2, ↓DL.sz3, ↓DL.sz4, ↓DL.sz5, ↓DL.sz6, ↓DL.sz7, ↓DL.sz8, ↓DL.sz9, ↓DL.sz10, ↓DL.sz11, ↓DL.sz12, ↓DL.sz13, ↓DL.sz14, ↓DL.sz15, Bool.false_eq_true, ↓Bool.not_true, ↓Bool.not_false, ↓true_and, ↓and_true, fr]
  refine ⟨sm_mul hp hq, sm_mul hq hp, ?_⟩
  have e : decide (p.num * (q.den : Int) < q.num * (p.den : Int)) = decide (p < q) := decide_eq_decide.mpr (Rat.lt_iff p q).symm
  rw [e]
  exact h
/-! ### names of streams, services for them -/
def stN : List Str := ["a", "b", "c", "d", "e"]
def stD (k : Nat) : PyData := .tuple ((stN.take k).map .str)
theorem stN_len {k : Nat} (h : k ≤ 5) : (stN.take k).length = k := by
  rw [List.length_take]
  show min k 5 = k
  omega
def T__law_streams : DTB := fun ob xs Q => match xs with
  | [.int m] => ∃ n : Nat, (good n ob ∧ n < 2 ^ 39 ∧ 1 ≤ m ∧ m ≤ 4) ∧ ∀ (k : Nat) ob', 1 ≤ k → (k : Int) ≤ m → good (n + 1) ob' → Q (stD k) ob'
  | _ => False
theorem ok__law_streams (t : Txt K mg) : ClB P w K mg base 2 "_law_streams" 2 T__law_streams := by
  have nb := t.nb
  have c__law_take := ok__law_take (P := P) (w := w) (base := base) t
  refine clB_of t.d__law_streams sc__law_streams rfl (by intro ob xs Q h; unfold T__law_streams at h; split at h <;> first | rfl | exact h.elim) (fun f cdv A outer s H E hr => (dss_one (ds_ret (de_slice (de_tup (da_cons de_str (da_cons de_str (da_cons de_str (da_cons de_str da_nil))))) do_none (do_some (de_addA de_int (de_callB 0 c__law_take hr (by decide) (by rfl) (pv 0) (da_cons (de_var 1 (pv 1)) da_nil)))))))) (fun a0 ob xs Q h => ?_)
  unfold T__law_streams at h
  split at h
  rotate_left
  · exact h.elim
  rename_i x
  obtain ⟨n, ⟨hg, hn, hm1, hm4⟩, h⟩ := h
  refine ⟨by decide, n, ⟨hg, by omega, by omega, by omega⟩, fun v ob' h0 h1 hg' => ?_⟩
  obtain ⟨v, rfl⟩ : ∃ n : Nat, v = (n : Int) := ⟨v.toNat, by omega⟩
  refine ⟨rfl, ?_⟩
  have e : (1 : Int) + (v : Int) = ((1 + v : Nat) : Int) := by omega
  have h := h (1 + v) ob' (by omega) (by omega) hg'
  have hv : v < 4 := by omega
  match v, hv with
  | 0, _ => exact h
  | 1, _ => exact h
  | 2, _ => exact h
  | 3, _ => exact h
def T__law_servicesS : DTB := fun ob xs Q => match xs with
  | [s, .int m] => ∃ (n k : Nat), (s = stD k ∧ good n ob ∧ n < 2 ^ 39 ∧ 1 ≤ k ∧ k ≤ 5 ∧ 1 ≤ m ∧ m ≤ 4) ∧ ∀ L ob', SvOk k L → good (n + 40) ob' → Q (rowsD L) ob'
  | _ => False
theorem rat_ok {v u N : Nat} (hu : 1 ≤ u) (hv : v ≤ N * u) (hd : u ∣ 55440) : 0 ≤ mkRat (v : Int) u ∧ tv N (mkRat (v : Int) u) := by
  rw [Rat.mkRat_eq_div]
  have hu0 : (0 : Rat) < (((u : Nat) : Int) : Rat) := Rat.intCast_lt_intCast.mpr (show (0 : Int) < (u : Int) by omega)
  have hv0 : (0 : Rat) ≤ ((v : Int) : Rat) := Rat.intCast_le_intCast.mpr (show (0 : Int) ≤ (v : Int) by omega)
  have e : ((u : Nat) : Rat) = (((u : Nat) : Int) : Rat) := rfl
  rw [e]
  exact ⟨by rw [Rat.div_def]; exact Rat.mul_nonneg hv0 (by have := Rat.inv_pos.mpr hu0; grind), tv_div hd (by omega) (by simpa using hv)⟩
def T__law_rates : DTB := fun ob xs Q => match xs with
  | [s] => ∃ (n k : Nat), (s = stD k ∧ good n ob ∧ n < 2 ^ 39 ∧ k ≤ 5) ∧ ∀ (R : List Rat) ob', R.length = k → (∀ r ∈ R, 0 ≤ r ∧ tv 2 r) → good (n + 6) ob' → Q (.tuple (R.map fr)) ob'
  | _ => False
theorem ok__law_services (t : Txt K mg) : ClB P w K mg base 3 "_law_services" 3 T__law_servicesS := by
  have nb := t.nb
  have c__law_some := ok__law_some (P := P) (w := w) (base := base) t
  have c__law_take := ok__law_take (P := P) (w := w) (base := base) t
  refine clB_of t.d__law_services sc__law_services rfl (by intro ob xs Q h; unfold T__law_servicesS at h; split at h <;> first | rfl | exact h.elim) (fun f cdv A outer s H E hr => (dss_cons (ds_setLc (i := 3) (own := [("k", 4)]) rfl sc__law_services.nd rfl rfl (sw_true rfl rfl rfl (by decide +kernel)) (di_range1 (by rfl) nb.range_ (da_cons (de_addA de_int (de_callB 0 c__law_take hr (by decide) (by rfl) (pv 0) (da_cons (de_var 2 (pv 2)) da_nil))) da_nil)) (blkOk_by (by kernel_rfl)) (fun _ _ _ _ _ => (dw_name (i := 4) (pg_name (i := 4) sc__law_services.nd rfl (by first | exact .inl rfl | exact .inr rfl)) (by decide))) (fun _ _ _ _ _ => dts_nil) (fun _ _ _ _ _ => (de_bty call_tuple_of od_tuple (by rfl) nb.tuple_ (by decide +kernel) (da_cons (de_lc (own := [("stream", 5)]) rfl sc__law_services.nd (di_seq (de_var 1 (pv 1))) (blkOk_by (by kernel_rfl)) (fun _ _ _ _ _ => (dw_name (i := 5) (pg_name (i := 5) sc__law_services.nd rfl (by first | exact .inl rfl | exact .inr rfl)) (by decide))) (fun _ _ _ _ _ => dts_nil) (fun _ _ _ _ _ => (de_callB 0 c__law_some hr (by decide) (by rfl) (pv 0) (da_cons (de_lst (da_cons de_int (da_cons de_int (da_cons de_int (da_cons de_int (da_cons de_int (da_cons de_int da_nil))))))) da_nil)))) da_nil))))
 (dss_one (ds_ret (de_bty call_tuple_of od_tuple (by rfl) nb.tuple_ (by decide +kernel) (da_cons (de_sortedSet rfl hr.units (by rfl) nb.sorted_ (by rfl) nb.set_ (de_var 3 (pv 3))) da_nil)))))) (fun a0 ob xs Q h => ?_)
  unfold T__law_servicesS at h
  split at h
  rotate_left
  · exact h.elim
  rename_i x y
  obtain ⟨n, k, ⟨rfl, hg, hn, hk1, hk2, hm1, hm4⟩, h⟩ := h
  refine seq_of (fun ρ' => ∃ (ob : Ob) (ks : List (List Int)), ρ' = [.o a0 ob, .d (stD k), .d (.int y), .d (.list (ks.map tupI)), .un, .un] ∧ good (n + 40) ob ∧ 1 ≤ ks.length ∧ ks.length ≤ 4 ∧ ∀ s ∈ ks, s.length = k ∧ ∀ x ∈ s, 0 ≤ x ∧ x ≤ 3) (fun N hN => ?_) (fun ρ' hR => ?_)
  · refine ⟨n, ⟨hg, by omega, by omega, by omega⟩, fun v ob1 h0 h1 hg1 => ?_⟩
    obtain ⟨v, rfl⟩ : ∃ n : Nat, v = (n : Int) := ⟨v.toNat, by omega⟩
    refine ⟨rng (by omega), ?_⟩
    show (rangeD 0 (1 + (v : Int)).toNat).length ≤ sizeLine ∧ compD _ _ _ _ (rangeD 0 (1 + (v : Int)).toNat) _ _
    have ev : (1 + (v : Int)).toNat = 1 + v := by omega
    rw [ev]
    unfold rangeD
    refine ⟨range_szN (by omega), ?_⟩
    refine comp_of (enc := fun (i : Nat) => .int (0 + (i : Int))) (l := List.range (1 + v)) (fun r acc ρ => ∃ ob ks, ρ = [.o a0 ob, .d (stD k), .d (.int y), .un, .un, .un] ∧ acc = ks.map tupI ∧ good (n + 1 + 9 * ks.length) ob ∧ ks.length + r.length = 1 + v ∧ ∀ s ∈ ks, s.length = k ∧ ∀ x ∈ s, 0 ≤ x ∧ x ≤ 3)
      (fun i r acc ρ kk hI hkk => ?_) (acc := []) ⟨ob1, [], rfl, rfl, hg1, by simp, fun s hs => nomatch hs⟩ (fun ys ρ hI => ?_)
    · obtain ⟨ob, ks, rfl, rfl, hg2, hl, hks⟩ := hI
      rw [List.length_cons] at hl
      refine ⟨rfl, .t rfl ?_⟩
      show ((stN.take k).map PyData.str).length ≤ sizeLine ∧ compD _ _ _ _ ((stN.take k).map PyData.str) _ _
      refine ⟨by rw [List.length_map, stN_len hk2]; exact Nat.le_of_lt (small1000 (by omega)), ?_⟩
      refine comp_of (fun r acc ρ => ∃ ob is, ρ = [.o a0 ob, .d (stD k), .d (.int y), .un, .d (.int (0 + (i : Int))), .un] ∧ acc = is.map PyData.int ∧ good (n + 1 + 9 * ks.length + is.length) ob ∧ is.length + r.length = k ∧ ∀ x ∈ is, 0 ≤ x ∧ x ≤ 3)
        (fun j r acc ρ kk2 hI hkk2 => ?_) (acc := []) ⟨ob, [], rfl, rfl, hg2, by rw [stN_len hk2]; simp, fun s hs => nomatch hs⟩ (fun ys ρ hI => ?_)
      · obtain ⟨ob, is, rfl, rfl, hg3, hl3, his⟩ := hI
        rw [List.length_cons] at hl3
        refine ⟨rfl, .t rfl ⟨by decide, _, ⟨hg3, by omega, by decide, by decide⟩, fun y hy ob' hg' => ?_⟩⟩
        obtain ⟨z, rfl, hz⟩ : ∃ z : Int, y = .int z ∧ 0 ≤ z ∧ z ≤ 3 := by
          have : y = .int 0 ∨ y = .int 0 ∨ y = .int 1 ∨ y = .int 1 ∨ y = .int 2 ∨ y = .int 3 := by simpa using hy
          rcases this with e | e | e | e | e | e <;> exact ⟨_, e, by decide⟩
        exact hkk2 (some (.int z)) _ ⟨ob', is ++ [z], rfl, map_app1 PyData.int is z, by rw [len_app1]; exact hg', by rw [len_app1]; omega, all_app1 his hz⟩
      · obtain ⟨ob, is, rfl, e, hg3, hl3, his⟩ := hI
        rw [List.nil_append] at e
        subst e
        rw [List.length_nil] at hl3
        exact hkk (some (tupI is)) _ ⟨ob, ks ++ [is], rfl, map_app1 tupI ks is, by rw [len_app1]; exact good_mono hg3 (by omega), by rw [len_app1]; omega, all_app1 hks ⟨hl3, his⟩⟩
    · obtain ⟨ob, ks, rfl, e, hg2, hl, hks⟩ := hI
      rw [List.nil_append] at e
      subst e
      rw [List.length_nil] at hl
      exact hN _ ⟨ob, ks, rfl, good_mono hg2 (by omega), by omega, by omega, hks⟩
  · obtain ⟨ob, ks, rfl, hg2, hl, hl4, hks⟩ := hR
    refine ⟨ks, k, 4, rfl, by omega, hk1, fun s hs => ⟨(hks s hs).1, fun x hx => ?_⟩, fun L h1 h2 h3 h4 h5 => ⟨rfl, h L _ ⟨?_, h4, fun s hs => hks s (h1 s hs)⟩ hg2⟩⟩
    · have := (hks s hs).2 x hx
      omega
    · cases ks with
      | nil => rw [List.length_nil] at hl; omega
      | cons a r =>
        have := h2 a (List.mem_cons_self ..)
        exact List.length_pos_of_mem this
theorem ok__law_rates (t : Txt K mg) : ClB P w K mg base 3 "_law_rates" 2 T__law_rates := by
  have nb := t.nb
  have c__law_fraction := ok__law_fraction (P := P) (w := w) (base := base) t
  have c__law_some := ok__law_some (P := P) (w := w) (base := base) t
  have c__law_take := ok__law_take (P := P) (w := w) (base := base) t
  refine clB_of t.d__law_rates sc__law_rates rfl (by intro ob xs Q h; unfold T__law_rates at h; split at h <;> first | rfl | exact h.elim) (fun f cdv A outer s H E hr => (dss_cons (ds_set (i := 2) sc__law_rates.nd rfl (by first | exact .inl rfl | exact .inr rfl) (de_callB 0 c__law_some hr (by decide) (by rfl) (pv 0) (da_cons (de_lst (da_cons de_int (da_cons de_int (da_cons de_int (da_cons de_int da_nil))))) da_nil)))
 (dss_one (ds_ret (de_bty call_tuple_of od_tuple (by rfl) nb.tuple_ (by decide +kernel) (da_cons (de_lc (own := [("stream", 3)]) rfl sc__law_rates.nd (di_seq (de_var 1 (pv 1))) (blkOk_by (by kernel_rfl)) (fun _ _ _ _ _ => (dw_name (i := 3) (pg_name (i := 3) sc__law_rates.nd rfl (by first | exact .inl rfl | exact .inr rfl)) (by decide))) (fun _ _ _ _ _ => dts_nil) (fun _ _ _ _ _ => (de_callC c__law_fraction hr (by decide) (by rfl) (da_cons (de_callB 0 c__law_take hr (by decide) (by rfl) (pv 0) (da_cons (de_addA (de_mulA de_int (de_var 2 (pv 2))) de_int) da_nil)) (da_cons (de_var 2 (pv 2)) da_nil))))) da_nil)))))) (fun a0 ob xs Q h => ?_)
  unfold T__law_rates at h
  split at h
  rotate_left
  · exact h.elim
  rename_i x
  obtain ⟨n, k, ⟨rfl, hg, hn, hk⟩, h⟩ := h
  refine seq_of (fun ρ' => ∃ (ob : Ob) (u : Nat), ρ' = [.o a0 ob, .d (stD k), .d (.int (u : Int)), .un] ∧ 1 ≤ u ∧ u ≤ 4 ∧ good (n + 1) ob) (fun N hN => ?_) (fun ρ' hR => ?_)
  · refine ⟨by decide, _, ⟨hg, by omega, by decide, by decide⟩, fun y hy ob' hg' => ?_⟩
    obtain ⟨z, rfl, hz⟩ : ∃ z : Nat, y = .int (z : Int) ∧ 1 ≤ z ∧ z ≤ 4 := by
      have : y = .int 1 ∨ y = .int 2 ∨ y = .int 3 ∨ y = .int 4 := by simpa using hy
      rcases this with e | e | e | e
      · exact ⟨1, e, by decide⟩
      · exact ⟨2, e, by decide⟩
      · exact ⟨3, e, by decide⟩
      · exact ⟨4, e, by decide⟩
    exact hN _ ⟨ob', z, rfl, hz.1, hz.2, hg'⟩
  obtain ⟨ob, u, rfl, hu1, hu4, hg⟩ := hR
  show ((stN.take k).map PyData.str).length ≤ sizeLine ∧ compD _ _ _ _ ((stN.take k).map PyData.str) _ _
  refine ⟨by rw [List.length_map, stN_len hk]; exact Nat.le_of_lt (small1000 (by omega)), ?_⟩
  refine comp_of (fun r acc ρ => ∃ ob R, ρ = [.o a0 ob, .d (stD k), .d (.int (u : Int)), .un] ∧ acc = R.map fr ∧ good (n + 1 + R.length) ob ∧ R.length + r.length = k ∧ ∀ r ∈ R, 0 ≤ r ∧ tv 2 r)
    (fun j r acc ρ kk hI hkk => ?_) (acc := []) ⟨ob, [], rfl, rfl, hg, by rw [stN_len hk]; simp, fun s hs => nomatch hs⟩ (fun ys ρ hI => ?_)
  · obtain ⟨ob, R, rfl, rfl, hg3, hl3, hR⟩ := hI
    rw [List.length_cons] at hl3
    have cm2 : CMulW 2 (u : Int) := wide_mul (a := 64) (b := 64) (by decide) (by omega) (by decide) (by decide) (by decide)
    refine ⟨rfl, .t rfl ⟨cm2, _, ⟨hg3, by omega, by omega, by omega⟩, fun v ob' h0 h1 hg' => ?_⟩⟩
    obtain ⟨v, rfl⟩ : ∃ n : Nat, v = (n : Int) := ⟨v.toNat, by omega⟩
    have b250 : (1000 : Nat) ≤ 2 ^ 250 := by decide
    refine ⟨⟨by omega, by omega, by omega⟩, hkk (some (fr _)) _ ⟨ob', R ++ [mkRat (v : Int) (u : Int).toNat], rfl, map_app1 fr R _, by rw [len_app1]; exact hg', by rw [len_app1]; omega, all_app1 hR ?_⟩⟩
    rw [Int.toNat_natCast]
    exact rat_ok hu1 (by omega) (by rcases (show u = 1 ∨ u = 2 ∨ u = 3 ∨ u = 4 by omega) with e | e | e | e <;> rw [e] <;> decide)
  · obtain ⟨ob, R, rfl, e, hg3, hl3, hR⟩ := hI
    rw [List.nil_append] at e
    subst e
    rw [List.length_nil] at hl3
    exact ⟨rfl, h R _ hl3 hR (good_mono hg3 (by omega))⟩

end LW

namespace LW
open PySem PySem.Spec PyProof.Rows L2 DL
variable {P : Program} {w : World} {K : PySem.W.Frag} {mg : Str → Option Value} {base : Heap}
def T__law_boundR : DTB := fun ob xs Q => match xs with
  | [s] => ∃ (n : Nat) (R : List Rat), (s = .tuple (R.map fr) ∧ good n ob ∧ n < 2 ^ 38 ∧ R.length ≤ 8 ∧ ∀ r ∈ R, RtOk r) ∧ ∀ (B : List (Rat × Rat)) ob', B.map (·.1) = R → (∀ p ∈ B, BdOk p) → good (n + 16) ob' → Q (bdsD B) ob'
  | _ => False
theorem ok__law_bound (t : Txt K mg) : ClB P w K mg base 3 "_law_bound" 2 T__law_boundR := by
  have nb := t.nb
  have c__law_fraction := ok__law_fraction (P := P) (w := w) (base := base) t
  have c__law_take := ok__law_take (P := P) (w := w) (base := base) t
  refine clB_of t.d__law_bound sc__law_bound rfl (by intro ob xs Q h; unfold T__law_boundR at h; split at h <;> first | rfl | exact h.elim) (fun f cdv A outer s H E hr => (dss_cons (ds_setN (i := 2) sc__law_bound.nd rfl (by first | exact .inl rfl | exact .inr rfl) (dn_lst da_nil))
 (dss_cons (ds_for PassesOwn.never rfl (di_seq (de_var 1 (pv 1))) (dg_name (i := 3) (pg_name (i := 3) sc__law_bound.nd rfl (by first | exact .inl rfl | exact .inr rfl)))
 (dss_keep [true, false, true, true, false] (dss_cons (ds_set (i := 4) sc__law_bound.nd rfl (by first | exact .inl rfl | exact .inr rfl) (de_callC c__law_fraction hr (by decide) (by rfl) (da_cons (de_addA de_int (de_callB 0 c__law_take hr (by decide) (by rfl) (pv 0) (da_cons de_int da_nil))) (da_cons de_int da_nil))))
 (dss_one (ds_app 2 (pv 2) (de_ifExp (db_w (dw_and (db_cmp (op_eqD hr.units) od_eq (de_var 3 (pv 3)) (de_tup (da_cons de_int (da_cons de_int da_nil))) (nomark _)) (dw_and1 (db_cmp (op_eqD hr.units) od_eq (de_callB 0 c__law_take hr (by decide) (by rfl) (pv 0) (da_cons de_int da_nil)) de_int (nomark _))))) (de_tup (da_cons (de_var 3 (pv 3)) (da_cons (de_tup (da_cons de_int (da_cons de_int da_nil))) da_nil))) (de_tup (da_cons (de_var 3 (pv 3)) (da_cons (de_var 4 (pv 4)) da_nil)))))))))
 (dss_keep [true, false, true, false, false] (dss_one (ds_ret (de_bor (de_bty call_tuple_of od_tuple (by rfl) nb.tuple_ (by decide +kernel) (da_cons (de_var 2 (pv 2)) da_nil))))))))) (fun a0 ob xs Q h => ?_)
  unfold T__law_boundR at h
  split at h
  rotate_left
  · exact h.elim
  rename_i x
  obtain ⟨n, R, ⟨rfl, hg, hn, hR8, hR⟩, h⟩ := h
  refine ⟨by decide, fun fp => ?_⟩
  dsimp only [DL.putAll, DL.dgName, DL.dgCons, DL.dgNil, DL.dgTup, DL.asTup, List.map_cons, List.map_nil, List.cons_append, List.nil_append, List.replicate_succ, List.replicate_zero, List.length_cons, List.length_nil, Nat.reduceAdd, Nat.reduceSub, List.set_cons_zero, List.set_cons_succ]
  refine seq_of (fun ρ' => ∃ (ob : Ob) (B : List (Rat × Rat)), keepS [true, false, true, false, false] ρ' = [.o a0 ob, .un, .o fp (.lst (B.map bdD)), .un, .un] ∧ good (n + 2 * B.length) ob ∧ B.map (·.1) = R ∧ ∀ p ∈ B, BdOk p) (fun N hN => ?_) (fun ρ' hR => ?_)
  · show forD _ _ _ (R.map fr) _
    refine for_of (fun rest ρ => ∃ (ob : Ob) (B : List (Rat × Rat)) (s3 : Sl), keepS [true, false, true, true, false] ρ = [.o a0 ob, .un, .o fp (.lst (B.map bdD)), s3, .un] ∧ good (n + 2 * B.length) ob ∧ B.map (·.1) ++ rest = R ∧ ∀ p ∈ B, BdOk p) (fun a rest ρ N2 hN2 hI => ?_) (fun ρ hI => ?_) ⟨ob, [], .un, rfl, hg, rfl, fun p hp => nomatch hp⟩
    · obtain ⟨ob, B, s3, hρ, hg2, hB, hBo⟩ := hI
      have hlen : B.length + (rest.length + 1) = R.length := by
        have := congrArg List.length hB
        rw [List.length_append, List.length_map, List.length_cons] at this
        exact this
      have hra : RtOk a := hR a (by rw [← hB]; exact List.mem_append_right _ (List.mem_cons_self ..))
      refine tg_name (keep_of ((keep_set rfl).trans (by rw [hρ])) ?_)
      have big : (1000 : Nat) ≤ 2 ^ 250 := by decide
      refine ⟨_, ⟨hg2, by omega, by decide, by decide⟩, fun v ob1 h0 h1 hg3 => ?_⟩
      obtain ⟨v, rfl⟩ : ∃ n : Nat, v = (n : Int) := ⟨v.toNat, by omega⟩
      refine ⟨⟨by decide, by decide, by omega⟩, ?_⟩
      have e2 : (2 : Int) + (v : Int) = ((2 + v : Nat) : Int) := by omega
      obtain ⟨b, hb⟩ : ∃ b, b = mkRat ((2 : Int) + (v : Int)) (2 : Int).toNat := ⟨_, rfl⟩
      have hb1 : 0 ≤ b ∧ tv 100 b := by
        rw [hb, e2]
        exact rat_ok (u := 2) (by decide) (by omega) (by decide)
      have hb2 : 1 ≤ b := by
        rw [hb, Rat.mkRat_eq_div]
        have e3 : (((2 : Int).toNat : Nat) : Rat) = 2 := rfl
        rw [e3, Rat.intCast_add]
        have e4 : ((2 : Int) : Rat) = 2 := rfl
        rw [e4]
        have : (0 : Rat) ≤ ((v : Int) : Rat) := Rat.intCast_le_intCast.mpr (show (0 : Int) ≤ (v : Int) by omega)
        grind
      rw [← hb]
      have fin : ∀ (y : Rat) (ob2 : Ob), BdOk (a, y) → good (n + 2 * (B.length + 1)) ob2 → 2 ≤ sizeLine ∧ (B.map bdD).length < sizeLine ∧ N2 [.o a0 ob2, .un, .o fp (.lst (B.map bdD ++ [.tuple [fr a, fr y]])), .d (fr a), .d (fr b)] := fun y ob2 hy hg4 => by
        refine ⟨by decide, by rw [List.length_map]; exact small1000 (by omega), hN2 _ ⟨ob2, B ++ [(a, y)], .d (fr a), ?_, by rw [len_app1]; exact hg4, ?_, all_app1 hBo hy⟩⟩
        · rw [List.map_append]
          rfl
        · rw [List.map_append, List.append_assoc]
          exact hB
      dsimp only [DL.putAll, DL.dgName, DL.dgCons, DL.dgNil, DL.dgTup, DL.asTup, List.map_cons, List.map_nil, List.cons_append, List.nil_append, List.replicate_succ, List.replicate_zero, List.length_cons, List.length_nil, Nat.reduceAdd, Nat.reduceSub, List.set_cons_zero, List.set_cons_succ]
      have full : BdOk (a, b) := ⟨hra, hb1.2, .inl hb2⟩
      refine ⟨by show 2 ≤ sizeLine; decide, ⟨fr_shaped a, rfl⟩, ?_⟩
      by_cases z1 : a = 0
      · refine .t ((fr_eqv a 0).trans (decide_eq_true z1)) ⟨_, ⟨hg3, by omega, by decide, by decide⟩, fun v2 ob2 g0 g1 hg4 => ⟨⟨rfl, rfl⟩, ?_⟩⟩
        by_cases z2 : v2 = 0
        · exact .t (eq_intT z2) ⟨by show 2 ≤ sizeLine; decide, fin 0 ob2 ⟨hra, tv_zero 100, .inr ⟨z1, rfl⟩⟩ (good_mono hg4 (by omega))⟩
        · exact .f (eq_intF z2) (fin b ob2 full (good_mono hg4 (by omega)))
      · exact .f ((fr_eqv a 0).trans (decide_eq_false z1)) (.f rfl (fin b ob1 full (good_mono hg3 (by omega))))
    · obtain ⟨ob, B, s3, hρ, hg2, hB, hBo⟩ := hI
      rw [List.append_nil] at hB
      exact hN _ ⟨ob, B, keep_sub rfl hρ rfl, hg2, hB, hBo⟩
  · obtain ⟨ob, B, hρ, hg2, hB, hBo⟩ := hR
    refine keep_of hρ ?_
    have hBl : B.length ≤ 8 := by rw [← hB, List.length_map] at hR8; exact hR8
    exact ⟨noLst_tup bdD (fun _ => rfl) B, rfl, h B _ hB hBo (good_mono hg2 (by omega))⟩
/-- the first breach at one stream: the least end, the greatest begin -/
def FBK (B : List (Rat × Rat)) (A : List (List Int)) (k : Nat) : Option (Nat × Nat) → Prop
  | none => ∀ i e, ¬ brk B A k i e
  | some (i, e) => brk B A k i e ∧ (∀ i' e', e' < e → ¬ brk B A k i' e') ∧ ∀ i', i < i' → ¬ brk B A k i' e
def brK : Option (Nat × Nat) → PyData
  | none => .none
  | some (i, e) => .tuple [.int (i : Int), .int (e : Int)]
def T__law_breachK : DTP := fun xs Q => match xs with
  | [a, c, .int x] => ∃ (m : Nat) (B : List (Rat × Rat)) (A : List (List Int)) (k : Nat), (a = bdsD B ∧ c = rowsD A ∧ x = (k : Int) ∧ B.length = m ∧ m ≤ 8 ∧ (∀ p ∈ B, BdG p) ∧ ArOk m A ∧ k < m) ∧ ∀ o, FBK B A k o → Q (brK o)
  | _ => False
theorem ok__law_breach (t : Txt K mg) : Cl P w K mg base 4 "_law_breach" 3 T__law_breachK := by
  have nb := t.nb
  have c__law_less := ok__law_less (P := P) (w := w) (base := base) t
  have c__law_plus := ok__law_plus (P := P) (w := w) (base := base) t
  have c__law_times := ok__law_times (P := P) (w := w) (base := base) t
  refine cl_of t.d__law_breach sc__law_breach rfl (by intro xs Q h; unfold T__law_breachK at h; split at h <;> first | rfl | exact h.elim) (fun f cdv A outer s H E hr => (dss_cons (ds_asg (de_ix (de_var 0 (pv 0)) (de_var 2 (pv 2))) (dg_tup (n := 2) rfl (dgs_cons (dg_name (i := 3) (pg_name (i := 3) sc__law_breach.nd rfl (by first | exact .inl rfl | exact .inr rfl))) (dgs_cons (dg_name (i := 4) (pg_name (i := 4) sc__law_breach.nd rfl (by first | exact .inl rfl | exact .inr rfl))) dgs_nil))))
 (dss_cons (ds_for PassesOwn.never rfl (di_range2 (by rfl) nb.range_ (da_cons de_int (da_cons (de_addA (de_blt call_len_seq od_len (by rfl) nb.len_ PySem.boot_len (da_cons (de_var 1 (pv 1)) da_nil)) de_int) da_nil))) (dg_name (i := 5) (pg_name (i := 5) sc__law_breach.nd rfl (by first | exact .inl rfl | exact .inr rfl)))
 (dss_one (ds_for PassesOwn.never rfl (di_range3 (by rfl) nb.range_ (da_cons (de_sub (de_var 5 (pv 5)) de_int) (da_cons (de_neg de_int) (da_cons (de_neg de_int) da_nil)))) (dg_name (i := 6) (pg_name (i := 6) sc__law_breach.nd rfl (by first | exact .inl rfl | exact .inr rfl)))
 (dss_cons (ds_set (i := 7) sc__law_breach.nd rfl (by first | exact .inl rfl | exact .inr rfl) (de_blt (cr_sumA rfl) od_sum (by rfl) nb.sum_ (by decide +kernel) (da_cons (de_lc (own := [("turn", 8)]) rfl sc__law_breach.nd (di_seq (de_slice (de_var 1 (pv 1)) (do_some (de_var 6 (pv 6))) (do_some (de_var 5 (pv 5))))) (blkOk_by (by kernel_rfl)) (fun _ _ _ _ _ => (dw_name (i := 8) (pg_name (i := 8) sc__law_breach.nd rfl (by first | exact .inl rfl | exact .inr rfl)) (by decide))) (fun _ _ _ _ _ => dts_nil) (fun _ _ _ _ _ => (de_ix (de_var 8 (pv 8)) (de_var 2 (pv 2))))) da_nil)))
 (dss_one (ds_if (db_val (de_callC c__law_less hr (by decide) (by rfl) (da_cons (de_callC c__law_plus hr (by decide) (by rfl) (da_cons (de_var 4 (pv 4)) (da_cons (de_callC c__law_times hr (by decide) (by rfl) (da_cons (de_tup (da_cons (de_sub (de_var 5 (pv 5)) (de_var 6 (pv 6))) (da_cons de_int da_nil))) (da_cons (de_var 3 (pv 3)) da_nil))) da_nil))) (da_cons (de_tup (da_cons (de_var 7 (pv 7)) (da_cons de_int da_nil))) da_nil)))) (dss_one (ds_ret (de_tup (da_cons (de_var 6 (pv 6)) (da_cons (de_var 5 (pv 5)) da_nil))))) dss_nil))))))
 (dss_one (ds_ret de_non))))) (fun xs Q h => ?_)
  unfold T__law_breachK at h
  split at h
  rotate_left
  · exact h.elim
  rename_i x y z
  obtain ⟨m, B, A, k, ⟨rfl, rfl, rfl, hm, hm8, hB, hA, hk⟩, h⟩ := h
  have hA1 := hA.1
  obtain ⟨p, hp⟩ : ∃ p, B[k]? = some p := ⟨_, List.getElem?_eq_getElem (by omega)⟩
  have hbp := hB p (List.mem_of_getElem? hp)
  have hc := col_ok hA k
  have smd : ∀ u v : Nat, u ≤ 200 → v ≤ 200 → sm (pot p.1 (col A k) u - pot p.1 (col A k) v) := fun u v hu hv => tv_sm (tv_sub (pot_tw hbp.1.2 hc hu) (pot_tw hbp.1.2 hc hv)) (by unfold PT; decide)
  refine (itemAt_nat (xs := B.map bdD) (i := k) (x := bdD p) (by rw [List.getElem?_map, hp]; rfl) _).mpr ⟨rfl, ?_⟩
  dsimp only [DL.putAll, DL.dgName, DL.dgCons, DL.dgNil, DL.dgTup, DL.asTup, List.map_cons, List.map_nil, List.cons_append, List.nil_append, List.replicate_succ, List.replicate_zero, List.length_cons, List.length_nil, Nat.reduceAdd, Nat.reduceSub, List.set_cons_zero, List.set_cons_succ]
  refine seq_of (fun ρ' => (∃ s5 s6 s7 s8 : Sl, ρ' = [.d (bdsD B), .d (rowsD A), .d (.int (k : Int)), .d (fr p.1), .d (fr p.2), s5, s6, s7, s8]) ∧ FBK B A k none) (fun N hN => ?_) (fun ρ' hR => ?_)
  · refine ⟨⟨rng (by omega), rng (by rw [List.length_map]; omega)⟩, ?_⟩
    show forD _ _ _ (rangeD 1 (((A.map tupI).length : Int) + 1 - 1).toNat) _
    have et : (((A.map tupI).length : Int) + 1 - 1).toNat = A.length := by rw [List.length_map]; omega
    rw [et]
    unfold rangeD
    refine for_of (fun rest ρ => ∃ (e0 : Nat) (s5 s6 s7 : Sl), ρ = [.d (bdsD B), .d (rowsD A), .d (.int (k : Int)), .d (fr p.1), .d (fr p.2), s5, s6, s7, .un] ∧ rest = (List.range A.length).drop e0 ∧ e0 ≤ A.length ∧ ∀ i e, e ≤ e0 → ¬ brk B A k i e) (fun a rest ρ N2 hN2 hI => ?_) (fun ρ hI => ?_) ⟨0, .un, .un, .un, rfl, rfl, Nat.zero_le _, fun i e he hb => ?_⟩
    · obtain ⟨e0, s5, s6, s7, rfl, hrest, he0, hno⟩ := hI
      obtain ⟨rfl, hlt, hr2⟩ := range_cons hrest
      have ea : (1 : Int) + (a : Int) = ((a + 1 : Nat) : Int) := by omega
      rw [ea]
      refine ⟨a + 1, ?_, ?_⟩
      · have := RgC.neg (i := ((a + 1 : Nat) : Int) - 1) (j := -1) (by omega) (by omega) (by omega) (by omega)
        have e : (((a + 1 : Nat) : Int) - 1 - -1).toNat = a + 1 := by omega
        rw [e] at this
        exact this
      · unfold rangeC
        refine for_of (enc := fun (i : Nat) => .int (((a + 1 : Nat) : Int) - 1 + (i : Int) * -1)) (fun rest ρ => ∃ (k0 : Nat) (s6 s7 : Sl), ρ = [.d (bdsD B), .d (rowsD A), .d (.int (k : Int)), .d (fr p.1), .d (fr p.2), .d (.int ((a + 1 : Nat) : Int)), s6, s7, .un] ∧ rest = (List.range (a + 1)).drop k0 ∧ k0 ≤ a + 1 ∧ ∀ i, a + 1 - k0 ≤ i → ¬ brk B A k i (a + 1)) (fun b rest ρ N3 hN3 hI => ?_) (fun ρ hI => ?_) ⟨0, s6, s7, rfl, rfl, Nat.zero_le _, fun i hi hb => ?_⟩
        · obtain ⟨k0, s6, s7, rfl, hrest3, hk0, hno3⟩ := hI
          obtain ⟨rfl, hlt3, hr3⟩ := range_cons hrest3
          have eb : ((a + 1 : Nat) : Int) - 1 + (b : Int) * -1 = ((a - b : Nat) : Int) := by omega
          rw [eb]
          obtain ⟨i, hi⟩ : ∃ i, i = a - b := ⟨_, rfl⟩
          rw [← hi]
          have hia : i < a + 1 := by omega
          refine tg_name ?_
          dsimp only [List.set_cons_succ, List.set_cons_zero]
          refine seq_of (fun ρ' => ρ' = [.d (bdsD B), .d (rowsD A), .d (.int (k : Int)), .d (fr p.1), .d (fr p.2), .d (.int ((a + 1 : Nat) : Int)), .d (.int (i : Int)), .d (.int (((col A k).drop i).take (a + 1 - i)).sum), .un]) (fun N hN => ?_) (fun ρ' hR => ?_)
          · show (cut (A.map tupI) (some (i : Int)) (some ((a + 1 : Nat) : Int))).length ≤ sizeLine ∧ compD _ _ _ _ (cut (A.map tupI) (some (i : Int)) (some ((a + 1 : Nat) : Int))) _ _
            rw [cut_map, cut_two]
            refine ⟨by rw [List.length_map, List.length_take, List.length_drop]; exact Nat.le_of_lt (small1000 (by omega)), comp_map (enc := tupI) (f := fun r => .int (r.getD k 0)) rfl (fun r hr k2 hk2 => .t rfl ((itemAt_nat (xs := r.map .int) (row_at (by rw [(hA.2 r (List.mem_of_mem_drop (List.mem_of_mem_take hr))).1]; exact hk)) _).mpr hk2)) ?_⟩
            dsimp only [DL.dNil]
            refine (oSum_map (fun r => r.getD k 0) ((A.drop i).take (a + 1 - i)) _).mpr ?_
            have e3 : (((A.drop i).take (a + 1 - i)).map fun r => r.getD k 0) = ((col A k).drop i).take (a + 1 - i) := by
              unfold col
              rw [List.map_take, List.map_drop]
            rw [e3]
            exact hN _ rfl
          · subst hR
            have b1 : tv 1000 (((((a + 1 : Nat) : Int) - (i : Int) : Int)) : Rat) := tv_int (by omega)
            have b2 : tv (100 * 1000) (p.1 * ((((a + 1 : Nat) : Int) - (i : Int) : Int) : Rat)) := tv_mul hbp.1.2 (by omega)
            have e := slice_pot p.1 (col A k) (j := i) (n := a + 1) (by omega)
            have b3 : tv (PT + PT + 100000) ((((((col A k).drop i).take (a + 1 - i)).sum : Int)) : Rat) := by
              rw [e]
              exact tv_add (tv_sub (pot_tw hbp.1.2 hc (by omega)) (pot_tw hbp.1.2 hc (by omega))) b2
            have ec : ((((a + 1 : Nat) : Int) - (i : Int) : Int) : Rat) * p.1 = p.1 * ((((a + 1 : Nat) : Int) - (i : Int) : Int) : Rat) := Rat.mul_comm ..
            refine ⟨by show 2 ≤ sizeLine; decide, ((((a + 1 : Nat) : Int) - (i : Int) : Int) : Rat), p.1, ⟨(fr_int _).symm, rfl, tv_sm b1 (by decide), tv_sm hbp.1.2 (by decide)⟩, ?_⟩
            rw [ec]
            refine ⟨p.2, _, ⟨rfl, rfl, tv_sm hbp.2.1 (by decide), tv_sm b2 (by decide)⟩, by show 2 ≤ sizeLine; decide, _, _, ⟨rfl, (fr_int _).symm, tv_sm (tv_add hbp.2.1 b2) (by decide), tv_sm b3 (by unfold PT; decide)⟩, ?_⟩
            have e2 : (p.2 + p.1 * ((((a + 1 : Nat) : Int) - (i : Int) : Int) : Rat) < (((((col A k).drop i).take (a + 1 - i)).sum : Int) : Rat)) = (p.2 < pot p.1 (col A k) (a + 1) - pot p.1 (col A k) i) := by
              rw [e]
              exact propext ⟨fun h => by grind, fun h => by grind⟩
            simp only [e2]
            refine IfD.by (fun hb => ?_) (fun hb => ?_)
            · have hbr : brk B A k i (a + 1) := ⟨p, hp, hia, hlt, hb⟩
              exact ⟨by show 2 ≤ sizeLine; decide, h (some (i, a + 1)) ⟨hbr, fun i' e' he' => hno i' e' (by omega), fun i' hi' => hno3 i' (by omega)⟩⟩
            · refine hN3 _ ⟨b + 1, .d (.int (i : Int)), .d (.int (((col A k).drop i).take (a + 1 - i)).sum), rfl, hr3, hlt3, fun i' hi' hb' => ?_⟩
              by_cases q : i' = i
              · subst q
                obtain ⟨p', q1, q2, q3, q4⟩ := hb'
                rw [hp] at q1
                cases q1
                exact hb q4
              · exact hno3 i' (by omega) hb'
        · obtain ⟨k0, s6, s7, rfl, hrest3, hk0, hno3⟩ := hI
          have := range_nil hrest3
          refine hN2 _ ⟨a + 1, .d (.int ((a + 1 : Nat) : Int)), s6, s7, rfl, hr2, hlt, fun i e he hb => ?_⟩
          by_cases q : e = a + 1
          · subst q
            exact hno3 i (by omega) hb
          · exact hno i e (by omega) hb
        · obtain ⟨p', _, q2, _⟩ := hb
          omega
    · obtain ⟨e0, s5, s6, s7, rfl, hrest, he0, hno⟩ := hI
      have := range_nil hrest
      exact hN _ ⟨⟨s5, s6, s7, .un, rfl⟩, fun i e hb => by
        obtain ⟨p', q1, q2, q3, q4⟩ := hb
        exact hno i e (by omega) ⟨p', q1, q2, q3, q4⟩⟩
    · obtain ⟨p', _, q2, _⟩ := hb
      omega
  · obtain ⟨⟨s5, s6, s7, s8, rfl⟩, hno⟩ := hR
    exact h none hno
def T__law_keeps : DTP := fun xs Q => match xs with
  | [a, c] => ∃ (m : Nat) (B : List (Rat × Rat)) (A : List (List Int)), (a = bdsD B ∧ c = rowsD A ∧ B.length = m ∧ m ≤ 8 ∧ (∀ p ∈ B, BdG p) ∧ ArOk m A) ∧ ∀ b : Bool, (b = true ↔ ∀ k i e, ¬ brk B A k i e) → Q (.bool b)
  | _ => False
theorem ok__law_keeps (t : Txt K mg) : Cl P w K mg base 5 "_law_keeps" 2 T__law_keeps := by
  have nb := t.nb
  have c__law_breach := ok__law_breach (P := P) (w := w) (base := base) t
  refine cl_of t.d__law_keeps sc__law_keeps rfl (by intro xs Q h; unfold T__law_keeps at h; split at h <;> first | rfl | exact h.elim) (fun f cdv A outer s H E hr => (dss_one (ds_ret (de_cmp (op_eqD hr.units) od_eq (de_lc (own := [("k", 2)]) rfl sc__law_keeps.nd (di_range1 (by rfl) nb.range_ (da_cons (de_blt call_len_seq od_len (by rfl) nb.len_ PySem.boot_len (da_cons (de_var 0 (pv 0)) da_nil)) da_nil)) (blkOk_by (by kernel_rfl)) (fun _ _ _ _ _ => (dw_name (i := 2) (pg_name (i := 2) sc__law_keeps.nd rfl (by first | exact .inl rfl | exact .inr rfl)) (by decide))) (fun _ _ _ _ _ => dts_one (db_cmp op_notN od_notN (de_callC c__law_breach hr (by decide) (by rfl) (da_cons (de_var 0 (pv 0)) (da_cons (de_var 1 (pv 1)) (da_cons (de_var 2 (pv 2)) da_nil)))) de_non (nomark _))) (fun _ _ _ _ _ => (de_var 2 (pv 2)))) (de_lst da_nil) (nomark _))))) (fun xs Q h => ?_)
  unfold T__law_keeps at h
  split at h
  rotate_left
  · exact h.elim
  rename_i x y
  obtain ⟨m, B, A, ⟨rfl, rfl, hm, hm8, hB, hA⟩, h⟩ := h
  classical
  refine ⟨rng (by rw [List.length_map]; omega), ?_⟩
  show (rangeD 0 ((B.map bdD).length : Int).toNat).length ≤ sizeLine ∧ compD _ _ _ _ (rangeD 0 ((B.map bdD).length : Int).toNat) _ _
  rw [List.length_map, hm, Int.toNat_natCast]
  unfold rangeD
  refine ⟨range_szN (by omega), comp_fm (enc := fun (i : Nat) => .int (0 + (i : Int))) (g := fun k => if ∃ i e, brk B A k i e then some (.int (0 + (k : Int))) else none) rfl (fun k hk kk hkk => ?_) ?_⟩
  · have hk := List.mem_range.mp hk
    refine ⟨m, B, A, k, ⟨rfl, rfl, Int.zero_add _, hm, hm8, hB, hA, hk⟩, fun o ho => ?_⟩
    cases o with
    | none =>
      refine .f rfl ?_
      rw [if_neg fun ⟨i, e, q⟩ => ho i e q] at hkk
      exact hkk
    | some x =>
      obtain ⟨i, e⟩ := x
      refine .t rfl ?_
      rw [if_pos ⟨i, e, ho.1⟩] at hkk
      exact hkk
  · rw [fm_filter (fun k => ∃ i e, brk B A k i e)]
    refine ⟨Nat.zero_le _, ⟨shaped_ints _, rfl⟩, ?_⟩
    refine (congrArg (fun b => Q (.bool b)) (eqv_ints _ [])).mpr (h _ ?_)
    rw [decide_eq_true_iff, List.map_eq_nil_iff, List.filter_eq_nil_iff]
    refine ⟨fun hno k i e hb => ?_, fun hno k hk => ?_⟩
    · obtain ⟨p, q1, q2⟩ := hb
      have hk := (List.getElem?_eq_some_iff.mp q1).1
      exact hno k (List.mem_range.mpr (by omega)) (decide_eq_true ⟨i, e, p, q1, q2⟩)
    · rw [decide_eq_true_iff]
      rintro ⟨i, e, q⟩
      exact hno k i e q

end LW

namespace LW
open PySem PySem.Spec PyProof.Rows L2 DL
variable {P : Program} {w : World} {K : PySem.W.Frag} {mg : Str → Option Value} {base : Heap}
/-! ### played by hand -/
def playR (S : List (List Int)) : List Int → List (List Int × Nat) → List (List Int × List Int × List Int)
  | _, [] => []
  | l, p :: r => (heapsOf l p.1, goneOf (svAt S p.2) (heapsOf l p.1), lnStep S l p.1 p.2) :: playR S (lnStep S l p.1 p.2) r
def pl3 (x : List Int × List Int × List Int) : PyData := .tuple [tupI x.1, tupI x.2.1, tupI x.2.2]
theorem playR_maps (S : List (List Int)) : ∀ (l : List Int) (r : List (List Int × Nat)), (playR S l r).map (·.1) = hpsOf S l r ∧ (playR S l r).map (·.2.1) = gnsOf S l r ∧ (playR S l r).map (·.2.2) = linesOf S l r
  | _, [] => ⟨rfl, rfl, rfl⟩
  | l, p :: r => by
    obtain ⟨h1, h2, h3⟩ := playR_maps S (lnStep S l p.1 p.2) r
    exact ⟨congrArg (_ :: ·) h1, congrArg (_ :: ·) h2, congrArg (_ :: ·) h3⟩
theorem gone_swap : ∀ (s h : List Int), (h.zip s).map (fun p => if p.2 < p.1 then p.2 else p.1) = goneOf s h
  | [], h => by cases h <;> rfl
  | _ :: _, [] => rfl
  | a :: s, b :: h => by
    have := gone_swap s h
    unfold goneOf at this ⊢
    rw [List.zip_cons_cons, List.zip_cons_cons, List.map_cons, List.map_cons, this]
    congr 1
    show (if a < b then a else b) = if b < a then b else a
    split <;> split <;> omega
def T__law_playedR : DTP := fun xs Q => match xs with
  | [a, c, d] => ∃ (m : Nat) (S A : List (List Int)) (ns : List Nat), (a = rowsD S ∧ c = rowsD A ∧ d = tupI (natI ns) ∧ SvOk m S ∧ m ≤ 8 ∧ ArOk m A ∧ ns.length = A.length ∧ ∀ n ∈ ns, n < S.length) ∧
      Q (.list ((playR S (List.replicate m 0) (A.zip ns)).map pl3))
  | _ => False
theorem ok__law_played (t : Txt K mg) : Cl P w K mg base 1 "_law_played" 3 T__law_playedR := by
  have nb := t.nb
  refine cl_of t.d__law_played sc__law_played rfl (by intro xs Q h; unfold T__law_playedR at h; split at h <;> first | rfl | exact h.elim) (fun f cdv A outer s H E hr => (dss_cons (ds_par (i := 3) (j := 4) rfl sc__law_played.nd rfl rfl (by decide) rfl rfl (dm_dat (de_mulA (de_tup (da_cons de_int da_nil)) (de_blt call_len_seq od_len (by rfl) nb.len_ PySem.boot_len (da_cons (de_ix (de_var 0 (pv 0)) de_int) da_nil))) (dm_new (dn_lst da_nil) dm_nil)) (by rfl))
 (dss_cons (ds_for PassesOwn.never rfl (di_zip2 (by rfl) nb.zip_ (da_cons (de_var 1 (pv 1)) (da_cons (de_var 2 (pv 2)) da_nil))) (dg_tup (n := 2) rfl (dgs_cons (dg_name (i := 5) (pg_name (i := 5) sc__law_played.nd rfl (by first | exact .inl rfl | exact .inr rfl))) (dgs_cons (dg_name (i := 6) (pg_name (i := 6) sc__law_played.nd rfl (by first | exact .inl rfl | exact .inr rfl))) dgs_nil)))
 (dss_keep [true, false, false, true, true, true, true, false, false, false, false] (dss_cons (ds_set (i := 7) sc__law_played.nd rfl (by first | exact .inl rfl | exact .inr rfl) (de_bty call_tuple_of od_tuple (by rfl) nb.tuple_ (by decide +kernel) (da_cons (de_lc (own := [("a", 9), ("b", 10)]) rfl sc__law_played.nd (di_zip2 (by rfl) nb.zip_ (da_cons (de_var 3 (pv 3)) (da_cons (de_var 5 (pv 5)) da_nil))) (blkOk_by (by kernel_rfl)) (fun _ _ _ _ _ => (dw_tup (n := 2) rfl (dws_cons (dw_name (i := 9) (pg_name (i := 9) sc__law_played.nd rfl (by first | exact .inl rfl | exact .inr rfl)) (by decide)) (dws_cons (dw_name (i := 10) (pg_name (i := 10) sc__law_played.nd rfl (by first | exact .inl rfl | exact .inr rfl)) (by decide)) dws_nil)))) (fun _ _ _ _ _ => dts_nil) (fun _ _ _ _ _ => (de_addA (de_var 9 (pv 9)) (de_var 10 (pv 10))))) da_nil)))
 (dss_cons (ds_set (i := 8) sc__law_played.nd rfl (by first | exact .inl rfl | exact .inr rfl) (de_bty call_tuple_of od_tuple (by rfl) nb.tuple_ (by decide +kernel) (da_cons (de_lc (own := [("a", 9), ("b", 10)]) rfl sc__law_played.nd (di_zip2 (by rfl) nb.zip_ (da_cons (de_var 7 (pv 7)) (da_cons (de_ix (de_var 0 (pv 0)) (de_var 6 (pv 6))) da_nil))) (blkOk_by (by kernel_rfl)) (fun _ _ _ _ _ => (dw_tup (n := 2) rfl (dws_cons (dw_name (i := 9) (pg_name (i := 9) sc__law_played.nd rfl (by first | exact .inl rfl | exact .inr rfl)) (by decide)) (dws_cons (dw_name (i := 10) (pg_name (i := 10) sc__law_played.nd rfl (by first | exact .inl rfl | exact .inr rfl)) (by decide)) dws_nil)))) (fun _ _ _ _ _ => dts_nil) (fun _ _ _ _ _ => (de_blt (call_min2 rfl) od_int2 (by rfl) nb.min_ (by decide +kernel) (da_cons (de_var 9 (pv 9)) (da_cons (de_var 10 (pv 10)) da_nil))))) da_nil)))
 (dss_cons (ds_set (i := 3) sc__law_played.nd rfl (by first | exact .inl rfl | exact .inr rfl) (de_bty call_tuple_of od_tuple (by rfl) nb.tuple_ (by decide +kernel) (da_cons (de_lc (own := [("a", 9), ("b", 10)]) rfl sc__law_played.nd (di_zip2 (by rfl) nb.zip_ (da_cons (de_var 7 (pv 7)) (da_cons (de_var 8 (pv 8)) da_nil))) (blkOk_by (by kernel_rfl)) (fun _ _ _ _ _ => (dw_tup (n := 2) rfl (dws_cons (dw_name (i := 9) (pg_name (i := 9) sc__law_played.nd rfl (by first | exact .inl rfl | exact .inr rfl)) (by decide)) (dws_cons (dw_name (i := 10) (pg_name (i := 10) sc__law_played.nd rfl (by first | exact .inl rfl | exact .inr rfl)) (by decide)) dws_nil)))) (fun _ _ _ _ _ => dts_nil) (fun _ _ _ _ _ => (de_sub (de_var 9 (pv 9)) (de_var 10 (pv 10))))) da_nil)))
 (dss_one (ds_app 4 (pv 4) (de_tup (da_cons (de_var 7 (pv 7)) (da_cons (de_var 8 (pv 8)) (da_cons (de_var 3 (pv 3)) da_nil)))))))))))
 (dss_keep [false, false, false, false, true, false, false, false, false, false, false] (dss_one (ds_ret (de_frz 4 (de_var 4 (pv 4))))))))) (fun xs Q h => ?_)
  unfold T__law_playedR at h
  split at h
  rotate_left
  · exact h.elim
  rename_i x y z
  obtain ⟨m, S, A, ns, ⟨rfl, rfl, rfl, hS, hm8, hA, hnl, hns⟩, h⟩ := h
  have hA1 := hA.1
  obtain ⟨s0, S', hSS⟩ : ∃ s0 S', S = s0 :: S' := by
    cases S with
    | nil => exact absurd hS.1 (by decide)
    | cons a b => exact ⟨a, b, rfl⟩
  have hs0 := (hS.2.2 s0 (by rw [hSS]; exact List.mem_cons_self ..)).1
  have h00 : (S.map tupI)[0]? = some (tupI s0) := by rw [hSS]; rfl
  have ez : PyData.tuple (List.replicate ((s0.map PyData.int).length : Int).toNat [PyData.int 0]).flatten = tupI (List.replicate m 0) := by
    rw [List.length_map, hs0, Int.toNat_natCast, zeros]
  refine ⟨by show 1 ≤ sizeLine; decide, (itemAt_int (j := 0) rfl h00 _).mpr ⟨⟨by omega, by rw [List.length_map]; omega, by decide⟩, ?_⟩⟩
  rw [ez]
  refine ⟨Nat.zero_le _, fun fp => ⟨rfl, ?_⟩⟩
  dsimp only [DL.putAll, DL.dgName, DL.dgCons, DL.dgNil, DL.dgTup, DL.asTup, List.map_cons, List.map_nil, List.cons_append, List.nil_append, List.replicate_succ, List.replicate_zero, List.length_cons, List.length_nil, Nat.reduceAdd, Nat.reduceSub, List.set_cons_zero, List.set_cons_succ]
  refine seq_of (fun ρ' => ∃ (R : List (List Int × List Int × List Int)) (s3 s5 s6 s7 s8 : Sl), keepS [false, false, false, false, true, false, false, false, false, false, false] ρ' = [.un, .un, .un, .un, .o fp (.lst (R.map pl3)), .un, .un, .un, .un, .un, .un] ∧ R = playR S (List.replicate m 0) (A.zip ns)) (fun N hN => ?_) (fun ρ' hR => ?_)
  · show forD _ _ _ (pairD (A.map tupI) ((natI ns).map .int)) _
    have en : (natI ns).map PyData.int = ns.map (fun (n : Nat) => .int (n : Int)) := by unfold natI; rw [List.map_map]; rfl
    rw [en, pairD_map]
    refine for_of (fun rest ρ => ∃ (R : List (List Int × List Int × List Int)) (l : List Int) (s5 s6 : Sl), keepS [true, false, false, true, true, true, true, false, false, false, false] ρ = [.d (rowsD S), .un, .un, .d (tupI l), .o fp (.lst (R.map pl3)), s5, s6, .un, .un, .un, .un] ∧
        R ++ playR S l rest = playR S (List.replicate m 0) (A.zip ns) ∧ l.length = m ∧ (∀ p ∈ rest, p ∈ A.zip ns) ∧ R.length + rest.length ≤ 200)
      (fun a rest ρ N2 hN2 hI => ?_) (fun ρ hI => ?_) ⟨[], List.replicate m 0, .un, .un, rfl, rfl, List.length_replicate, (fun p hp => hp), by rw [List.length_zip]; show 0 + _ ≤ 200; omega⟩
    · obtain ⟨R, l, s5, s6, hρ, hR, hl, hrest, hlen⟩ := hI
      have ha := hrest a (List.mem_cons_self ..)
      have hc := hA.2 _ (List.of_mem_zip ha).1
      have hn := hns _ (List.of_mem_zip ha).2
      have hlen2 : R.length + (rest.length + 1) ≤ 200 := hlen
      have hsv := sv_at hS hn
      refine tg_tup2 (keep_of ((keep_set2 rfl rfl).trans (by rw [hρ])) ?_)
      have e1 : (.tuple ((l.zip a.1).map fun (p : Int × Int) => .int (p.1 + p.2)) : PyData) = tupI (heapsOf l a.1) := sum_rows (h := fun x => x = tupI (heapsOf l a.1)) l a.1 rfl
      have hh := heaps_len hl hc.1
      have hg := gone_len hsv.2 hh
      refine seq_of (fun ρ' => ρ' = [.d (rowsD S), .un, .un, .d (tupI l), .o fp (.lst (R.map pl3)), .d (tupI a.1), .d (.int (a.2 : Int)), .d (tupI (heapsOf l a.1)), .un, .un, .un]) (fun N hN => ?_) (fun ρ' hR => ?_)
      · show _ ∧ compD _ _ _ _ (pairD (l.map .int) (a.1.map .int)) _ _
        rw [pairD_map]
        refine ⟨by rw [List.length_map, List.length_zip]; exact Nat.le_of_lt (small1000 (by omega)), comp_map (f := fun (p : Int × Int) => .int (p.1 + p.2)) rfl (fun p hp kk hk => ⟨rfl, .t rfl hk⟩) ?_⟩
        exact hN _ (by rw [e1]; rfl)
      subst hR
      refine seq_of (fun ρ' => ρ' = [.d (rowsD S), .un, .un, .d (tupI l), .o fp (.lst (R.map pl3)), .d (tupI a.1), .d (.int (a.2 : Int)), .d (tupI (heapsOf l a.1)), .d (tupI (goneOf (svAt S a.2) (heapsOf l a.1))), .un, .un]) (fun N hN => ?_) (fun ρ' hR => ?_)
      · refine (itemAt_nat (xs := S.map tupI) (i := a.2) (x := tupI (svAt S a.2)) (by rw [List.getElem?_map]; unfold svAt; rw [List.getD_eq_getElem?_getD, List.getElem?_eq_getElem hn]; rfl) _).mpr ?_
        show _ ∧ compD _ _ _ _ (pairD ((heapsOf l a.1).map .int) ((svAt S a.2).map .int)) _ _
        rw [pairD_map]
        refine ⟨by rw [List.length_map, List.length_zip]; exact Nat.le_of_lt (small1000 (by omega)), comp_map (f := fun (p : Int × Int) => .int (if p.2 < p.1 then p.2 else p.1)) rfl (fun p hp kk hk => ⟨rfl, .t rfl hk⟩) ?_⟩
        have e2 : (.tuple (((heapsOf l a.1).zip (svAt S a.2)).map fun (p : Int × Int) => .int (if p.2 < p.1 then p.2 else p.1)) : PyData) = tupI (goneOf (svAt S a.2) (heapsOf l a.1)) := by
          rw [← gone_swap]
          unfold tupI
          rw [List.map_map]
          rfl
        exact hN _ (by rw [e2]; rfl)
      subst hR
      have e3 := dif_rows (h := fun x => x = tupI (lnStep S l a.1 a.2)) (heapsOf l a.1) (goneOf (svAt S a.2) (heapsOf l a.1)) rfl
      refine seq_of (fun ρ' => ρ' = [.d (rowsD S), .un, .un, .d (tupI (lnStep S l a.1 a.2)), .o fp (.lst (R.map pl3)), .d (tupI a.1), .d (.int (a.2 : Int)), .d (tupI (heapsOf l a.1)), .d (tupI (goneOf (svAt S a.2) (heapsOf l a.1))), .un, .un]) (fun N hN => ?_) (fun ρ' hR => ?_)
      · show _ ∧ compD _ _ _ _ (pairD ((heapsOf l a.1).map .int) ((goneOf (svAt S a.2) (heapsOf l a.1)).map .int)) _ _
        rw [pairD_map]
        refine ⟨by rw [List.length_map, List.length_zip]; exact Nat.le_of_lt (small1000 (by omega)), comp_map (f := fun (p : Int × Int) => .int (p.1 - p.2)) rfl (fun p hp kk hk => ⟨rfl, .t rfl hk⟩) ?_⟩
        exact hN _ (by rw [e3]; rfl)
      subst hR
      refine ⟨by show 3 ≤ sizeLine; decide, by rw [List.length_map]; exact small1000 (by omega), hN2 _ ⟨R ++ [(heapsOf l a.1, goneOf (svAt S a.2) (heapsOf l a.1), lnStep S l a.1 a.2)], lnStep S l a.1 a.2, .d (tupI a.1), .d (.int (a.2 : Int)), ?_, ?_, ln_len hS hn hl hc.1, (fun p hp => hrest p (List.mem_cons_of_mem _ hp)), by rw [len_app1]; omega⟩⟩
      · rw [List.map_append]
        rfl
      · rw [List.append_assoc]
        exact hR
    · obtain ⟨R, l, s5, s6, hρ, hR, hl, hrest, hlen⟩ := hI
      exact hN _ ⟨R, .un, .un, .un, .un, .un, keep_sub rfl hρ rfl, (List.append_nil R).symm.trans hR⟩
  · obtain ⟨R, _, _, _, _, _, hρ, rfl⟩ := hR
    exact keep_of hρ h
/-! ### arrivals drawn to keep a bound -/
def letG (p : Rat × Rat) : Rat → List Int → Rat
  | o, [] => o
  | o, c :: cs => letG p (if p.2 < o + p.1 - (c : Rat) then p.2 else o + p.1 - (c : Rat)) cs
def letV (p : Rat × Rat) (cs : List Int) : Int := if p = (0, 0) then 0 else (letG p p.2 cs + p.1).floor
theorem letG_app (p : Rat × Rat) : ∀ (cs : List Int) (o : Rat) (c : Int), letG p o (cs ++ [c]) = (if p.2 < letG p o cs + p.1 - (c : Rat) then p.2 else letG p o cs + p.1 - (c : Rat))
  | [], _, _ => rfl
  | d :: cs, o, c => letG_app p cs _ c
/-- what is owed after some turns -/
def Owed (p : Rat × Rat) (cs : List Int) (o : Rat) : Prop := o ≤ p.2 ∧ ∀ i, i ≤ cs.length → (pot p.1 cs cs.length - pot p.1 cs i) + o ≤ p.2
theorem owed_nil (p : Rat × Rat) : Owed p [] p.2 := ⟨by grind, fun i hi => by
  have : i = 0 := by simpa using hi
  subst this
  show pot p.1 [] 0 - pot p.1 [] 0 + p.2 ≤ p.2
  grind⟩
theorem owed_step {p : Rat × Rat} {cs : List Int} {o : Rat} (h : Owed p cs o) (c : Int) : Owed p (cs ++ [c]) (if p.2 < o + p.1 - (c : Rat) then p.2 else o + p.1 - (c : Rat)) := by
  obtain ⟨h1, h2⟩ := h
  have hl : (cs ++ [c]).length = cs.length + 1 := by simp
  have hx : (if p.2 < o + p.1 - (c : Rat) then p.2 else o + p.1 - (c : Rat)) ≤ p.2 ∧ (if p.2 < o + p.1 - (c : Rat) then p.2 else o + p.1 - (c : Rat)) ≤ o + p.1 - (c : Rat) := by
    split
    · constructor <;> grind
    · constructor <;> grind
  refine ⟨hx.1, fun i hi => ?_⟩
  rw [hl] at hi ⊢
  rw [pot_last]
  rcases Nat.lt_or_ge cs.length i with g | g
  · have : i = cs.length + 1 := by omega
    subst this
    rw [pot_last]
    have := hx.1
    grind
  · rw [pot_app g]
    have := h2 i g
    have := hx.2
    grind
theorem kp_let {p : Rat × Rat} {cs : List Int} {o : Rat} (h : Owed p cs o) (hk : Kp p cs) {c : Int} (hc : (c : Rat) ≤ o + p.1) : Kp p (cs ++ [c]) := by
  intro i e hi he
  rw [List.length_append, List.length_singleton] at he
  rcases Nat.lt_or_ge cs.length e with g | g
  · have : e = cs.length + 1 := by omega
    subst this
    rw [pot_last, pot_app (by omega)]
    have := h.2 i (by omega)
    grind
  · rw [pot_app g, pot_app (by omega)]
    exact hk i e hi g
def T__law_let : DTP := fun xs Q => match xs with
  | [a, .int x, c] => ∃ (B : List (Rat × Rat)) (k : Nat) (p : Rat × Rat) (cs : List Int), (a = bdsD B ∧ x = (k : Int) ∧ c = tupI cs ∧ B[k]? = some p ∧ BdOk p ∧ cs.length ≤ 100 ∧ ∀ x ∈ cs, 0 ≤ x ∧ x ≤ 1000) ∧ Q (.int (letV p cs))
  | _ => False
theorem ok__law_let (t : Txt K mg) : Cl P w K mg base 5 "_law_let" 3 T__law_let := by
  have nb := t.nb
  have c__law_floor := ok__law_floor (P := P) (w := w) (base := base) t
  have c__law_less := ok__law_less (P := P) (w := w) (base := base) t
  have c__law_minus := ok__law_minus (P := P) (w := w) (base := base) t
  have c__law_plus := ok__law_plus (P := P) (w := w) (base := base) t
  refine cl_of t.d__law_let sc__law_let rfl (by intro xs Q h; unfold T__law_let at h; split at h <;> first | rfl | exact h.elim) (fun f cdv A outer s H E hr => (dss_cons (ds_asg (de_ix (de_var 0 (pv 0)) (de_var 1 (pv 1))) (dg_tup (n := 2) rfl (dgs_cons (dg_name (i := 3) (pg_name (i := 3) sc__law_let.nd rfl (by first | exact .inl rfl | exact .inr rfl))) (dgs_cons (dg_name (i := 4) (pg_name (i := 4) sc__law_let.nd rfl (by first | exact .inl rfl | exact .inr rfl))) dgs_nil))))
 (dss_cons (ds_if (db_cmp (op_eqD hr.units) od_eq (de_tup (da_cons (de_var 3 (pv 3)) (da_cons (de_var 4 (pv 4)) da_nil))) (de_tup (da_cons (de_tup (da_cons de_int (da_cons de_int da_nil))) (da_cons (de_tup (da_cons de_int (da_cons de_int da_nil))) da_nil))) (nomark _)) (dss_one (ds_ret de_int)) dss_nil)
 (dss_cons (ds_set (i := 5) sc__law_let.nd rfl (by first | exact .inl rfl | exact .inr rfl) (de_var 4 (pv 4)))
 (dss_cons (ds_for PassesOwn.never rfl (di_seq (de_var 2 (pv 2))) (dg_name (i := 6) (pg_name (i := 6) sc__law_let.nd rfl (by first | exact .inl rfl | exact .inr rfl)))
 (dss_cons (ds_set (i := 5) sc__law_let.nd rfl (by first | exact .inl rfl | exact .inr rfl) (de_callC c__law_minus hr (by decide) (by rfl) (da_cons (de_callC c__law_plus hr (by decide) (by rfl) (da_cons (de_var 5 (pv 5)) (da_cons (de_var 3 (pv 3)) da_nil))) (da_cons (de_tup (da_cons (de_var 6 (pv 6)) (da_cons de_int da_nil))) da_nil))))
 (dss_one (ds_set (i := 5) sc__law_let.nd rfl (by first | exact .inl rfl | exact .inr rfl) (de_ifExp (db_val (de_callC c__law_less hr (by decide) (by rfl) (da_cons (de_var 4 (pv 4)) (da_cons (de_var 5 (pv 5)) da_nil)))) (de_var 4 (pv 4)) (de_var 5 (pv 5)))))))
 (dss_one (ds_ret (de_callC c__law_floor hr (by decide) (by rfl) (da_cons (de_callC c__law_plus hr (by decide) (by rfl) (da_cons (de_var 5 (pv 5)) (da_cons (de_var 3 (pv 3)) da_nil))) da_nil))))))))) (fun xs Q h => ?_)
  unfold T__law_let at h
  split at h
  rotate_left
  · exact h.elim
  rename_i x y z
  obtain ⟨B, k, p, cs, ⟨rfl, rfl, rfl, hp, hbp, hl, hcs⟩, h⟩ := h
  refine (itemAt_nat (xs := B.map bdD) (i := k) (x := bdD p) (by rw [List.getElem?_map, hp]; rfl) _).mpr ⟨rfl, ?_⟩
  dsimp only [DL.putAll, DL.dgName, DL.dgCons, DL.dgNil, DL.dgTup, DL.asTup, List.map_cons, List.map_nil, List.cons_append, List.nil_append, List.replicate_succ, List.replicate_zero, List.length_cons, List.length_nil, Nat.reduceAdd, Nat.reduceSub, List.set_cons_zero, List.set_cons_succ]
  refine ⟨by show 2 ≤ sizeLine; decide, by show 2 ≤ sizeLine; decide, by show 2 ≤ sizeLine; decide, by show 2 ≤ sizeLine; decide, ⟨(bd_sd ⟨tv_sm hbp.1.2 (by decide), tv_sm hbp.2.1 (by decide)⟩).shaped (by decide), rfl⟩, ?_⟩
  unfold letV at h
  by_cases q : p = (0, 0)
  · rw [if_pos q] at h
    exact .t ((bd_eqv p (0, 0)).trans (decide_eq_true q)) h
  rw [if_neg q] at h
  refine .f ((bd_eqv p (0, 0)).trans (decide_eq_false q)) ?_
  dsimp only [DL.dNext]
  refine seq_of (fun ρ' => ρ' = [.d (bdsD B), .d (.int (k : Int)), .d (tupI cs), .d (fr p.1), .d (fr p.2), .d (fr p.2), .un]) (fun N hN => hN _ rfl) (fun ρ' hR => ?_)
  subst hR
  refine seq_of (fun ρ' => ∃ (s6 : Sl) (o : Rat), ρ' = [.d (bdsD B), .d (.int (k : Int)), .d (tupI cs), .d (fr p.1), .d (fr p.2), .d (fr o), s6] ∧ o = letG p p.2 cs ∧ tv 200000 o) (fun N hN => ?_) (fun ρ' hR => ?_)
  · show forD _ _ _ (cs.map .int) _
    refine for_of (fun rest ρ => ∃ (t : Nat) (s6 : Sl) (o : Rat), ρ = [.d (bdsD B), .d (.int (k : Int)), .d (tupI cs), .d (fr p.1), .d (fr p.2), .d (fr o), s6] ∧ letG p o rest = letG p p.2 cs ∧ tv (100 + t * 1100) o ∧ t + rest.length = cs.length ∧ ∀ x ∈ rest, x ∈ cs) (fun a rest ρ N2 hN2 hI => ?_) (fun ρ hI => ?_) ⟨0, .un, p.2, rfl, rfl, tv_mono hbp.2.1 (by omega), by simp, fun x hx => hx⟩
    · obtain ⟨t, s6, o, rfl, hlet, ho, hlen, hrest⟩ := hI
      rw [List.length_cons] at hlen
      have ha := hcs a (hrest a (List.mem_cons_self ..))
      have b1 : tv 1000 (a : Rat) := tv_int (by omega)
      have b0 : tv 111000 o := tv_mono ho (by omega)
      have b2 := tv_add ho hbp.1.2
      have b3 := tv_sub b2 b1
      refine ⟨o, p.1, ⟨rfl, rfl, tv_sm b0 (by decide), tv_sm hbp.1.2 (by decide)⟩, by show 2 ≤ sizeLine; decide, o + p.1, (a : Rat), ⟨rfl, (fr_int a).symm, tv_sm (tv_add b0 hbp.1.2) (by decide), tv_sm b1 (by decide)⟩, ?_⟩
      dsimp only [DL.putAll, DL.dgName, DL.dgCons, DL.dgNil, DL.dgTup, DL.asTup, List.map_cons, List.map_nil, List.cons_append, List.nil_append, List.replicate_succ, List.replicate_zero, List.length_cons, List.length_nil, Nat.reduceAdd, Nat.reduceSub, List.set_cons_zero, List.set_cons_succ]
      refine ⟨p.2, o + p.1 - (a : Rat), ⟨rfl, rfl, tv_sm hbp.2.1 (by decide), tv_sm (tv_sub (tv_add b0 hbp.1.2) b1) (by decide)⟩, ?_⟩
      have hlet2 : letG p (if p.2 < o + p.1 - (a : Rat) then p.2 else o + p.1 - (a : Rat)) rest = letG p p.2 cs := hlet
      refine IfD.by (fun hb => ?_) (fun hb => ?_)
      · rw [if_pos hb] at hlet2
        exact hN2 _ ⟨t + 1, .d (.int a), p.2, rfl, hlet2, tv_mono hbp.2.1 (by omega), by omega, fun x hx => hrest x (List.mem_cons_of_mem _ hx)⟩
      · rw [if_neg hb] at hlet2
        exact hN2 _ ⟨t + 1, .d (.int a), _, rfl, hlet2, tv_mono b3 (by omega), by omega, fun x hx => hrest x (List.mem_cons_of_mem _ hx)⟩
    · obtain ⟨t, s6, o, rfl, hlet, ho, hlen, hrest⟩ := hI
      rw [List.length_nil] at hlen
      exact hN _ ⟨s6, o, rfl, hlet, tv_mono ho (by omega)⟩
  · obtain ⟨s6, o, rfl, rfl, ho⟩ := hR
    exact ⟨_, p.1, ⟨rfl, rfl, tv_sm ho (by decide), tv_sm hbp.1.2 (by decide)⟩, _, ⟨rfl, tv_sm (tv_add ho hbp.1.2) (by decide)⟩, h⟩
theorem let_ok {p : Rat × Rat} {cs : List Int} {o : Rat} (hb : BdOk p) (h : Owed p cs o) (h0 : 0 ≤ o) (e : o = letG p p.2 cs) : 0 ≤ letV p cs ∧ letV p cs ≤ 200 ∧ ((letV p cs : Int) : Rat) ≤ o + p.1 := by
  have hs := (bd_sum hb).1
  have hr := hb.1.1
  unfold letV
  split
  · refine ⟨by decide, by decide, ?_⟩
    have : ((0 : Int) : Rat) = 0 := rfl
    rw [this]
    grind
  · rw [← e]
    exact ⟨floor_nn (by grind), floor_le_of (by have := h.1; grind), Rat.floor_le _⟩
def T__law_kept_comes : DTB := fun ob xs Q => match xs with
  | [b, .int x] => ∃ (n T : Nat) (B : List (Rat × Rat)), (b = bdsD B ∧ x = (T : Int) ∧ good n ob ∧ n < 2 ^ 38 ∧ B.length ≤ 8 ∧ T ≤ 20 ∧ ∀ p ∈ B, BdOk p) ∧
      ∀ (cols : List (List Int)) ob', cols.length = B.length → (∀ (k : Nat) (p : Rat × Rat) (c : List Int), B[k]? = some p → cols[k]? = some c → ColOk p T c ∧ ∀ x ∈ c, x ≤ 200) → good (n + 168) ob' → Q (rowsD (tog cols T)) ob'
  | _ => False
theorem ok__law_kept_comes (t : Txt K mg) : ClB P w K mg base 6 "_law_kept_comes" 3 T__law_kept_comes := by
  have nb := t.nb
  have c__law_let := ok__law_let (P := P) (w := w) (base := base) t
  have c__law_take := ok__law_take (P := P) (w := w) (base := base) t
  refine clB_of t.d__law_kept_comes sc__law_kept_comes rfl (by intro ob xs Q h; unfold T__law_kept_comes at h; split at h <;> first | rfl | exact h.elim) (fun f cdv A outer s H E hr => (dss_cons (ds_setN (i := 3) sc__law_kept_comes.nd rfl (by first | exact .inl rfl | exact .inr rfl) (dn_lst da_nil))
 (dss_cons (ds_for PassesOwn.never rfl (di_range1 (by rfl) nb.range_ (da_cons (de_blt call_len_seq od_len (by rfl) nb.len_ PySem.boot_len (da_cons (de_var 1 (pv 1)) da_nil)) da_nil)) (dg_name (i := 4) (pg_name (i := 4) sc__law_kept_comes.nd rfl (by first | exact .inl rfl | exact .inr rfl)))
 (dss_keep [true, true, true, true, true, false, false, false, false] (dss_cons (ds_par (i := 5) (j := 6) rfl sc__law_kept_comes.nd rfl rfl (by decide) rfl rfl (dm_dat (de_tup da_nil) (dm_dat (de_callB 0 c__law_take hr (by decide) (by rfl) (pv 0) (da_cons de_int da_nil)) dm_nil)) (by rfl))
 (dss_cons (ds_for PassesOwn.never rfl (di_range1 (by rfl) nb.range_ (da_cons (de_var 2 (pv 2)) da_nil)) (dg_name (i := 7) (pg_name (i := 7) sc__law_kept_comes.nd rfl (by first | exact .inl rfl | exact .inr rfl)))
 (dss_keep [true, true, true, true, true, true, true, false, false] (dss_cons (ds_set (i := 8) sc__law_kept_comes.nd rfl (by first | exact .inl rfl | exact .inr rfl) (de_callC c__law_let hr (by decide) (by rfl) (da_cons (de_var 1 (pv 1)) (da_cons (de_var 4 (pv 4)) (da_cons (de_var 5 (pv 5)) da_nil)))))
 (dss_one (ds_set (i := 5) sc__law_kept_comes.nd rfl (by first | exact .inl rfl | exact .inr rfl) (de_addA (de_var 5 (pv 5)) (de_tup (da_cons (de_ifExp (db_cmp (op_eqD hr.units) od_eq (de_var 6 (pv 6)) de_int (nomark _)) (de_var 8 (pv 8)) (de_callB 0 c__law_take hr (by decide) (by rfl) (pv 0) (da_cons (de_addA (de_var 8 (pv 8)) de_int) da_nil))) da_nil))))))))
 (dss_keep [true, true, true, true, false, true, false, false, false] (dss_one (ds_app 3 (pv 3) (de_var 5 (pv 5)))))))))
 (dss_keep [true, false, true, true, false, false, false, false, false] (dss_one (ds_ret (de_bor (de_bty call_tuple_of od_tuple (by rfl) nb.tuple_ (by decide +kernel) (da_cons (de_lc (own := [("turn", 7)]) rfl sc__law_kept_comes.nd (di_range1 (by rfl) nb.range_ (da_cons (de_var 2 (pv 2)) da_nil)) (blkOk_by (by kernel_rfl)) (fun _ _ _ _ _ => (dw_name (i := 7) (pg_name (i := 7) sc__law_kept_comes.nd rfl (by first | exact .inl rfl | exact .inr rfl)) (by decide))) (fun _ _ _ _ _ => dts_nil) (fun _ _ _ _ _ => (de_bty call_tuple_of od_tuple (by rfl) nb.tuple_ (by decide +kernel) (da_cons (de_lc (own := [("comes", 5)]) rfl sc__law_kept_comes.nd (di_seq (de_var 3 (pv 3))) (blkOk_by (by kernel_rfl)) (fun _ _ _ _ _ => (dw_name (i := 5) (pg_name (i := 5) sc__law_kept_comes.nd rfl (by first | exact .inl rfl | exact .inr rfl)) (by decide))) (fun _ _ _ _ _ => dts_nil) (fun _ _ _ _ _ => (de_ix (de_var 5 (pv 5)) (de_var 7 (pv 7))))) da_nil)))) da_nil))))))))) (fun a0 ob xs Q h => ?_)
  unfold T__law_kept_comes at h
  split at h
  rotate_left
  · exact h.elim
  rename_i x y
  obtain ⟨n, T, B, ⟨rfl, rfl, hg, hn, hB8, hT, hB⟩, h⟩ := h
  refine ⟨Nat.zero_le _, fun fp => ?_⟩
  dsimp only [DL.putAll, DL.dgName, DL.dgCons, DL.dgNil, DL.dgTup, DL.asTup, List.map_cons, List.map_nil, List.cons_append, List.nil_append, List.replicate_succ, List.replicate_zero, List.length_cons, List.length_nil, Nat.reduceAdd, Nat.reduceSub, List.set_cons_zero, List.set_cons_succ]
  refine seq_of (fun ρ' => ∃ (ob : Ob) (cols : List (List Int)), keepS [true, false, true, true, false, false, false, false, false] ρ' = [.o a0 ob, .un, .d (.int (T : Int)), .o fp (.lst (cols.map tupI)), .un, .un, .un, .un, .un] ∧ good (n + 21 * cols.length) ob ∧ cols.length = B.length ∧ ∀ (k : Nat) (p : Rat × Rat) (c : List Int), B[k]? = some p → cols[k]? = some c → ColOk p T c ∧ ∀ x ∈ c, x ≤ 200) (fun N hN => ?_) (fun ρ' hR => ?_)
  · refine ⟨rng (by rw [List.length_map]; omega), ?_⟩
    show forD _ _ _ (rangeD 0 ((B.map bdD).length : Int).toNat) _
    rw [List.length_map, Int.toNat_natCast]
    unfold rangeD
    refine for_of (fun rest ρ => ∃ (ob : Ob) (cols : List (List Int)) (s4 : Sl), keepS [true, true, true, true, true, false, false, false, false] ρ = [.o a0 ob, .d (bdsD B), .d (.int (T : Int)), .o fp (.lst (cols.map tupI)), s4, .un, .un, .un, .un] ∧ good (n + 21 * cols.length) ob ∧ cols.length ≤ B.length ∧ rest = (List.range B.length).drop cols.length ∧ ∀ (k : Nat) (p : Rat × Rat) (c : List Int), B[k]? = some p → cols[k]? = some c → ColOk p T c ∧ ∀ x ∈ c, x ≤ 200) (fun a rest ρ N2 hN2 hI => ?_) (fun ρ hI => ?_) ⟨ob, [], .un, rfl, hg, Nat.zero_le _, rfl, fun k p c _ hc => by simp at hc⟩
    · obtain ⟨ob, cols, s4, hρ, hg2, hcl, hrest, hcols⟩ := hI
      obtain ⟨hal, hlt, hr2⟩ := range_cons hrest
      refine tg_name (keep_of ((keep_set rfl).trans (by rw [hρ])) ?_)
      have ea : (0 : Int) + (a : Int) = (a : Int) := Int.zero_add _
      rw [ea]
      obtain ⟨p, hp⟩ : ∃ p, B[a]? = some p := ⟨_, List.getElem?_eq_getElem (by omega)⟩
      have hbp := hB p (List.mem_of_getElem? hp)
      refine seq_of (fun ρ' => ∃ (ob : Ob) (v : Int), ρ' = [.o a0 ob, .d (bdsD B), .d (.int (T : Int)), .o fp (.lst (cols.map tupI)), .d (.int (a : Int)), .d (tupI []), .d (.int v), .un, .un] ∧ good (n + 21 * cols.length + 1) ob) (fun N hN => ?_) (fun ρ' hR => ?_)
      · exact ⟨Nat.zero_le _, _, ⟨hg2, by omega, by decide, by decide⟩, fun v ob' h0 h1 hg' => ⟨rfl, hN _ ⟨ob', v, rfl, hg'⟩⟩⟩
      obtain ⟨ob, v, rfl, hg2⟩ := hR
      refine seq_of (fun ρ' => ∃ (ob : Ob) (cs : List Int), keepS [true, true, true, true, false, true, false, false, false] ρ' = [.o a0 ob, .d (bdsD B), .d (.int (T : Int)), .o fp (.lst (cols.map tupI)), .un, .d (tupI cs), .un, .un, .un] ∧ good (n + 21 * cols.length + 1 + T) ob ∧ ColOk p T cs ∧ ∀ x ∈ cs, x ≤ 200) (fun N hN => ?_) (fun ρ' hR => ?_)
      · refine ⟨rng (by omega), ?_⟩
        show forD _ _ _ (rangeD 0 (T : Int).toNat) _
        rw [Int.toNat_natCast]
        unfold rangeD
        refine for_of (fun rest ρ => ∃ (ob : Ob) (cs : List Int) (o : Rat), keepS [true, true, true, true, true, true, true, false, false] ρ = [.o a0 ob, .d (bdsD B), .d (.int (T : Int)), .o fp (.lst (cols.map tupI)), .d (.int (a : Int)), .d (tupI cs), .d (.int v), .un, .un] ∧ good (n + 21 * cols.length + 1 + cs.length) ob ∧ cs.length + rest.length = T ∧ (∀ x ∈ cs, 0 ≤ x ∧ x ≤ 200) ∧ Kp p cs ∧ Owed p cs o ∧ 0 ≤ o ∧ o = letG p p.2 cs) (fun b rest ρ N3 hN3 hI => ?_) (fun ρ hI => ?_)
          ⟨ob, [], p.2, rfl, hg2, by simp, (fun x hx => nomatch hx), (fun i e h1 h2 => by simp at h2; omega), owed_nil p, (bd_sum hbp).2, rfl⟩
        · obtain ⟨ob, cs, o, hρ, hg3, hl, hcs, hk, ho, h0, he⟩ := hI
          rw [List.length_cons] at hl
          obtain ⟨k1, k2, k3⟩ := let_ok hbp ho h0 he
          refine tg_name (keep_of ((keep_set_f rfl).trans hρ) ?_)
          refine seq_of (fun ρ' => ρ' = [.o a0 ob, .d (bdsD B), .d (.int (T : Int)), .o fp (.lst (cols.map tupI)), .d (.int (a : Int)), .d (tupI cs), .d (.int v), .un, .d (.int (letV p cs))]) (fun N hN => ?_) (fun ρ' hR => ?_)
          · exact ⟨B, a, p, cs, ⟨rfl, rfl, rfl, hp, hbp, by omega, fun x hx => by have := hcs x hx; omega⟩, hN _ rfl⟩
          subst hR
          have fin : ∀ (c : Int) (ob : Ob), 0 ≤ c → c ≤ letV p cs → good (n + 21 * cols.length + 1 + (cs.length + 1)) ob → (cs.map PyData.int).length + 1 ≤ sizeLine ∧ N3 [.o a0 ob, .d (bdsD B), .d (.int (T : Int)), .o fp (.lst (cols.map tupI)), .d (.int (a : Int)), .d (.tuple (cs.map .int ++ [.int c])), .d (.int v), .un, .d (.int (letV p cs))] := fun c ob g0 g1 hg4 => by
            have hcr : (c : Rat) ≤ ((letV p cs : Int) : Rat) := Rat.intCast_le_intCast.mpr g1
            refine ⟨by rw [List.length_map]; exact small1000 (by omega), hN3 _ ⟨ob, cs ++ [c], _, ?_, by rw [len_app1]; exact hg4, by rw [len_app1]; omega, all_app1 hcs (by omega), kp_let ho hk (by grind), owed_step ho c, ?_, ?_⟩⟩
            · rw [show (PyData.tuple (cs.map .int ++ [.int c])) = tupI (cs ++ [c]) from by unfold tupI; rw [List.map_append]; rfl]
              rfl
            · have := (bd_sum hbp).2
              split <;> grind
            · rw [he, letG_app]
          refine ⟨⟨rfl, rfl⟩, ?_⟩
          by_cases z : v = 0
          · exact .t (eq_intT z) ⟨by show 1 ≤ sizeLine; decide, fin (letV p cs) ob k1 (Int.le_refl _) (good_mono hg3 (by omega))⟩
          · refine .f (eq_intF z) ⟨_, ⟨hg3, by omega, by omega, by omega⟩, fun u ob' g0 g1 hg' => ⟨by show 1 ≤ sizeLine; decide, fin u ob' g0 (by omega) (good_mono hg' (by omega))⟩⟩
        · obtain ⟨ob, cs, o, hρ, hg3, hl, hcs, hk, ho, h0, he⟩ := hI
          rw [List.length_nil] at hl
          exact hN _ ⟨ob, cs, keep_sub rfl hρ rfl, good_mono hg3 (by omega), ⟨by omega, (fun x hx => by have := hcs x hx; omega), hk⟩, fun x hx => (hcs x hx).2⟩
      obtain ⟨ob, cs, hρ, hg3, hc⟩ := hR
      refine keep_of hρ ⟨by rw [List.length_map]; exact small1000 (by omega), hN2 _ ⟨ob, cols ++ [cs], .un, ?_, by rw [len_app1]; exact good_mono hg3 (by omega), by rw [len_app1]; omega, by rw [len_app1]; exact hr2, fun k q c hq hc' => ?_⟩⟩
      · rw [List.map_append]
        rfl
      · rcases Nat.lt_or_ge k cols.length with g | g
        · rw [List.getElem?_append_left g] at hc'
          exact hcols k q c hq hc'
        · rw [List.getElem?_append_right g] at hc'
          have hk : k = cols.length := by
            have := (List.getElem?_eq_some_iff.mp hc').1
            simp at this
            omega
          subst hk
          rw [Nat.sub_self] at hc'
          cases hc'
          rw [← hal, hp] at hq
          cases hq
          exact hc
    · obtain ⟨ob, cols, s4, hρ, hg2, hcl, hrest, hcols⟩ := hI
      have := range_nil hrest
      exact hN _ ⟨ob, cols, keep_sub rfl hρ rfl, hg2, by omega, hcols⟩
  · obtain ⟨ob, cols, hρ, hg2, hcl, hcols⟩ := hR
    refine keep_of hρ ?_
    have hall : ∀ c ∈ cols, c.length = T := fun c hc => by
      obtain ⟨k, hk⟩ := List.getElem?_of_mem hc
      have hk2 := (List.getElem?_eq_some_iff.mp hk).1
      exact (hcols k B[k] c (List.getElem?_eq_getElem (by omega)) hk).1.1
    refine ⟨rng (by omega), ?_⟩
    show (rangeD 0 ((T : Int)).toNat).length ≤ sizeLine ∧ compD _ _ _ _ (rangeD 0 ((T : Int)).toNat) _ _
    rw [Int.toNat_natCast]
    unfold rangeD
    refine ⟨range_szN (by omega), comp_map (f := fun i => tupI (cols.map fun c => c.getD i 0)) rfl (fun i hi kk hk => .t rfl ?_) ?_⟩
    · have hi := List.mem_range.mp hi
      refine ⟨by show (cols.map tupI).length ≤ _; rw [List.length_map]; exact Nat.le_of_lt (small1000 (by omega)), comp_map (enc := tupI) (f := fun c => .int (c.getD i 0)) rfl (fun c hcm k2 hk2 => .t rfl ((itemAt_int (j := 0 + (i : Int)) (i := i) (xs := c.map .int) (Int.zero_add _) (row_at (by rw [hall c hcm]; exact hi)) _).mpr hk2)) ?_⟩
      have e : tupI (cols.map fun c => c.getD i 0) = .tuple (cols.map fun c => .int (c.getD i 0)) := by
        unfold tupI
        rw [List.map_map]
        rfl
      rw [e] at hk
      exact hk
    · have e : rowsD (tog cols T) = .tuple ((List.range T).map fun i => tupI (cols.map fun c => c.getD i 0)) := by
        unfold rowsD tog
        rw [List.map_map]
        rfl
      have h := h cols ob hcl hcols (good_mono hg2 (by omega))
      rw [e] at h
      exact ⟨noLst_tup _ (fun i => noLst_tup .int (fun _ => rfl) _) _, rfl, h⟩

end LW

namespace LW
open PySem PySem.Spec PyProof.Rows L2 DL
variable {P : Program} {w : World} {K : PySem.W.Frag} {mg : Str → Option Value} {base : Heap}
theorem tg_tup3 {i j l : Nat} {x y z : PyData} {ρ : List Sl} {Q : List Sl → Prop} (h : Q (((ρ.set i (.d x)).set j (.d y)).set l (.d z))) : dgTup 3 (dgCons (dgName i) (dgCons (dgName j) (dgCons (dgName l) dgNil))) (.tuple [x, y, z]) ρ Q := ⟨rfl, h⟩
theorem keep_set3 {m : List Bool} {ρ : List Sl} {i j l : Nat} {s t u : Sl} (h1 : m[i]?.getD true = true) (h2 : m[j]?.getD true = true) (h3 : m[l]?.getD true = true) : keepS m (((ρ.set i s).set j t).set l u) = (((keepS m ρ).set i s).set j t).set l u := by
  rw [keep_set h3, keep_set h2, keep_set h1]
/-! ### the law's world -/
def fixB (p : Rat × Rat) : Rat × Rat := (p.1, if p.2 = 0 then 1 else p.2)
def BsOk (k : Nat) (B : List (Rat × Rat)) : Prop := B.length = k ∧ ∀ p ∈ B, BdOk p ∧ 1 ≤ p.2 ∧ tv 2 p.1
def ArK (k T : Nat) (B : List (Rat × Rat)) (A : List (List Int)) : Prop := A.length = T ∧ (∀ r ∈ A, r.length = k ∧ ∀ x ∈ r, 0 ≤ x ∧ x ≤ 200) ∧ ∀ (i : Nat) (p : Rat × Rat), B[i]? = some p → Kp p (col A i)
theorem tog_ark {k T : Nat} {B : List (Rat × Rat)} {cols : List (List Int)} (hB : B.length = k) (hl : cols.length = B.length) (h : ∀ (i : Nat) (p : Rat × Rat) (c : List Int), B[i]? = some p → cols[i]? = some c → ColOk p T c ∧ ∀ x ∈ c, x ≤ 200) : ArK k T B (tog cols T) := by
  refine ⟨by unfold tog; rw [List.length_map, List.length_range], fun r hr => ?_, fun i p hp => ?_⟩
  · obtain ⟨u, hu, rfl⟩ := List.mem_map.mp hr
    refine ⟨by rw [List.length_map, hl, hB], fun x hx => ?_⟩
    obtain ⟨c, hc, rfl⟩ := List.mem_map.mp hx
    obtain ⟨i, hi⟩ := List.getElem?_of_mem hc
    have hi2 := (List.getElem?_eq_some_iff.mp hi).1
    have hh := h i B[i] c (List.getElem?_eq_getElem (by omega)) hi
    have hu := List.mem_range.mp hu
    have hm := getD_mem (x := c) (i := u) (by rw [hh.1.1]; exact hu)
    exact ⟨(hh.1.2.1 _ hm).1, hh.2 _ hm⟩
  · have hi2 := (List.getElem?_eq_some_iff.mp hp).1
    have hc : cols[i]? = some cols[i] := List.getElem?_eq_getElem (by omega)
    have hh := h i p _ hp hc
    rw [tog_col hc hh.1.1]
    exact hh.1.2.2
theorem ArK.ok {k T : Nat} {B : List (Rat × Rat)} {A : List (List Int)} (h : ArK k T B A) (hT : T ≤ 8) : ArOk k A := ⟨by have := h.1; omega, fun r hr => ⟨(h.2.1 r hr).1, fun x hx => by have := (h.2.1 r hr).2 x hx; omega⟩⟩
def sumB (M1 M2 : List (Rat × Rat)) : List (Rat × Rat) := (M1.zip M2).map fun p => (p.1.1 + p.2.1, p.1.2 + p.2.2)
theorem sumB_get {M1 M2 : List (Rat × Rat)} {i : Nat} {p : Rat × Rat} (h : (sumB M1 M2)[i]? = some p) : ∃ a b, M1[i]? = some a ∧ M2[i]? = some b ∧ p = (a.1 + b.1, a.2 + b.2) := by
  unfold sumB at h
  rw [List.getElem?_map] at h
  cases hz : (M1.zip M2)[i]? with
  | none => rw [hz] at h; cases h
  | some q =>
    rw [hz] at h
    injection h with h
    rw [List.getElem?_zip_eq_some] at hz
    exact ⟨q.1, q.2, hz.1, hz.2, h.symm⟩
theorem add_ok {k T : Nat} {B1 B2 : List (Rat × Rat)} {A A2 : List (List Int)} (h : ArK k T B1 A) (h2 : ArK k T B2 A2) (hB1 : B1.length = k) : (addR A A2).length = T ∧ (∀ r ∈ addR A A2, r.length = k ∧ ∀ x ∈ r, 0 ≤ x ∧ x ≤ 400) ∧ ∀ (i : Nat) (p : Rat × Rat), (sumB B1 B2)[i]? = some p → Kp p (col (addR A A2) i) := by
  refine ⟨by rw [addR_len (by rw [h.1, h2.1]), h.1], fun r hr => ?_, fun i p hp => ?_⟩
  · obtain ⟨q, hq, rfl⟩ := List.mem_map.mp hr
    have g1 := h.2.1 _ (List.of_mem_zip hq).1
    have g2 := h2.2.1 _ (List.of_mem_zip hq).2
    refine ⟨heaps_len g1.1 g2.1, fun x hx => ?_⟩
    obtain ⟨z, hz, rfl⟩ := List.mem_map.mp hx
    have a := g1.2 _ (List.of_mem_zip hz).1
    have b := g2.2 _ (List.of_mem_zip hz).2
    omega
  · obtain ⟨a, b, ha, hb, rfl⟩ := sumB_get hp
    have hik : i < k := by rw [← hB1]; exact (List.getElem?_eq_some_iff.mp ha).1
    exact kp_add hik (by rw [h.1, h2.1]) (fun r hr => (h.2.1 r hr).1) (fun r hr => (h2.2.1 r hr).1) (h.2.2 i a ha) (h2.2.2 i b hb)
/-- the least bound of a sum is no more than the sum of the least bounds -/
theorem lb_sum {m i : Nat} {A A2 : List (List Int)} {a b c : Rat × Rat} (hi : i < m) (hl : A.length = A2.length) (hA : ∀ r ∈ A, r.length = m) (hA2 : ∀ r ∈ A2, r.length = m) (p1 : ∀ x ∈ col A i, 0 ≤ x) (p2 : ∀ x ∈ col A2 i, 0 ≤ x) (r1 : 0 ≤ a.1) (r2 : 0 ≤ b.1)
    (ha : LB A i a) (hb : LB A2 i b) (hc : LB (addR A A2) i c) (e : c.1 = a.1 + b.1) : c.2 ≤ a.2 + b.2 := by
  have ka := kp_lb p1 ha
  have kb := kp_lb p2 hb
  have k0 := lb_pos ha
  have k1 := lb_pos hb
  have kab := kp_add hi hl hA hA2 ka kb
  obtain ⟨x, hx, ex⟩ := hc
  rw [ex]
  split
  · grind
  · rename_i hz
    rcases hx.2.2 with q | ⟨u, v, q1, q2, q3⟩
    · rw [q]
      obtain ⟨ya, hya, eya⟩ := ha
      obtain ⟨yb, hyb, eyb⟩ := hb
      by_cases za : a.1 = 0 ∧ (col A i).sum = 0
      · by_cases zb : b.1 = 0 ∧ (col A2 i).sum = 0
        · refine absurd ⟨by rw [e, za.1, zb.1]; grind, ?_⟩ hz
          have := addR_take hi (A := A) (B := A2) A.length hl hA hA2
          rw [List.take_of_length_le (by rw [col_len, addR_len hl]; exact Nat.le_refl _), List.take_of_length_le (by rw [col_len]; exact Nat.le_refl _), List.take_of_length_le (by rw [col_len]; omega), za.2, zb.2] at this
          exact this
        · rw [if_neg zb] at eyb
          have := hyb.1
          grind
      · rw [if_neg za] at eya
        have := hya.1
        grind
    · rw [q3]
      have := kab u v q1 q2
      rw [e]
      exact this
/-! lines, bounded -/
def RowsIn (k : Nat) (M : Int) (L : List (List Int)) : Prop := ∀ r ∈ L, r.length = k ∧ ∀ x ∈ r, 0 ≤ x ∧ x ≤ M
theorem play_in {k : Nat} {S : List (List Int)} (hS : SvOk k S) {c : Int} (hc : 0 ≤ c) : ∀ (W : List (List Int × Nat)) (l : List Int) (b : Int), (∀ p ∈ W, p.1.length = k ∧ (∀ x ∈ p.1, 0 ≤ x ∧ x ≤ c) ∧ p.2 < S.length) → l.length = k → (∀ x ∈ l, 0 ≤ x ∧ x ≤ b) →
    ∀ z ∈ playR S l W, (z.1.length = k ∧ ∀ x ∈ z.1, 0 ≤ x ∧ x ≤ b + c * W.length) ∧ (z.2.1.length = k ∧ ∀ x ∈ z.2.1, 0 ≤ x ∧ x ≤ b + c * W.length) ∧ (z.2.2.length = k ∧ ∀ x ∈ z.2.2, 0 ≤ x ∧ x ≤ b + c * W.length)
  | [], _, _, _, _, _, z, hz => by cases hz
  | w :: W, l, b, hW, hl, hb, z, hz => by
    obtain ⟨w1, w2, w3⟩ := hW w (List.mem_cons_self ..)
    have hh := heaps_len hl w1
    have hsv := sv_at hS w3
    have hg := gone_len hsv.2 hh
    have hr : (lnStep S l w.1 w.2).length = k := ln_len hS w3 hl w1
    have hn := ln_pos hS w3 hl w1
    have bh : ∀ x ∈ heapsOf l w.1, 0 ≤ x ∧ x ≤ b + c := fun x hx => by
      obtain ⟨q, hq, rfl⟩ := List.mem_map.mp hx
      have a1 := hb _ (List.of_mem_zip hq).1
      have a2 := w2 _ (List.of_mem_zip hq).2
      omega
    have bg : ∀ x ∈ goneOf (svAt S w.2) (heapsOf l w.1), 0 ≤ x ∧ x ≤ b + c := fun x hx => by
      obtain ⟨q, hq, rfl⟩ := List.mem_map.mp hx
      have a1 := bh _ (List.of_mem_zip hq).2
      have a2 := (hS.2.2 _ hsv.1).2 _ (List.of_mem_zip hq).1
      show 0 ≤ (if q.2 < q.1 then q.2 else q.1) ∧ (if q.2 < q.1 then q.2 else q.1) ≤ b + c
      split <;> omega
    have br : ∀ x ∈ lnStep S l w.1 w.2, 0 ≤ x ∧ x ≤ b + c := fun x hx => by
      refine ⟨hn x hx, ?_⟩
      obtain ⟨q, hq, rfl⟩ := List.mem_map.mp hx
      have a1 := bh _ (List.of_mem_zip hq).1
      have a2 := bg _ (List.of_mem_zip hq).2
      omega
    have ec : b + c + c * (W.length : Int) = b + c * ((W.length + 1 : Nat) : Int) := by
      have e2 : ((W.length + 1 : Nat) : Int) = (W.length : Int) + 1 := by omega
      rw [e2, Int.mul_add, Int.mul_one]
      omega
    have hcw : 0 ≤ c * (W.length : Int) := Int.mul_nonneg hc (by omega)
    rw [List.length_cons]
    rcases List.mem_cons.mp hz with e | e
    · subst e
      refine ⟨⟨hh, fun x hx => ?_⟩, ⟨hg, fun x hx => ?_⟩, ⟨hr, fun x hx => ?_⟩⟩
      · have := bh x hx; omega
      · have := bg x hx; omega
      · have := br x hx; omega
    · have ih := play_in hS hc W _ (b + c) (fun p hp => hW p (List.mem_cons_of_mem _ hp)) hr br z e
      rw [ec] at ih
      exact ih
theorem sd_rowsB {k : Nat} {M : Int} {L : List (List Int)} (hk : k ≤ 8) (hM : M ≤ 1000000) (h : RowsIn k M L) (hl : L.length ≤ 100) : SD 2 97700 (rowsD L) := sd_tup (dp := 1) (n := 976) 100 (fun x hx => by
  obtain ⟨r, hr, rfl⟩ := List.mem_map.mp hx
  have h1 := (h r hr).1
  exact sd_ints (by omega) (fun x hx => by
    have := (h r hr).2 x hx
    have h2 : (1000001 : Nat) ≤ 2 ^ 100 := by decide
    omega) 8 (by omega)) (by rw [List.length_map]; exact hl)
/-! empty turns ahead -/
theorem step_zero {k j : Nat} {S : List (List Int)} (hS : SvOk k S) (hj : j < S.length) : lnStep S (List.replicate k 0) (List.replicate k 0) j = List.replicate k 0 := by
  have h0 : (List.replicate k (0 : Int)).length = k := List.length_replicate
  have hl := ln_len hS hj h0 h0
  refine List.ext_getElem (by rw [hl, h0]) fun i h1 h2 => ?_
  have hi : i < k := by omega
  have e := ln_get hS hj h0 h0 hi
  have z : (List.replicate k (0 : Int)).getD i 0 = 0 := by
    rw [List.getD_eq_getElem?_getD, List.getElem?_replicate]
    split <;> rfl
  rw [List.getD_eq_getElem?_getD, List.getElem?_eq_getElem h1, z] at e
  have hsv := sv_at hS hj
  have hp := (hS.2.2 _ hsv.1).2 _ (getD_mem (x := svAt S j) (i := i) (by rw [hsv.2]; exact hi))
  rw [List.getElem_replicate]
  have e' : (lnStep S (List.replicate k 0) (List.replicate k 0) j)[i] = 0 + 0 - (if (0 : Int) + 0 < (svAt S j).getD i 0 then 0 + 0 else (svAt S j).getD i 0) := e
  rw [e']
  split <;> omega
theorem lines_late {k : Nat} {S : List (List Int)} (hS : SvOk k S) (W : List (List Int)) (ns : List Nat) : ∀ (idle : List Nat), (∀ i ∈ idle, i < S.length) → linesOf S (List.replicate k 0) ((latR k idle.length W).zip (idle ++ ns)) = List.replicate idle.length (List.replicate k 0) ++ linesOf S (List.replicate k 0) (W.zip ns)
  | [], _ => rfl
  | j :: idle, h => by
    have ih := lines_late hS W ns idle fun i hi => h i (List.mem_cons_of_mem _ hi)
    have st := step_zero hS (h j (List.mem_cons_self ..))
    show lnStep S (List.replicate k 0) (List.replicate k 0) j :: linesOf S (lnStep S (List.replicate k 0) (List.replicate k 0) j) ((latR k idle.length W).zip (idle ++ ns)) = _
    rw [st, ih]
    rfl
theorem maxOf_zeros : ∀ (n : Nat) (xs : List Int), PySem.W.maxOf 0 (List.replicate n 0 ++ xs) = PySem.W.maxOf 0 xs
  | 0, _ => rfl
  | n + 1, xs => by
    rw [List.replicate_succ, List.cons_append]
    show PySem.W.maxOf (if PySem.W.DatumOrd.lt (0 : Int) 0 = true then 0 else 0) (List.replicate n 0 ++ xs) = _
    rw [ite_self]
    exact maxOf_zeros n xs
theorem topAt_late {k i n : Nat} (L : List (List Int)) : topAt (List.replicate n (List.replicate k 0) ++ L) i = topAt L i := by
  unfold topAt
  rw [List.map_append, List.map_replicate]
  have z : (List.replicate k (0 : Int)).getD i 0 = 0 := by
    rw [List.getD_eq_getElem?_getD, List.getElem?_replicate]
    split <;> rfl
  rw [z]
  exact maxOf_zeros n _
/-! the least bounds of a sum -/
def LsOk (B : List (Rat × Rat)) (A : List (List Int)) (M : List (Rat × Rat)) : Prop := M.map (·.1) = B.map (·.1) ∧ ∀ k p, M[k]? = some p → LB A k p
theorem lb_tv {m k : Nat} {A : List (List Int)} {p : Rat × Rat} (hA : ArOk m A) (hp : tv 100 p.1) (h : LB A k p) : tv (PT + PT) p.2 := by
  obtain ⟨b, hb, e⟩ := h
  rw [e]
  split
  · exact tv_zero _
  · rcases hb.2.2 with q | ⟨x, y, q1, q2, q3⟩
    · rw [q]; exact tv_mono tv_one (by decide)
    · rw [q3]
      have hl := hA.1
      rw [col_len] at q2
      exact tv_sub (pot_tw hp (col_ok hA k) (by omega)) (pot_tw hp (col_ok hA k) (by omega))
theorem ls_get {B : List (Rat × Rat)} {A : List (List Int)} {M : List (Rat × Rat)} (h : LsOk B A M) {i : Nat} {p : Rat × Rat} (hp : M[i]? = some p) : ∃ x, B[i]? = some x ∧ x.1 = p.1 := by
  have e := congrArg (fun l => l[i]?) h.1
  simp only [List.getElem?_map, hp] at e
  cases hx : B[i]? with
  | none => rw [hx] at e; cases e
  | some x => rw [hx] at e; exact ⟨x, rfl, (Option.some.inj e).symm⟩
theorem least_zip {k T : Nat} {B1 B2 M1 M2 M3 : List (Rat × Rat)} {A A2 : List (List Int)} (hB1 : BsOk k B1) (hB2 : BsOk k B2) (hT : T ≤ 8) (hA : ArK k T B1 A) (hA2 : ArK k T B2 A2) (hW : ArOk k (addR A A2)) (h1 : LsOk B1 A M1) (h2 : LsOk B2 A2 M2) (h3 : LsOk (sumB B1 B2) (addR A A2) M3) :
    ∀ q ∈ M1.zip (M2.zip M3), tv 1000000 q.1.2 ∧ tv 1000000 q.2.1.2 ∧ tv 1000000 q.2.2.2 ∧ q.2.2.2 ≤ q.1.2 + q.2.1.2 := fun q hq => by
  obtain ⟨i, hi⟩ := List.getElem?_of_mem hq
  rw [List.getElem?_zip_eq_some, List.getElem?_zip_eq_some] at hi
  obtain ⟨g1, g2, g3⟩ := hi
  obtain ⟨x, hx, ex⟩ := ls_get h1 g1
  obtain ⟨y, hy, ey⟩ := ls_get h2 g2
  obtain ⟨z, hz, ez⟩ := ls_get h3 g3
  obtain ⟨a, b, ha, hb, rfl⟩ := sumB_get hz
  rw [hx] at ha
  cases ha
  rw [hy] at hb
  cases hb
  have ox := (hB1.2 x (List.mem_of_getElem? hx)).1
  have oy := (hB2.2 y (List.mem_of_getElem? hy)).1
  have tx := (hB1.2 x (List.mem_of_getElem? hx)).2.2
  have ty := (hB2.2 y (List.mem_of_getElem? hy)).2.2
  have hik : i < k := by rw [← hB1.1]; exact (List.getElem?_eq_some_iff.mp hx).1
  have pt : PT + PT ≤ 1000000 := by unfold PT; decide
  refine ⟨tv_mono (lb_tv (hA.ok hT) (by rw [← ex]; exact tv_mono tx (by decide)) (h1.2 i _ g1)) pt, tv_mono (lb_tv (hA2.ok hT) (by rw [← ey]; exact tv_mono ty (by decide)) (h2.2 i _ g2)) pt, tv_mono (lb_tv hW (by rw [← ez]; exact tv_mono (tv_add tx ty) (by decide)) (h3.2 i _ g3)) pt, ?_⟩
  refine lb_sum (m := k) (i := i) hik (by rw [hA.1, hA2.1]) (fun r hr => (hA.2.1 r hr).1) (fun r hr => (hA2.2.1 r hr).1) (fun v hv => (col_ok (hA.ok hT) i).2 v hv |>.1) (fun v hv => (col_ok (hA2.ok hT) i).2 v hv |>.1) ?_ ?_ (h1.2 i _ g1) (h2.2 i _ g2) (h3.2 i _ g3) ?_
  · rw [← ex]; exact ox.1.1
  · rw [← ey]; exact oy.1.1
  · rw [← ex, ← ey, ← ez]
theorem sd_rows8 {k : Nat} {M : Int} {L : List (List Int)} (hk : k ≤ 8) (hM : M ≤ 1000000) (h : RowsIn k M L) (hl : L.length ≤ 8) : SD 2 7816 (rowsD L) := sd_tup (dp := 1) (n := 976) 8 (fun x hx => by
  obtain ⟨r, hr, rfl⟩ := List.mem_map.mp hx
  have h1 := (h r hr).1
  exact sd_ints (by omega) (fun x hx => by
    have := (h r hr).2 x hx
    have h2 : (1000001 : Nat) ≤ 2 ^ 100 := by decide
    omega) 8 (by omega)) (by rw [List.length_map]; exact hl)
theorem playR_len (S : List (List Int)) : ∀ (l : List Int) (r : List (List Int × Nat)), (playR S l r).length = r.length
  | _, [] => rfl
  | l, p :: r => congrArg (· + 1) (playR_len S (lnStep S l p.1 p.2) r)
theorem comp_st {Pr : PyData → Prop} {vs : List Nat} {TG : DTG} {TT : DTT} {Te : DT} {ρ : List Sl} {x : PyData} {xs : List PyData} {k : List PyData → List Sl → Prop} (hc : clr ρ vs = true) (step : ∀ kk : Option PyData → List Sl → Prop, (∀ y, Pr y → kk (some y) ρ) → turnD vs TG TT Te ρ x kk)
    (h : ∀ y, Pr y → compD vs TG TT Te xs ρ (fun ys ρ' => k (y :: ys) ρ')) : compD vs TG TT Te (x :: xs) ρ k := ⟨hc, step _ h⟩
theorem last_of {k : Nat} {R : List (List Int × List Int × List Int)} (h : R ≠ []) : ∃ z, R[R.length - 1]? = some z ∧ z ∈ R ∧ z.2.2 = lastL k (R.map (·.2.2)) := by
  have hl : R.length - 1 < R.length := by
    have := List.length_pos_iff.mpr h
    omega
  refine ⟨R[R.length - 1], List.getElem?_eq_getElem hl, List.getElem_mem hl, ?_⟩
  have := lastL_get (m := k) (L := R.map (·.2.2)) (by intro e; exact h (List.map_eq_nil_iff.mp e))
  rw [List.length_map, List.getElem?_map, List.getElem?_eq_getElem hl] at this
  exact Option.some.inj this
theorem ln_next {S W L2 : List (List Int)} {nb : List Nat} {l w : List Int} {t n : Nat} (hw : W[t]? = some w) (hn : nb[t]? = some n) (h : linesOf S l ((W.zip nb).drop t) = L2.drop t) : L2[t]? = some (lnStep S l w n) ∧ linesOf S (lnStep S l w n) ((W.zip nb).drop (t + 1)) = L2.drop (t + 1) := by
  have hz : (W.zip nb)[t]? = some (w, n) := List.getElem?_zip_eq_some.mpr ⟨hw, hn⟩
  obtain ⟨hlt, he⟩ := List.getElem?_eq_some_iff.mp hz
  rw [List.drop_eq_getElem_cons hlt, he] at h
  have h' : lnStep S l w n :: linesOf S (lnStep S l w n) ((W.zip nb).drop (t + 1)) = L2.drop t := h
  have hl : t < L2.length := by
    rcases Nat.lt_or_ge t L2.length with q | q
    · exact q
    · rw [List.drop_eq_nil_of_le q] at h'
      cases h'
  rw [List.drop_eq_getElem_cons hl] at h'
  injection h' with a b
  exact ⟨by rw [List.getElem?_eq_getElem hl, a], b⟩
theorem take_next {α : Type} {l : List α} {t : Nat} {x : α} (h : l[t]? = some x) : l.take t ++ [x] = l.take (t + 1) := by
  rw [List.take_add_one, h]
  rfl
theorem natI_get {nb : List Nat} {t n : Nat} (h : nb[t]? = some n) : (natI nb)[t]? = some (n : Int) := by
  unfold natI
  rw [List.getElem?_map, h]
  rfl
theorem tot_ok {k T i : Nat} {B1 B2 : List (Rat × Rat)} {A A2 : List (List Int)} (hB : BsOk k B1) (hT1 : 1 ≤ T) (hA : ArK k T B1 A) (hA2 : ArK k T B2 A2) (hi : i < k) :
    (col (tog (B1.map fun p => stCol p.1 T) T) i).sum ≤ (col (tog (B1.map fun p => fuCol p T) T) i).sum ∧ (col A i).sum ≤ (col (tog (B1.map fun p => fuCol p T) T) i).sum ∧ (col (addR A A2) i).sum = (col A i).sum + (col A2 i).sum := by
  obtain ⟨q, hq⟩ : ∃ q, B1[i]? = some q := ⟨_, List.getElem?_eq_getElem (by rw [hB.1]; exact hi)⟩
  have hqb := (hB.2 q (List.mem_of_getElem? hq)).1
  have cF : col (tog (B1.map fun p => fuCol p T) T) i = fuCol q T := tog_col (by rw [List.getElem?_map, hq]; rfl) (fuCol_len _ _)
  have cE : col (tog (B1.map fun p => stCol p.1 T) T) i = stCol q.1 T := tog_col (by rw [List.getElem?_map, hq]; rfl) (stCol_len _ _)
  obtain ⟨b, rfl⟩ : ∃ b, T = b + 1 := ⟨T - 1, by omega⟩
  have v1 := st_sum q.1 (b + 1) (b + 1) (Nat.le_refl _)
  have v2 := fu_sum q (b + 1) b (Nat.le_refl _)
  have v3 := kp_sum (hA.2.2 i q hq) (e := b + 1) (by omega) (by rw [col_len, hA.1]; exact Nat.le_refl _)
  have v4 := addR_take hi (b + 1) (A := A) (B := A2) (by rw [hA.1, hA2.1]) (fun r hr => (hA.2.1 r hr).1) (fun r hr => (hA2.2.1 r hr).1)
  rw [List.take_of_length_le (by rw [stCol_len]; exact Nat.le_refl _)] at v1
  rw [List.take_of_length_le (by rw [fuCol_len]; exact Nat.le_refl _)] at v2
  rw [List.take_of_length_le (by rw [col_len, hA.1]; exact Nat.le_refl _)] at v3
  rw [List.take_of_length_le (by rw [col_len, addR_len (by rw [hA.1, hA2.1]), hA.1]; exact Nat.le_refl _), List.take_of_length_le (by rw [col_len, hA.1]; exact Nat.le_refl _), List.take_of_length_le (by rw [col_len, hA2.1]; exact Nat.le_refl _)] at v4
  rw [cF, cE]
  refine ⟨?_, by rw [v2]; exact v3, v4⟩
  rw [v1, v2]
  exact floor_mono (by have := (bd_sum hqb).2; grind)
theorem shp_tupI (l : List Int) : SeqAt.shaped (tupI l) = true := shaped_of (lay_tupI l) (Nat.le_trans (dep_tupI l) (by decide))
theorem ne_lay {d : PyData} (h : d.canLay0 = true) : (!PyData.eqv d d) = false := by
  rw [SeqAt.eqv_refl _ h]
  rfl

end LW

namespace LW
open PySem PySem.Spec PyProof.Rows L2 DL
variable {P : Program} {w : World} {K : PySem.W.Frag} {mg : Str → Option Value} {base : Heap}

def rtD (B : List (Rat × Rat)) : PyData := .tuple ((B.map (·.1)).map fr)
theorem ok_law (t : Txt K mg) {f : Addr} {fd : FuncData} (F : Fun K "law" "law" s_law f fd) : FnG P w K mg base 11 f fd ["script"] (spLaw K) := by
  have nb := t.nb
  have c__law_alike := ok__law_alike (P := P) (w := w) (base := base) t
  have c__law_bag := ok__law_bag (P := P) (w := w) (base := base) t
  have c__law_bound := ok__law_bound (P := P) (w := w) (base := base) t
  have c__law_keeps := ok__law_keeps (P := P) (w := w) (base := base) t
  have c__law_kept_comes := ok__law_kept_comes (P := P) (w := w) (base := base) t
  have c__law_less := ok__law_less (P := P) (w := w) (base := base) t
  have c__law_played := ok__law_played (P := P) (w := w) (base := base) t
  have c__law_plus := ok__law_plus (P := P) (w := w) (base := base) t
  have c__law_rates := ok__law_rates (P := P) (w := w) (base := base) t
  have c__law_services := ok__law_services (P := P) (w := w) (base := base) t
  have c__law_streams := ok__law_streams (P := P) (w := w) (base := base) t
  have c__law_take := ok__law_take (P := P) (w := w) (base := base) t
  have c_all_at_once := ok_all_at_once (P := P) (w := w) (base := base) t
  have c_both := ok_both (P := P) (w := w) (base := base) t
  have c_gone_in := ok_gone_in (P := P) (w := w) (base := base) t
  have c_greatest_lines := ok_greatest_lines (P := P) (w := w) (base := base) t
  have c_heaps_in := ok_heaps_in (P := P) (w := w) (base := base) t
  have c_keeps := ok_keeps (P := P) (w := w) (base := base) t
  have c_last_lines := ok_last_lines (P := P) (w := w) (base := base) t
  have c_later := ok_later (P := P) (w := w) (base := base) t
  have c_least_bound := ok_least_bound (P := P) (w := w) (base := base) t
  have c_lines_behind := ok_lines_behind (P := P) (w := w) (base := base) t
  have c_steady := ok_steady (P := P) (w := w) (base := base) t
  have c_total_of := ok_total_of (P := P) (w := w) (base := base) t
  obtain ⟨C_Lines, o_Lines⟩ := t.o_Lines
  have cl_Lines := o_Lines.cl
  have na_Lines_services := o_Lines.na_services
  have na_Lines_came := o_Lines.na_came
  have na_Lines_done := o_Lines.na_done
  have na_Lines_lying := o_Lines.na_lying
  have ci_Lines := okm_Lines___init__ (P := P) (w := w) (base := base) t o_Lines
  have cm_Lines_lines := okm_Lines_lines (P := P) (w := w) (base := base) t o_Lines
  have cm_Lines_turn := okm_Lines_turn (P := P) (w := w) (base := base) t o_Lines
  have cm_Lines_arrivals := okm_Lines_arrivals (P := P) (w := w) (base := base) t o_Lines
  have cm_Lines_numbers := okm_Lines_numbers (P := P) (w := w) (base := base) t o_Lines
  have cm_Lines_turns := okm_Lines_turns (P := P) (w := w) (base := base) t o_Lines
  have cm_Lines_twin := okm_Lines_twin (P := P) (w := w) (base := base) t o_Lines
  refine fnG_data F sc_law (fun cdv A outer s H E hr hG => (dss_cons (ds_setN (i := 1) sc_law.nd rfl (by first | exact .inl rfl | exact .inr rfl) (dn_call c__law_bag hr (by decide) (by rfl) (da_cons (de_var 0 (pv 0)) da_nil)))
 (dss_cons (ds_for PassesOwn.never rfl (di_range1 (by rfl) nb.range_ (da_cons de_int da_nil)) (dg_name (i := 2) (pg_name (i := 2) sc_law.nd rfl (by first | exact .inl rfl | exact .inr rfl)))
 (dss_keep [false, true, false, false, false, false, false, false, false, false, false, false, false, false, false, false, false, false, false, false, false, false, false, false, false, false, false, false, false, false, false, false, false, false, false, false] (dss_cons (ds_set (i := 3) sc_law.nd rfl (by first | exact .inl rfl | exact .inr rfl) (de_callB 1 c__law_streams hr (by decide) (by rfl) (pv 1) (da_cons de_int da_nil)))
 (dss_cons (ds_parN (ks := [4, 5]) rfl (dm_dat (de_callB 1 c__law_services hr (by decide) (by rfl) (pv 1) (da_cons (de_var 3 (pv 3)) (da_cons de_int da_nil))) (dm_dat (de_addA de_int (de_callB 1 c__law_take hr (by decide) (by rfl) (pv 1) (da_cons de_int da_nil))) dm_nil)) (pgs_cons (pg_name (i := 4) sc_law.nd rfl (by first | exact .inl rfl | exact .inr rfl)) (pgs_cons (pg_name (i := 5) sc_law.nd rfl (by first | exact .inl rfl | exact .inr rfl)) pgs_nil)) rfl)
 (dss_cons (ds_asg (de_lc (own := [("k", 30)]) rfl sc_law.nd (di_range1 (by rfl) nb.range_ (da_cons de_int da_nil)) (blkOk_by (by kernel_rfl)) (fun _ _ _ _ _ => (dw_name (i := 30) (pg_name (i := 30) sc_law.nd rfl (by first | exact .inl rfl | exact .inr rfl)) (by decide))) (fun _ _ _ _ _ => dts_nil) (fun _ _ _ _ _ => (de_bty call_tuple_of od_tuple (by rfl) nb.tuple_ (by decide +kernel) (da_cons (de_lc (own := [("rate", 31), ("burst", 32)]) rfl sc_law.nd (di_seq (de_callB 1 c__law_bound hr (by decide) (by rfl) (pv 1) (da_cons (de_callB 1 c__law_rates hr (by decide) (by rfl) (pv 1) (da_cons (de_var 3 (pv 3)) da_nil)) da_nil))) (blkOk_by (by kernel_rfl)) (fun _ _ _ _ _ => (dw_tup (n := 2) rfl (dws_cons (dw_name (i := 31) (pg_name (i := 31) sc_law.nd rfl (by first | exact .inl rfl | exact .inr rfl)) (by decide)) (dws_cons (dw_name (i := 32) (pg_name (i := 32) sc_law.nd rfl (by first | exact .inl rfl | exact .inr rfl)) (by decide)) dws_nil)))) (fun _ _ _ _ _ => dts_nil) (fun _ _ _ _ _ => (de_tup (da_cons (de_var 31 (pv 31)) (da_cons (de_ifExp (db_cmp (op_neD hr.units) od_ne (de_var 32 (pv 32)) (de_tup (da_cons de_int (da_cons de_int da_nil))) (nomark _)) (de_var 32 (pv 32)) (de_tup (da_cons de_int (da_cons de_int da_nil)))) da_nil))))) da_nil)))) (dg_lst (n := 2) rfl (dgs_cons (dg_name (i := 6) (pg_name (i := 6) sc_law.nd rfl (by first | exact .inl rfl | exact .inr rfl))) (dgs_cons (dg_name (i := 7) (pg_name (i := 7) sc_law.nd rfl (by first | exact .inl rfl | exact .inr rfl))) dgs_nil))))
 (dss_cons (ds_par (i := 8) (j := 9) rfl sc_law.nd rfl rfl (by decide) rfl rfl (dm_dat (de_callB 1 c__law_kept_comes hr (by decide) (by rfl) (pv 1) (da_cons (de_var 6 (pv 6)) (da_cons (de_var 5 (pv 5)) da_nil))) (dm_dat (de_callB 1 c__law_kept_comes hr (by decide) (by rfl) (pv 1) (da_cons (de_var 7 (pv 7)) (da_cons (de_var 5 (pv 5)) da_nil))) dm_nil)) (by rfl))
 (dss_cons (ds_set (i := 10) sc_law.nd rfl (by first | exact .inl rfl | exact .inr rfl) (de_bty call_tuple_of od_tuple (by rfl) nb.tuple_ (by decide +kernel) (da_cons (de_lc (own := [("a", 14), ("b", 15)]) rfl sc_law.nd (di_zip2 (by rfl) nb.zip_ (da_cons (de_var 6 (pv 6)) (da_cons (de_var 7 (pv 7)) da_nil))) (blkOk_by (by kernel_rfl)) (fun _ _ _ _ _ => (dw_tup (n := 2) rfl (dws_cons (dw_name (i := 14) (pg_name (i := 14) sc_law.nd rfl (by first | exact .inl rfl | exact .inr rfl)) (by decide)) (dws_cons (dw_name (i := 15) (pg_name (i := 15) sc_law.nd rfl (by first | exact .inl rfl | exact .inr rfl)) (by decide)) dws_nil)))) (fun _ _ _ _ _ => dts_nil) (fun _ _ _ _ _ => (de_tup (da_cons (de_callC c__law_plus hr (by decide) (by rfl) (da_cons (de_ix (de_var 14 (pv 14)) de_int) (da_cons (de_ix (de_var 15 (pv 15)) de_int) da_nil))) (da_cons (de_callC c__law_plus hr (by decide) (by rfl) (da_cons (de_ix (de_var 14 (pv 14)) de_int) (da_cons (de_ix (de_var 15 (pv 15)) de_int) da_nil))) da_nil))))) da_nil)))
 (dss_cons (ds_set (i := 11) sc_law.nd rfl (by first | exact .inl rfl | exact .inr rfl) (de_callC c_both hr (by decide) (by rfl) (da_cons (de_var 8 (pv 8)) (da_cons (de_var 9 (pv 9)) da_nil))))
 (dss_cons (ds_if (db_not (db_val (de_callG c__law_alike hG hr (by decide) (by rfl) (da_cons (de_lst (da_cons (de_callC c_keeps hr (by decide) (by rfl) (da_cons (de_var 10 (pv 10)) (da_cons (de_var 11 (pv 11)) da_nil))) (da_cons (de_callC c_keeps hr (by decide) (by rfl) (da_cons (de_var 6 (pv 6)) (da_cons (de_var 8 (pv 8)) da_nil))) (da_cons (de_callC c_keeps hr (by decide) (by rfl) (da_cons (de_var 7 (pv 7)) (da_cons (de_var 9 (pv 9)) da_nil))) (da_cons (de_callC c__law_keeps hr (by decide) (by rfl) (da_cons (de_var 10 (pv 10)) (da_cons (de_var 11 (pv 11)) da_nil))) da_nil))))) (da_cons (de_ofN (dn_mul (de_lst (da_cons de_bl da_nil)) de_int)) da_nil))))) (dss_one (ds_ret de_bl)) dss_nil)
 (dss_keep [false, true, false, true, true, true, true, true, true, true, true, true, false, false, false, false, false, false, false, false, false, false, false, false, false, false, false, false, false, false, false, false, false, false, false, false] (dss_cons (ds_setLc (i := 12) (own := [("some", 33)]) rfl sc_law.nd rfl rfl (sw_true rfl rfl rfl (by decide +kernel)) (di_seq (de_tup (da_cons (de_var 6 (pv 6)) (da_cons (de_var 7 (pv 7)) (da_cons (de_var 10 (pv 10)) da_nil))))) (blkOk_by (by kernel_rfl)) (fun _ _ _ _ _ => (dw_name (i := 33) (pg_name (i := 33) sc_law.nd rfl (by first | exact .inl rfl | exact .inr rfl)) (by decide))) (fun _ _ _ _ _ => dts_nil) (fun _ _ _ _ _ => (de_bty call_tuple_of od_tuple (by rfl) nb.tuple_ (by decide +kernel) (da_cons (de_lc (own := [("rate", 31), ("burst", 32)]) rfl sc_law.nd (di_seq (de_var 33 (pv 33))) (blkOk_by (by kernel_rfl)) (fun _ _ _ _ _ => (dw_tup (n := 2) rfl (dws_cons (dw_name (i := 31) (pg_name (i := 31) sc_law.nd rfl (by first | exact .inl rfl | exact .inr rfl)) (by decide)) (dws_cons (dw_name (i := 32) (pg_name (i := 32) sc_law.nd rfl (by first | exact .inl rfl | exact .inr rfl)) (by decide)) dws_nil)))) (fun _ _ _ _ _ => dts_nil) (fun _ _ _ _ _ => (de_var 31 (pv 31)))) da_nil))))
 (dss_cons (ds_setLc (i := 13) (own := [("some", 33), ("comes", 34)]) rfl sc_law.nd rfl rfl (sw_true rfl rfl rfl (by decide +kernel)) (di_zip2 (by rfl) nb.zip_ (da_cons (de_var 12 (pv 12)) (da_cons (de_tup (da_cons (de_var 8 (pv 8)) (da_cons (de_var 9 (pv 9)) (da_cons (de_var 11 (pv 11)) da_nil)))) da_nil))) (blkOk_by (by kernel_rfl)) (fun _ _ _ _ _ => (dw_tup (n := 2) rfl (dws_cons (dw_name (i := 33) (pg_name (i := 33) sc_law.nd rfl (by first | exact .inl rfl | exact .inr rfl)) (by decide)) (dws_cons (dw_name (i := 34) (pg_name (i := 34) sc_law.nd rfl (by first | exact .inl rfl | exact .inr rfl)) (by decide)) dws_nil)))) (fun _ _ _ _ _ => dts_nil) (fun _ _ _ _ _ => (de_callC c_least_bound hr (by decide) (by rfl) (da_cons (de_var 33 (pv 33)) (da_cons (de_var 34 (pv 34)) da_nil)))))
 (dss_cons (ds_for PassesOwn.never rfl (di_zip3 (by rfl) nb.zip_ (da_cons (de_ix (de_var 13 (pv 13)) de_int) (da_cons (de_ix (de_var 13 (pv 13)) de_int) (da_cons (de_ix (de_var 13 (pv 13)) de_int) da_nil)))) (dg_tup (n := 3) rfl (dgs_cons (dg_name (i := 14) (pg_name (i := 14) sc_law.nd rfl (by first | exact .inl rfl | exact .inr rfl))) (dgs_cons (dg_name (i := 15) (pg_name (i := 15) sc_law.nd rfl (by first | exact .inl rfl | exact .inr rfl))) (dgs_cons (dg_name (i := 16) (pg_name (i := 16) sc_law.nd rfl (by first | exact .inl rfl | exact .inr rfl))) dgs_nil))))
 (dss_keep [false, true, false, true, true, true, true, false, true, true, false, true, false, false, true, true, true, false, false, false, false, false, false, false, false, false, false, false, false, false, false, false, false, false, false, false] (dss_one (ds_if (db_val (de_callC c__law_less hr (by decide) (by rfl) (da_cons (de_callC c__law_plus hr (by decide) (by rfl) (da_cons (de_ix (de_var 14 (pv 14)) de_int) (da_cons (de_ix (de_var 15 (pv 15)) de_int) da_nil))) (da_cons (de_ix (de_var 16 (pv 16)) de_int) da_nil)))) (dss_one (ds_ret de_bl)) dss_nil))))
 (dss_keep [false, true, false, true, true, true, true, false, true, true, false, true, false, false, false, false, false, false, false, false, false, false, false, false, false, false, false, false, false, false, false, false, false, false, false, false] (dss_cons (ds_set (i := 17) sc_law.nd rfl (by first | exact .inl rfl | exact .inr rfl) (de_bty call_tuple_of od_tuple (by rfl) nb.tuple_ (by decide +kernel) (da_cons (de_lc (own := [("turn", 27)]) rfl sc_law.nd (di_range1 (by rfl) nb.range_ (da_cons (de_var 5 (pv 5)) da_nil)) (blkOk_by (by kernel_rfl)) (fun _ _ _ _ _ => (dw_name (i := 27) (pg_name (i := 27) sc_law.nd rfl (by first | exact .inl rfl | exact .inr rfl)) (by decide))) (fun _ _ _ _ _ => dts_nil) (fun _ _ _ _ _ => (de_callB 1 c__law_take hr (by decide) (by rfl) (pv 1) (da_cons (de_blt call_len_seq od_len (by rfl) nb.len_ PySem.boot_len (da_cons (de_var 4 (pv 4)) da_nil)) da_nil)))) da_nil)))
 (dss_cons (ds_setLc (i := 18) (own := [("comes", 34)]) rfl sc_law.nd rfl rfl (sw_true rfl rfl rfl (by decide +kernel)) (di_seq (de_tup (da_cons (de_var 8 (pv 8)) (da_cons (de_var 11 (pv 11)) da_nil)))) (blkOk_by (by kernel_rfl)) (fun _ _ _ _ _ => (dw_name (i := 34) (pg_name (i := 34) sc_law.nd rfl (by first | exact .inl rfl | exact .inr rfl)) (by decide))) (fun _ _ _ _ _ => dts_nil) (fun _ _ _ _ _ => (de_callC c_lines_behind hr (by decide) (by rfl) (da_cons (de_var 4 (pv 4)) (da_cons (de_var 34 (pv 34)) (da_cons (de_var 17 (pv 17)) da_nil))))))
 (dss_cons (ds_for PassesOwn.never rfl (di_zip2 (by rfl) nb.zip_ (da_cons (de_ix (de_var 18 (pv 18)) de_int) (da_cons (de_ix (de_var 18 (pv 18)) de_int) da_nil))) (dg_tup (n := 2) rfl (dgs_cons (dg_name (i := 19) (pg_name (i := 19) sc_law.nd rfl (by first | exact .inl rfl | exact .inr rfl))) (dgs_cons (dg_name (i := 20) (pg_name (i := 20) sc_law.nd rfl (by first | exact .inl rfl | exact .inr rfl))) dgs_nil)))
 (dss_keep [false, true, false, true, true, true, true, false, true, true, false, true, false, false, false, false, false, true, true, true, true, false, false, false, false, false, false, false, false, false, false, false, false, false, false, false] (dss_one (ds_if (db_bor (db_cmp (op_neD hr.units) od_ne (de_lc (own := [("a", 14), ("b", 15)]) rfl sc_law.nd (di_zip2 (by rfl) nb.zip_ (da_cons (de_var 19 (pv 19)) (da_cons (de_var 20 (pv 20)) da_nil))) (blkOk_by (by kernel_rfl)) (fun _ _ _ _ _ => (dw_tup (n := 2) rfl (dws_cons (dw_name (i := 14) (pg_name (i := 14) sc_law.nd rfl (by first | exact .inl rfl | exact .inr rfl)) (by decide)) (dws_cons (dw_name (i := 15) (pg_name (i := 15) sc_law.nd rfl (by first | exact .inl rfl | exact .inr rfl)) (by decide)) dws_nil)))) (fun _ _ _ _ _ => dts_one (db_cmp op_gt od_gt (de_var 14 (pv 14)) (de_var 15 (pv 15)) (nomark _))) (fun _ _ _ _ _ => de_int)) (de_lst da_nil) (nomark _))) (dss_one (ds_ret de_bl)) dss_nil))))
 (dss_keep [false, true, false, true, true, true, true, false, true, true, false, true, false, false, false, false, false, true, true, false, false, false, false, false, false, false, false, false, false, false, false, false, false, false, false, false] (dss_cons (ds_set (i := 21) sc_law.nd rfl (by first | exact .inl rfl | exact .inr rfl) (de_callC c__law_played hr (by decide) (by rfl) (da_cons (de_var 4 (pv 4)) (da_cons (de_var 11 (pv 11)) (da_cons (de_var 17 (pv 17)) da_nil)))))
 (dss_cons (ds_set (i := 22) sc_law.nd rfl (by first | exact .inl rfl | exact .inr rfl) (de_lst (da_cons (de_callC c_heaps_in hr (by decide) (by rfl) (da_cons (de_var 4 (pv 4)) (da_cons (de_var 11 (pv 11)) (da_cons (de_var 17 (pv 17)) da_nil)))) (da_cons (de_callC c_gone_in hr (by decide) (by rfl) (da_cons (de_var 4 (pv 4)) (da_cons (de_var 11 (pv 11)) (da_cons (de_var 17 (pv 17)) da_nil)))) (da_cons (de_callC c_last_lines hr (by decide) (by rfl) (da_cons (de_var 4 (pv 4)) (da_cons (de_var 11 (pv 11)) (da_cons (de_var 17 (pv 17)) da_nil)))) da_nil)))))
 (dss_cons (ds_if (db_not (db_val (de_callG c__law_alike hG hr (by decide) (by rfl) (da_cons (de_var 22 (pv 22)) (da_cons (de_lst (da_cons (de_bty call_tuple_of od_tuple (by rfl) nb.tuple_ (by decide +kernel) (da_cons (de_lc (own := [("row", 35)]) rfl sc_law.nd (di_seq (de_var 21 (pv 21))) (blkOk_by (by kernel_rfl)) (fun _ _ _ _ _ => (dw_name (i := 35) (pg_name (i := 35) sc_law.nd rfl (by first | exact .inl rfl | exact .inr rfl)) (by decide))) (fun _ _ _ _ _ => dts_nil) (fun _ _ _ _ _ => (de_ix (de_var 35 (pv 35)) de_int))) da_nil)) (da_cons (de_bty call_tuple_of od_tuple (by rfl) nb.tuple_ (by decide +kernel) (da_cons (de_lc (own := [("row", 35)]) rfl sc_law.nd (di_seq (de_var 21 (pv 21))) (blkOk_by (by kernel_rfl)) (fun _ _ _ _ _ => (dw_name (i := 35) (pg_name (i := 35) sc_law.nd rfl (by first | exact .inl rfl | exact .inr rfl)) (by decide))) (fun _ _ _ _ _ => dts_nil) (fun _ _ _ _ _ => (de_ix (de_var 35 (pv 35)) de_int))) da_nil)) (da_cons (de_ix (de_ix (de_var 21 (pv 21)) (de_neg de_int)) de_int) da_nil)))) da_nil))))) (dss_one (ds_ret de_bl)) dss_nil)
 (dss_keep [false, true, false, true, true, true, true, false, true, true, false, true, false, false, false, false, false, true, true, false, false, false, false, false, false, false, false, false, false, false, false, false, false, false, false, false] (dss_cons (ds_set (i := 23) sc_law.nd rfl (by first | exact .inl rfl | exact .inr rfl) (de_addA de_int (de_callB 1 c__law_take hr (by decide) (by rfl) (pv 1) (da_cons de_int da_nil))))
 (dss_cons (ds_par (i := 24) (j := 25) rfl sc_law.nd rfl rfl (by decide) rfl rfl (dm_dat (de_callC c_later hr (by decide) (by rfl) (da_cons (de_var 11 (pv 11)) (da_cons (de_var 23 (pv 23)) da_nil))) (dm_dat (de_bty call_tuple_of od_tuple (by rfl) nb.tuple_ (by decide +kernel) (da_cons (de_lc (own := [("turn", 27)]) rfl sc_law.nd (di_range1 (by rfl) nb.range_ (da_cons (de_var 23 (pv 23)) da_nil)) (blkOk_by (by kernel_rfl)) (fun _ _ _ _ _ => (dw_name (i := 27) (pg_name (i := 27) sc_law.nd rfl (by first | exact .inl rfl | exact .inr rfl)) (by decide))) (fun _ _ _ _ _ => dts_nil) (fun _ _ _ _ _ => (de_callB 1 c__law_take hr (by decide) (by rfl) (pv 1) (da_cons (de_blt call_len_seq od_len (by rfl) nb.len_ PySem.boot_len (da_cons (de_var 4 (pv 4)) da_nil)) da_nil)))) da_nil)) dm_nil)) (by rfl))
 (dss_cons (ds_if (db_w (dw_or (db_cmp (op_neD hr.units) od_ne (de_slice (de_callC c_lines_behind hr (by decide) (by rfl) (da_cons (de_var 4 (pv 4)) (da_cons (de_var 24 (pv 24)) (da_cons (de_addA (de_var 25 (pv 25)) (de_var 17 (pv 17))) da_nil)))) (do_some (de_var 23 (pv 23))) do_none) (de_ix (de_var 18 (pv 18)) de_int) (nomark _)) (dw_or1 (db_cmp (op_neD hr.units) od_ne (de_callC c_greatest_lines hr (by decide) (by rfl) (da_cons (de_var 4 (pv 4)) (da_cons (de_var 24 (pv 24)) (da_cons (de_addA (de_var 25 (pv 25)) (de_var 17 (pv 17))) da_nil)))) (de_callC c_greatest_lines hr (by decide) (by rfl) (da_cons (de_var 4 (pv 4)) (da_cons (de_var 11 (pv 11)) (da_cons (de_var 17 (pv 17)) da_nil)))) (nomark _))))) (dss_one (ds_ret de_bl)) dss_nil)
 (dss_keep [false, true, false, true, true, true, true, false, true, true, false, true, false, false, false, false, false, true, true, false, false, false, false, false, false, false, false, false, false, false, false, false, false, false, false, false] (dss_cons (ds_par (i := 26) (j := 20) rfl sc_law.nd rfl rfl (by decide) rfl rfl (dm_dat (de_callB 1 c__law_take hr (by decide) (by rfl) (pv 1) (da_cons (de_addA (de_var 5 (pv 5)) de_int) da_nil)) (dm_new (dn_make ci_Lines hr (by decide) (by rfl) (da_cons (de_var 4 (pv 4)) da_nil)) dm_nil)) (by rfl))
 (dss_cons (ds_for PassesOwn.never rfl (di_range1 (by rfl) nb.range_ (da_cons (de_var 5 (pv 5)) da_nil)) (dg_name (i := 27) (pg_name (i := 27) sc_law.nd rfl (by first | exact .inl rfl | exact .inr rfl)))
 (dss_keep [false, true, false, true, false, true, true, false, true, true, false, true, false, false, false, false, false, true, true, false, true, false, false, false, false, false, true, true, false, false, false, false, false, false, false, false] (dss_cons (ds_if (db_cmp (op_eqD hr.units) od_eq (de_var 27 (pv 27)) (de_var 26 (pv 26)) (nomark _)) (dss_one (ds_setN (i := 20) sc_law.nd rfl (by first | exact .inl rfl | exact .inr rfl) (dn_meth0 20 cl_Lines cm_Lines_twin (nm := Lines_fields) (by decide +kernel) hr (by decide) (pv 20)))) dss_nil)
 (dss_keep [false, true, false, true, false, true, true, false, true, true, false, true, false, false, false, false, false, true, true, false, true, false, false, false, false, false, true, true, false, false, false, false, false, false, false, false] (dss_cons (ds_expr (de_meth 20 cl_Lines cm_Lines_turn (nm := Lines_fields) (by decide +kernel) hr (by decide) (pv 20) (da_cons (de_ix (de_var 11 (pv 11)) (de_var 27 (pv 27))) (da_cons (de_ix (de_var 17 (pv 17)) (de_var 27 (pv 27))) da_nil))))
 (dss_one (ds_if (db_cmp (op_neD hr.units) od_ne (de_meth0 20 cl_Lines cm_Lines_lines (nm := Lines_fields) (by decide +kernel) hr (by decide) (pv 20)) (de_ix (de_ix (de_var 18 (pv 18)) de_int) (de_var 27 (pv 27))) (nomark _)) (dss_one (ds_ret de_bl)) dss_nil)))))))
 (dss_keep [false, true, false, true, false, true, true, false, true, true, false, true, false, false, false, false, false, true, false, false, true, false, false, false, false, false, false, false, false, false, false, false, false, false, false, false] (dss_cons (ds_if (db_w (dw_or (db_cmp (op_neD hr.units) od_ne (de_meth0 20 cl_Lines cm_Lines_arrivals (nm := Lines_fields) (by decide +kernel) hr (by decide) (pv 20)) (de_var 11 (pv 11)) (nomark _)) (dw_or (db_cmp (op_neD hr.units) od_ne (de_meth0 20 cl_Lines cm_Lines_numbers (nm := Lines_fields) (by decide +kernel) hr (by decide) (pv 20)) (de_var 17 (pv 17)) (nomark _)) (dw_or1 (db_cmp (op_neD hr.units) od_ne (de_meth0 20 cl_Lines cm_Lines_turns (nm := Lines_fields) (by decide +kernel) hr (by decide) (pv 20)) (de_var 5 (pv 5)) (nomark _)))))) (dss_one (ds_ret de_bl)) dss_nil)
 (dss_keep [false, true, false, true, false, true, true, false, true, true, false, true, false, false, false, false, false, false, false, false, false, false, false, false, false, false, false, false, false, false, false, false, false, false, false, false] (dss_cons (ds_par (i := 28) (j := 29) rfl sc_law.nd rfl rfl (by decide) rfl rfl (dm_dat (de_callC c_all_at_once hr (by decide) (by rfl) (da_cons (de_var 6 (pv 6)) (da_cons (de_var 5 (pv 5)) da_nil))) (dm_dat (de_callC c_steady hr (by decide) (by rfl) (da_cons (de_var 6 (pv 6)) (da_cons (de_var 5 (pv 5)) da_nil))) dm_nil)) (by rfl))
 (dss_one (ds_for PassesOwn.never rfl (di_range1 (by rfl) nb.range_ (da_cons (de_blt call_len_seq od_len (by rfl) nb.len_ PySem.boot_len (da_cons (de_var 3 (pv 3)) da_nil)) da_nil)) (dg_name (i := 30) (pg_name (i := 30) sc_law.nd rfl (by first | exact .inl rfl | exact .inr rfl)))
 (dss_keep [false, true, false, false, false, false, false, false, true, true, false, true, false, false, false, false, false, false, false, false, false, false, false, false, false, false, false, false, true, true, true, false, false, false, false, false] (dss_one (ds_if (db_w (dw_or (db_not (db_cmp op_le od_le (de_callC c_total_of hr (by decide) (by rfl) (da_cons (de_var 29 (pv 29)) (da_cons (de_var 30 (pv 30)) da_nil))) (de_callC c_total_of hr (by decide) (by rfl) (da_cons (de_var 28 (pv 28)) (da_cons (de_var 30 (pv 30)) da_nil))) (nomark _))) (dw_or (db_cmp op_gt od_gt (de_callC c_total_of hr (by decide) (by rfl) (da_cons (de_var 8 (pv 8)) (da_cons (de_var 30 (pv 30)) da_nil))) (de_callC c_total_of hr (by decide) (by rfl) (da_cons (de_var 28 (pv 28)) (da_cons (de_var 30 (pv 30)) da_nil))) (nomark _)) (dw_or1 (db_cmp (op_neD hr.units) od_ne (de_callC c_total_of hr (by decide) (by rfl) (da_cons (de_var 11 (pv 11)) (da_cons (de_var 30 (pv 30)) da_nil))) (de_addA (de_callC c_total_of hr (by decide) (by rfl) (da_cons (de_var 8 (pv 8)) (da_cons (de_var 30 (pv 30)) da_nil))) (de_callC c_total_of hr (by decide) (by rfl) (da_cons (de_var 9 (pv 9)) (da_cons (de_var 30 (pv 30)) da_nil)))) (nomark _)))))) (dss_one (ds_ret de_bl)) dss_nil)))))))))))))))))))))))))))))))))))))
 (dss_keep [false, false, false, false, false, false, false, false, false, false, false, false, false, false, false, false, false, false, false, false, false, false, false, false, false, false, false, false, false, false, false, false, false, false, false, false] (dss_one (ds_ret de_bl)))))) (fun as Q hl h => ?_)
  obtain ⟨ns, rfl, hns, h⟩ := h
  refine seq_of (fun ρ' => ∃ (p : Addr) (ob : Ob), ρ' = [.d (.list (ns.map .int)), .o p ob, .un, .un, .un, .un, .un, .un, .un, .un, .un, .un, .un, .un, .un, .un, .un, .un, .un, .un, .un, .un, .un, .un, .un, .un, .un, .un, .un, .un, .un, .un, .un, .un, .un, .un] ∧ good 0 ob) (fun N hN => ?_) (fun ρ' hR => ?_)
  · exact ⟨ns, ⟨rfl, hns⟩, fun ob hg p => hN _ ⟨p, ob, rfl, hg⟩⟩
  · obtain ⟨p, ob, rfl, hg⟩ := hR
    refine seq_of (fun ρ' => True) (fun N hN => ?_) (fun ρ' hR => ?_)
    · refine ⟨rng (by decide), ?_⟩
      show forD _ _ _ (rangeD 0 4) _
      unfold rangeD
      refine for_of (fun rest ρ => ∃ (ob : Ob) (j : Nat), keepS [false, true, false, false, false, false, false, false, false, false, false, false, false, false, false, false, false, false, false, false, false, false, false, false, false, false, false, false, false, false, false, false, false, false, false, false] ρ = [.un, .o p ob, .un, .un, .un, .un, .un, .un, .un, .un, .un, .un, .un, .un, .un, .un, .un, .un, .un, .un, .un, .un, .un, .un, .un, .un, .un, .un, .un, .un, .un, .un, .un, .un, .un, .un] ∧ good (j * 1000) ob ∧ j + rest.length = 4) (fun a rest ρ N2 hN2 hI => ?_) (fun ρ hI => hN _ trivial) ⟨ob, 0, rfl, hg, rfl⟩
      · obtain ⟨ob, j, hρ, hg, hj⟩ := hI
        refine keep_of ((keep_set_f rfl).trans hρ) ?_
        have hj5 : j ≤ 5 := by omega
        refine seq_of (fun ρ' => ∃ (ob : Ob) (k : Nat), ρ' = [.un, .o p ob, .un, .d (stD k), .un, .un, .un, .un, .un, .un, .un, .un, .un, .un, .un, .un, .un, .un, .un, .un, .un, .un, .un, .un, .un, .un, .un, .un, .un, .un, .un, .un, .un, .un, .un, .un] ∧ 1 ≤ k ∧ k ≤ 3 ∧ good (j * 1000 + 1) ob) (fun N hN => ?_) (fun ρ' hR => ?_)
        · exact ⟨j * 1000, ⟨hg, by omega, by decide, by decide⟩, fun k ob' h1 h2 hg' => hN _ ⟨ob', k, rfl, h1, by omega, hg'⟩⟩
        obtain ⟨ob, k, rfl, hk1, hk3, hg⟩ := hR
        refine seq_of (fun ρ' => ∃ (ob : Ob) (S : List (List Int)) (T : Nat), ρ' = [.un, .o p ob, .un, .d (stD k), .d (rowsD S), .d (.int (T : Int)), .un, .un, .un, .un, .un, .un, .un, .un, .un, .un, .un, .un, .un, .un, .un, .un, .un, .un, .un, .un, .un, .un, .un, .un, .un, .un, .un, .un, .un, .un] ∧ SvOk k S ∧ 1 ≤ T ∧ T ≤ 8 ∧ good (j * 1000 + 42) ob) (fun N hN => ?_) (fun ρ' hR => ?_)
        · refine ⟨_, k, ⟨rfl, hg, by omega, hk1, by omega, by decide, by decide⟩, fun S ob1 hS hg1 => ⟨_, ⟨hg1, by omega, by decide, by decide⟩, fun v ob2 h0 h1 hg2 => ?_⟩⟩
          obtain ⟨v, rfl⟩ : ∃ n : Nat, v = (n : Int) := ⟨v.toNat, by omega⟩
          exact ⟨⟨rfl, by show 2 ≤ sizeLine; decide⟩, hN _ ⟨ob2, S, 1 + v, rfl, hS, by omega, by omega, good_mono hg2 (by omega)⟩⟩
        obtain ⟨ob, S, T, rfl, hS, hT1, hT, hg⟩ := hR
        refine seq_of (fun ρ' => ∃ (ob : Ob) (B1 B2 : List (Rat × Rat)), ρ' = [.un, .o p ob, .un, .d (stD k), .d (rowsD S), .d (.int (T : Int)), .d (bdsD B1), .d (bdsD B2), .un, .un, .un, .un, .un, .un, .un, .un, .un, .un, .un, .un, .un, .un, .un, .un, .un, .un, .un, .un, .un, .un, .un, .un, .un, .un, .un, .un] ∧ BsOk k B1 ∧ BsOk k B2 ∧ good (j * 1000 + 90) ob) (fun N hN => ?_) (fun ρ' hR => ?_)
        · refine ⟨rng (by decide), ?_⟩
          show (rangeD 0 2).length ≤ sizeLine ∧ compD _ _ _ _ (rangeD 0 2) _ _
          unfold rangeD
          refine ⟨range_szN (by decide), ?_⟩
          refine comp_of (fun r acc ρ => ∃ (ob : Ob) (Bs : List (List (Rat × Rat))), ρ = [.un, .o p ob, .un, .d (stD k), .d (rowsD S), .d (.int (T : Int)), .un, .un, .un, .un, .un, .un, .un, .un, .un, .un, .un, .un, .un, .un, .un, .un, .un, .un, .un, .un, .un, .un, .un, .un, .un, .un, .un, .un, .un, .un] ∧ acc = Bs.map bdsD ∧ Bs.length + r.length = 2 ∧ (∀ B ∈ Bs, BsOk k B) ∧ good (j * 1000 + 42 + 22 * Bs.length) ob)
            (fun i r acc ρ kk hI hkk => ?_) (acc := []) ⟨ob, [], rfl, rfl, rfl, (fun A hA => nomatch hA), hg⟩ (fun ys ρ hI => ?_)
          · obtain ⟨ob, Bs, rfl, rfl, hl, hBs, hg⟩ := hI
            rw [List.length_cons] at hl
            refine ⟨rfl, .t rfl ⟨_, k, ⟨rfl, hg, by omega, by omega⟩, fun R ob1 hRl hR hg1 => ⟨_, R, ⟨rfl, hg1, by omega, by omega, fun r hr => ⟨(hR r hr).1, tv_mono (hR r hr).2 (by decide)⟩⟩, fun B ob2 hB1 hB2 hg2 => ?_⟩⟩⟩
            have hBl : B.length = k := by rw [← hRl, ← hB1, List.length_map]
            show (B.map bdD).length ≤ sizeLine ∧ compD _ _ _ _ (B.map bdD) _ _
            refine ⟨by rw [List.length_map]; exact Nat.le_of_lt (small1000 (by omega)), comp_map (enc := bdD) (f := fun q => bdD (fixB q)) rfl (fun q hq k2 hk2 => ⟨rfl, .t rfl ⟨by show 2 ≤ sizeLine; decide, ⟨fr_shaped q.2, rfl⟩, ?_⟩⟩) ?_⟩
            · by_cases z : q.2 = 0
              · refine .f ((congrArg (! ·) (fr_eqv q.2 0)).trans (by rw [decide_eq_true z]; rfl)) ⟨by show 2 ≤ sizeLine; decide, by show 2 ≤ sizeLine; decide, ?_⟩
                have e : fixB q = (q.1, 1) := by unfold fixB; rw [if_pos z]
                rw [e] at hk2
                exact hk2
              · refine .t ((congrArg (! ·) (fr_eqv q.2 0)).trans (by rw [decide_eq_false z]; rfl)) ⟨by show 2 ≤ sizeLine; decide, ?_⟩
                have e : fixB q = q := by unfold fixB; rw [if_neg z]
                rw [e] at hk2
                exact hk2
            · have hc : (.tuple (B.map fun q => bdD (fixB q)) : PyData) = bdsD (B.map fixB) := by
                unfold bdsD
                rw [List.map_map]
                rfl
              show kk (some (.tuple (B.map fun q => bdD (fixB q)))) _
              rw [hc]
              refine hkk (some (bdsD (B.map fixB))) _ ⟨ob2, Bs ++ [B.map fixB], ?_, map_app1 bdsD Bs _, by rw [len_app1]; omega, all_app1 hBs ⟨by rw [List.length_map]; exact hBl, fun q hq => ?_⟩, by rw [len_app1]; exact good_mono hg2 (by omega)⟩
              · rfl
              · obtain ⟨q, hq', rfl⟩ := List.mem_map.mp hq
                replace hq := hq'
                have hb := hB2 q hq
                have hr2 : tv 2 q.1 := (hR q.1 (by rw [← hB1]; exact List.mem_map_of_mem hq)).2
                by_cases z : q.2 = 0
                · have e : fixB q = (q.1, 1) := by unfold fixB; rw [if_pos z]
                  rw [e]
                  have h1 : (1 : Rat) ≤ 1 := by grind
                  exact ⟨⟨hb.1, tv_mono tv_one (by decide), .inl h1⟩, h1, hr2⟩
                · have e : fixB q = q := by unfold fixB; rw [if_neg z]
                  rw [e]
                  have h1 : 1 ≤ q.2 := by
                    rcases hb.2.2 with g | g
                    · exact g
                    · exact absurd g.2 z
                  exact ⟨hb, h1, hr2⟩
          · obtain ⟨ob, Bs, rfl, e, hl, hBs, hg⟩ := hI
            rw [List.nil_append] at e
            subst e
            rw [List.length_nil] at hl
            match Bs, hl, hBs, hg with
            | [B1, B2], _, hBs, hg => exact ⟨rfl, hN _ ⟨ob, B1, B2, rfl, hBs B1 (List.mem_cons_self ..), hBs B2 (List.mem_cons_of_mem _ (List.mem_cons_self ..)), good_mono hg (by show _ + 22 * 2 ≤ _; omega)⟩⟩
        obtain ⟨ob, B1, B2, rfl, hB1, hB2, hg⟩ := hR
        have hl1 := hB1.1
        have hl2 := hB2.1
        refine seq_of (fun ρ' => ∃ (ob : Ob) (A A2 : List (List Int)), ρ' = [.un, .o p ob, .un, .d (stD k), .d (rowsD S), .d (.int (T : Int)), .d (bdsD B1), .d (bdsD B2), .d (rowsD A), .d (rowsD A2), .un, .un, .un, .un, .un, .un, .un, .un, .un, .un, .un, .un, .un, .un, .un, .un, .un, .un, .un, .un, .un, .un, .un, .un, .un, .un] ∧ ArK k T B1 A ∧ ArK k T B2 A2 ∧ good (j * 1000 + 430) ob) (fun N hN => ?_) (fun ρ' hR => ?_)
        · refine ⟨_, T, B1, ⟨rfl, rfl, hg, by omega, by omega, by omega, fun q hq => (hB1.2 q hq).1⟩, fun c1 ob1 e1 h1 hg1 => ⟨_, T, B2, ⟨rfl, rfl, hg1, by omega, by omega, by omega, fun q hq => (hB2.2 q hq).1⟩, fun c2 ob2 e2 h2 hg2 => ⟨rfl, hN _ ⟨ob2, _, _, rfl, tog_ark hl1 e1 h1, tog_ark hl2 e2 h2, good_mono hg2 (by omega)⟩⟩⟩⟩
        obtain ⟨ob, A, A2, rfl, hA, hA2, hg⟩ := hR
        have hA1 := hA.ok hT
        have hA3 := hA2.ok hT
        have hAA : A.length = A2.length := by rw [hA.1, hA2.1]
        have hd := add_ok hA hA2 hl1
        refine seq_of (fun ρ' => ρ' = [.un, .o p ob, .un, .d (stD k), .d (rowsD S), .d (.int (T : Int)), .d (bdsD B1), .d (bdsD B2), .d (rowsD A), .d (rowsD A2), .d (bdsD (sumB B1 B2)), .un, .un, .un, .un, .un, .un, .un, .un, .un, .un, .un, .un, .un, .un, .un, .un, .un, .un, .un, .un, .un, .un, .un, .un, .un]) (fun N hN => ?_) (fun ρ' hR => ?_)
        · show _ ∧ compD _ _ _ _ (pairD (B1.map bdD) (B2.map bdD)) _ _
          rw [pairD_map]
          refine ⟨by rw [List.length_map, List.length_zip]; exact Nat.le_of_lt (small1000 (by omega)), comp_map (f := fun (q : (Rat × Rat) × Rat × Rat) => bdD (q.1.1 + q.2.1, q.1.2 + q.2.2)) rfl (fun q hq kk hk => ⟨rfl, .t rfl ?_⟩) ?_⟩
          · have g1 := (hB1.2 _ (List.of_mem_zip hq).1).1
            have g2 := (hB2.2 _ (List.of_mem_zip hq).2).1
            exact .mk 0 _ rfl rfl (.mk 0 _ rfl rfl ⟨q.1.1, q.2.1, ⟨rfl, rfl, tv_sm g1.1.2 (by decide), tv_sm g2.1.2 (by decide)⟩, .mk 1 _ rfl rfl (.mk 1 _ rfl rfl ⟨q.1.2, q.2.2, ⟨rfl, rfl, tv_sm g1.2.1 (by decide), tv_sm g2.2.1 (by decide)⟩, by show 2 ≤ sizeLine; decide, hk⟩)⟩)
          · have hc : (.tuple ((B1.zip B2).map fun (q : (Rat × Rat) × Rat × Rat) => bdD (q.1.1 + q.2.1, q.1.2 + q.2.2)) : PyData) = bdsD (sumB B1 B2) := by
              unfold bdsD sumB
              rw [List.map_map]
              rfl
            exact hN _ (by rw [hc]; rfl)
        subst hR
        obtain ⟨W, hW⟩ : ∃ W, W = addR A A2 := ⟨_, rfl⟩
        rw [← hW] at hd
        have hWo : ArOk k W := ⟨by rw [hd.1]; omega, fun r hr => ⟨(hd.2.1 r hr).1, fun x hx => by have := (hd.2.1 r hr).2 x hx; omega⟩⟩
        have hWl := hd.1
        refine seq_of (fun ρ' => ρ' = [.un, .o p ob, .un, .d (stD k), .d (rowsD S), .d (.int (T : Int)), .d (bdsD B1), .d (bdsD B2), .d (rowsD A), .d (rowsD A2), .d (bdsD (sumB B1 B2)), .d (rowsD W), .un, .un, .un, .un, .un, .un, .un, .un, .un, .un, .un, .un, .un, .un, .un, .un, .un, .un, .un, .un, .un, .un, .un, .un]) (fun N hN => ?_) (fun ρ' hR => ?_)
        · refine ⟨k, A, A2, ⟨rfl, rfl, by omega, hA1, hA3, hAA⟩, ?_⟩
          rw [← hW]
          exact hN _ rfl
        subst hR
        have hBg1 : ∀ q ∈ B1, BdG q := fun q hq => (hB1.2 q hq).1.g
        have hBg2 : ∀ q ∈ B2, BdG q := fun q hq => (hB2.2 q hq).1.g
        have hsl : (sumB B1 B2).length = k := by unfold sumB; rw [List.length_map, List.length_zip]; omega
        have hBgs : ∀ q ∈ sumB B1 B2, BdG q := fun q hq => by
          obtain ⟨i, hi⟩ := List.getElem?_of_mem hq
          obtain ⟨x, y, hx, hy, rfl⟩ := sumB_get hi
          have g1 := hB1.2 x (List.mem_of_getElem? hx)
          have g2 := hB2.2 y (List.mem_of_getElem? hy)
          have z1 := g1.1.1.1
          have z2 := g2.1.1.1
          have z3 := (bd_sum g1.1).2
          have z4 := (bd_sum g2.1).2
          exact ⟨⟨by show 0 ≤ x.1 + y.1; grind, tv_mono (tv_add g1.2.2 g2.2.2) (by decide)⟩, tv_mono (tv_add g1.1.2.1 g2.1.2.1) (by decide), by show 0 ≤ x.2 + y.2; grind⟩
        refine seq_of (fun ρ' => ρ' = [.un, .o p ob, .un, .d (stD k), .d (rowsD S), .d (.int (T : Int)), .d (bdsD B1), .d (bdsD B2), .d (rowsD A), .d (rowsD A2), .d (bdsD (sumB B1 B2)), .d (rowsD W), .un, .un, .un, .un, .un, .un, .un, .un, .un, .un, .un, .un, .un, .un, .un, .un, .un, .un, .un, .un, .un, .un, .un, .un]) (fun N hN => ?_) (fun ρ' hR => ?_)
        · refine ⟨k, sumB B1 B2, W, ⟨rfl, rfl, hsl, by omega, hBgs, hWo⟩, fun o ho => ?_⟩
          obtain rfl := fb_none hd.2.2 ho
          refine ⟨k, B1, A, ⟨rfl, rfl, hl1, by omega, hBg1, hA1⟩, fun o1 ho1 => ?_⟩
          obtain rfl := fb_none hA.2.2 ho1
          refine ⟨k, B2, A2, ⟨rfl, rfl, hl2, by omega, hBg2, hA3⟩, fun o2 ho2 => ?_⟩
          obtain rfl := fb_none hA2.2.2 ho2
          refine ⟨k, sumB B1 B2, W, ⟨rfl, rfl, hsl, by omega, hBgs, hWo⟩, fun b hb => ?_⟩
          obtain rfl : b = true := hb.mpr ho
          refine ⟨by show 4 ≤ sizeLine; decide, by show 1 ≤ sizeLine; decide, ⟨by decide, by decide, by decide⟩, alike_eq rfl (sd_lst (dp := 0) (n := 0) 4 (fun x hx => ?_) (Nat.le_refl 4)) (by decide) (by decide) (.inr ⟨_, rfl⟩), .f rfl (hN _ rfl)⟩
          have : x = .bool true := by simpa [isNone, brD] using hx
          rw [this]
          exact sd_bool true
        subst hR
        refine keep_of rfl ?_
        refine seq_of (fun ρ' => ρ' = [.un, .o p ob, .un, .d (stD k), .d (rowsD S), .d (.int (T : Int)), .d (bdsD B1), .d (bdsD B2), .d (rowsD A), .d (rowsD A2), .d (bdsD (sumB B1 B2)), .d (rowsD W), .d (.list [rtD B1, rtD B2, rtD (sumB B1 B2)]), .un, .un, .un, .un, .un, .un, .un, .un, .un, .un, .un, .un, .un, .un, .un, .un, .un, .un, .un, .un, .un, .un, .un]) (fun N hN => ?_) (fun ρ' hR => ?_)
        · refine ⟨by show 3 ≤ sizeLine; decide, by show 3 ≤ sizeLine; decide, ?_⟩
          refine comp_map (enc := bdsD) (f := rtD) (l := [B1, B2, sumB B1 B2]) rfl (fun X hX kk hk => .t rfl ?_) (hN _ rfl)
          have hX2 : X = B1 ∨ X = B2 ∨ X = sumB B1 B2 := by simpa using hX
          have hX3 : X.length = k := by
            rcases hX2 with e | e | e <;> rw [e] <;> assumption
          show (X.map bdD).length ≤ sizeLine ∧ compD _ _ _ _ (X.map bdD) _ _
          refine ⟨by rw [List.length_map]; exact Nat.le_of_lt (small1000 (by omega)), comp_map (enc := bdD) (f := fun q => fr q.1) rfl (fun q hq k2 hk2 => ⟨rfl, .t rfl hk2⟩) ?_⟩
          have hc : (.tuple (X.map fun q => fr q.1) : PyData) = rtD X := by
            unfold rtD
            rw [List.map_map]
            rfl
          show kk (some (.tuple (X.map fun q => fr q.1))) _
          rw [hc]
          exact hk
        subst hR
        refine seq_of (fun ρ' => ∃ M1 M2 M3 : List (Rat × Rat), ρ' = [.un, .o p ob, .un, .d (stD k), .d (rowsD S), .d (.int (T : Int)), .d (bdsD B1), .d (bdsD B2), .d (rowsD A), .d (rowsD A2), .d (bdsD (sumB B1 B2)), .d (rowsD W), .d (.list [rtD B1, rtD B2, rtD (sumB B1 B2)]), .d (.list [bdsD M1, bdsD M2, bdsD M3]), .un, .un, .un, .un, .un, .un, .un, .un, .un, .un, .un, .un, .un, .un, .un, .un, .un, .un, .un, .un, .un, .un] ∧ LsOk B1 A M1 ∧ LsOk B2 A2 M2 ∧ LsOk (sumB B1 B2) W M3) (fun N hN => ?_) (fun ρ' hR => ?_)
        · have a1 : ArOk (B1.map (·.1)).length A := by rw [List.length_map, hl1]; exact hA1
          have a2 : ArOk (B2.map (·.1)).length A2 := by rw [List.length_map, hl2]; exact hA3
          have a3 : ArOk ((sumB B1 B2).map (·.1)).length W := by rw [List.length_map, hsl]; exact hWo
          have g1 : ∀ B : List (Rat × Rat), (∀ q ∈ B, BdG q) → ∀ r ∈ B.map (·.1), 0 ≤ r ∧ tv 100 r := fun B hB r hr => by
            obtain ⟨q, hq, rfl⟩ := List.mem_map.mp hr
            exact (hB q hq).1
          refine ⟨by show 3 ≤ sizeLine; decide, by show 3 ≤ sizeLine; decide, ?_⟩
          show compD _ _ _ _ [.tuple [rtD B1, rowsD A], .tuple [rtD B2, rowsD A2], .tuple [rtD (sumB B1 B2), rowsD W]] _ _
          refine comp_st (Pr := fun y => ∃ M, y = bdsD M ∧ LsOk B1 A M) (ρ := [.un, .o p ob, .un, .d (stD k), .d (rowsD S), .d (.int (T : Int)), .d (bdsD B1), .d (bdsD B2), .d (rowsD A), .d (rowsD A2), .d (bdsD (sumB B1 B2)), .d (rowsD W), .d (.list [rtD B1, rtD B2, rtD (sumB B1 B2)]), .un, .un, .un, .un, .un, .un, .un, .un, .un, .un, .un, .un, .un, .un, .un, .un, .un, .un, .un, .un, .un, .un, .un]) ?_ ?_ ?_
          · exact rfl
          · exact fun kk hk => ⟨rfl, .t rfl ⟨B1.map (·.1), A, ⟨rfl, rfl, by rw [List.length_map]; omega, g1 B1 hBg1, a1⟩, fun M e h => hk _ ⟨M, rfl, e, h⟩⟩⟩
          rintro _ ⟨M1, rfl, hM1⟩
          refine comp_st (Pr := fun y => ∃ M, y = bdsD M ∧ LsOk B2 A2 M) (ρ := [.un, .o p ob, .un, .d (stD k), .d (rowsD S), .d (.int (T : Int)), .d (bdsD B1), .d (bdsD B2), .d (rowsD A), .d (rowsD A2), .d (bdsD (sumB B1 B2)), .d (rowsD W), .d (.list [rtD B1, rtD B2, rtD (sumB B1 B2)]), .un, .un, .un, .un, .un, .un, .un, .un, .un, .un, .un, .un, .un, .un, .un, .un, .un, .un, .un, .un, .un, .un, .un]) ?_ ?_ ?_
          · exact rfl
          · exact fun kk hk => ⟨rfl, .t rfl ⟨B2.map (·.1), A2, ⟨rfl, rfl, by rw [List.length_map]; omega, g1 B2 hBg2, a2⟩, fun M e h => hk _ ⟨M, rfl, e, h⟩⟩⟩
          rintro _ ⟨M2, rfl, hM2⟩
          refine comp_st (Pr := fun y => ∃ M, y = bdsD M ∧ LsOk (sumB B1 B2) W M) (ρ := [.un, .o p ob, .un, .d (stD k), .d (rowsD S), .d (.int (T : Int)), .d (bdsD B1), .d (bdsD B2), .d (rowsD A), .d (rowsD A2), .d (bdsD (sumB B1 B2)), .d (rowsD W), .d (.list [rtD B1, rtD B2, rtD (sumB B1 B2)]), .un, .un, .un, .un, .un, .un, .un, .un, .un, .un, .un, .un, .un, .un, .un, .un, .un, .un, .un, .un, .un, .un, .un]) ?_ ?_ ?_
          · exact rfl
          · exact fun kk hk => ⟨rfl, .t rfl ⟨(sumB B1 B2).map (·.1), W, ⟨rfl, rfl, by rw [List.length_map]; omega, g1 _ hBgs, a3⟩, fun M e h => hk _ ⟨M, rfl, e, h⟩⟩⟩
          rintro _ ⟨M3, rfl, hM3⟩
          exact hN _ ⟨M1, M2, M3, rfl, hM1, hM2, hM3⟩
        obtain ⟨M1, M2, M3, rfl, hM1, hM2, hM3⟩ := hR
        have hz3 := least_zip hB1 hB2 hT hA hA2 (hW ▸ hWo) hM1 hM2 (hW ▸ hM3)
        have hMl : M1.length = k := by
          have := congrArg List.length hM1.1
          rw [List.length_map, List.length_map] at this
          omega
        refine seq_of (fun ρ' => keepS [false, true, false, true, true, true, true, false, true, true, false, true, false, false, false, false, false, false, false, false, false, false, false, false, false, false, false, false, false, false, false, false, false, false, false, false] ρ' = [.un, .o p ob, .un, .d (stD k), .d (rowsD S), .d (.int (T : Int)), .d (bdsD B1), .un, .d (rowsD A), .d (rowsD A2), .un, .d (rowsD W), .un, .un, .un, .un, .un, .un, .un, .un, .un, .un, .un, .un, .un, .un, .un, .un, .un, .un, .un, .un, .un, .un, .un, .un]) (fun N hN => ?_) (fun ρ' hR => ?_)
        · refine .mk 0 _ rfl rfl (.mk 1 _ rfl rfl (.mk 2 _ rfl rfl ?_))
          show forD _ _ _ (tripD (M1.map bdD) (M2.map bdD) (M3.map bdD)) _
          rw [tripD_map]
          refine for_of (fun rest ρ => ∃ s14 s15 s16 : Sl, keepS [false, true, false, true, true, true, true, false, true, true, false, true, false, false, true, true, true, false, false, false, false, false, false, false, false, false, false, false, false, false, false, false, false, false, false, false] ρ = [.un, .o p ob, .un, .d (stD k), .d (rowsD S), .d (.int (T : Int)), .d (bdsD B1), .un, .d (rowsD A), .d (rowsD A2), .un, .d (rowsD W), .un, .un, s14, s15, s16, .un, .un, .un, .un, .un, .un, .un, .un, .un, .un, .un, .un, .un, .un, .un, .un, .un, .un, .un] ∧ ∀ q ∈ rest, q ∈ M1.zip (M2.zip M3)) (fun q rest ρ N3 hN3 hI => ?_) (fun ρ hI => ?_) ⟨.un, .un, .un, rfl, fun q hq => hq⟩
          · obtain ⟨s14, s15, s16, hρ, hrest⟩ := hI
            refine tg_tup3 (keep_of ((keep_set3 rfl rfl rfl).trans (by rw [hρ])) ?_)
            obtain ⟨t1, t2, t3, t4⟩ := hz3 q (hrest q (List.mem_cons_self ..))
            refine .mk 1 _ rfl rfl (.mk 1 _ rfl rfl ⟨q.1.2, q.2.1.2, ⟨rfl, rfl, tv_sm t1 (by decide), tv_sm t2 (by decide)⟩, .mk 1 _ rfl rfl ⟨_, q.2.2.2, ⟨rfl, rfl, tv_sm (tv_add t1 t2) (by decide), tv_sm t3 (by decide)⟩, .f (decide_eq_false (by grind)) (hN3 _ ⟨_, _, _, rfl, fun x hx => hrest x (List.mem_cons_of_mem _ hx)⟩)⟩⟩)
          · obtain ⟨s14, s15, s16, hρ, _⟩ := hI
            exact hN _ (keep_sub rfl hρ rfl)
        refine keep_of hR ?_
        have hS1 := hS.1
        have hS2 := hS.2.1
        refine seq_of (fun ρ' => ∃ (ob : Ob) (nb : List Nat), ρ' = [.un, .o p ob, .un, .d (stD k), .d (rowsD S), .d (.int (T : Int)), .d (bdsD B1), .un, .d (rowsD A), .d (rowsD A2), .un, .d (rowsD W), .un, .un, .un, .un, .un, .d (tupI (natI nb)), .un, .un, .un, .un, .un, .un, .un, .un, .un, .un, .un, .un, .un, .un, .un, .un, .un, .un] ∧ nb.length = T ∧ (∀ i ∈ nb, i < S.length) ∧ good (j * 1000 + 440) ob) (fun N hN => ?_) (fun ρ' hR => ?_)
        · refine ⟨rng (by omega), ?_⟩
          show (rangeD 0 (T : Int).toNat).length ≤ sizeLine ∧ compD _ _ _ _ (rangeD 0 (T : Int).toNat) _ _
          rw [Int.toNat_natCast]
          unfold rangeD
          refine ⟨range_szN (by omega), ?_⟩
          refine comp_of (fun r acc ρ => ∃ (ob : Ob) (nb : List Nat), ρ = [.un, .o p ob, .un, .d (stD k), .d (rowsD S), .d (.int (T : Int)), .d (bdsD B1), .un, .d (rowsD A), .d (rowsD A2), .un, .d (rowsD W), .un, .un, .un, .un, .un, .un, .un, .un, .un, .un, .un, .un, .un, .un, .un, .un, .un, .un, .un, .un, .un, .un, .un, .un] ∧ acc = (natI nb).map .int ∧ nb.length + r.length = T ∧ (∀ i ∈ nb, i < S.length) ∧ good (j * 1000 + 430 + nb.length) ob)
            (fun i r acc ρ kk hI hkk => ?_) (acc := []) ⟨ob, [], rfl, rfl, by simp, (fun A hA => nomatch hA), hg⟩ (fun ys ρ hI => ?_)
          · obtain ⟨ob, nb, rfl, rfl, hl, hnb, hg⟩ := hI
            rw [List.length_cons] at hl
            refine ⟨rfl, .t rfl ⟨_, ⟨hg, by omega, by rw [List.length_map]; omega, by rw [List.length_map]; omega⟩, fun v ob' h0 h1 hg' => ?_⟩⟩
            rw [List.length_map] at h1
            obtain ⟨v, rfl⟩ : ∃ n : Nat, v = (n : Int) := ⟨v.toNat, by omega⟩
            exact hkk (some (.int (v : Int))) _ ⟨ob', nb ++ [v], rfl, by unfold natI; rw [List.map_append, List.map_append]; rfl, by rw [len_app1]; omega, all_app1 hnb (by omega), by rw [len_app1]; exact hg'⟩
          · obtain ⟨ob, nb, rfl, e, hl, hnb, hg⟩ := hI
            rw [List.nil_append] at e
            subst e
            rw [List.length_nil] at hl
            exact hN _ ⟨ob, nb, rfl, hl, hnb, good_mono hg (by omega)⟩
        obtain ⟨ob, nb, rfl, hnl, hnb, hg⟩ := hR
        obtain ⟨L1, hL1⟩ : ∃ L, L = linesOf S (List.replicate k 0) (A.zip nb) := ⟨_, rfl⟩
        obtain ⟨L2, hL2⟩ : ∃ L, L = linesOf S (List.replicate k 0) (W.zip nb) := ⟨_, rfl⟩
        refine seq_of (fun ρ' => ρ' = [.un, .o p ob, .un, .d (stD k), .d (rowsD S), .d (.int (T : Int)), .d (bdsD B1), .un, .d (rowsD A), .d (rowsD A2), .un, .d (rowsD W), .un, .un, .un, .un, .un, .d (tupI (natI nb)), .d (.list [rowsD L1, rowsD L2]), .un, .un, .un, .un, .un, .un, .un, .un, .un, .un, .un, .un, .un, .un, .un, .un, .un]) (fun N hN => ?_) (fun ρ' hR => ?_)
        · rw [hL1, hL2] at hN
          refine ⟨by show 2 ≤ sizeLine; decide, by show 2 ≤ sizeLine; decide, ?_⟩
          refine comp_map (enc := rowsD) (f := fun X => rowsD (linesOf S (List.replicate k 0) (X.zip nb))) (l := [A, W]) rfl (fun X hX kk hk => .t rfl ?_) (hN _ rfl)
          have hX2 : X = A ∨ X = W := by simpa using hX
          have hX3 : ArOk k X ∧ X.length = T := by
            rcases hX2 with e | e <;> rw [e]
            · exact ⟨hA1, hA.1⟩
            · exact ⟨hWo, hWl⟩
          exact ⟨k, S, X, nb, ⟨rfl, rfl, rfl, hS, by omega, hX3.1, by rw [hX3.2, hnl], hnb⟩, hk⟩
        subst hR
        have m0 : ∀ (u : Nat) (x y : List Int), L1[u]? = some x → L2[u]? = some y → ∀ i, i < k → x.getD i 0 ≤ y.getD i 0 := by
          rw [hL1, hL2]
          exact lines_mono hS A W nb _ _ (by rw [hWl, hA.1]) (fun r hr => (hA1.2 r hr).1) (fun r hr => (hWo.2 r hr).1) hnb List.length_replicate List.length_replicate (fun i hi => Int.le_refl _) (by rw [hW]; exact addR_ge1 hA1 hA3)
        have l1 : L1.length ≤ 8 ∧ ∀ x ∈ L1, x.length = k := by rw [hL1]; exact lines_len hS hT A nb _ hA.1 (fun r hr => (hA1.2 r hr).1) hnb List.length_replicate
        have l2 : L2.length ≤ 8 ∧ ∀ x ∈ L2, x.length = k := by rw [hL2]; exact lines_len hS hT W nb _ hWl (fun r hr => (hWo.2 r hr).1) hnb List.length_replicate
        refine seq_of (fun ρ' => keepS [false, true, false, true, true, true, true, false, true, true, false, true, false, false, false, false, false, true, true, false, false, false, false, false, false, false, false, false, false, false, false, false, false, false, false, false] ρ' = [.un, .o p ob, .un, .d (stD k), .d (rowsD S), .d (.int (T : Int)), .d (bdsD B1), .un, .d (rowsD A), .d (rowsD A2), .un, .d (rowsD W), .un, .un, .un, .un, .un, .d (tupI (natI nb)), .d (.list [rowsD L1, rowsD L2]), .un, .un, .un, .un, .un, .un, .un, .un, .un, .un, .un, .un, .un, .un, .un, .un, .un]) (fun N hN => ?_) (fun ρ' hR => ?_)
        · refine .mk 0 _ rfl rfl (.mk 1 _ rfl rfl ?_)
          show forD _ _ _ (pairD (L1.map tupI) (L2.map tupI)) _
          rw [pairD_map]
          refine for_of (fun rest ρ => ∃ s19 s20 : Sl, keepS [false, true, false, true, true, true, true, false, true, true, false, true, false, false, false, false, false, true, true, true, true, false, false, false, false, false, false, false, false, false, false, false, false, false, false, false] ρ = [.un, .o p ob, .un, .d (stD k), .d (rowsD S), .d (.int (T : Int)), .d (bdsD B1), .un, .d (rowsD A), .d (rowsD A2), .un, .d (rowsD W), .un, .un, .un, .un, .un, .d (tupI (natI nb)), .d (.list [rowsD L1, rowsD L2]), s19, s20, .un, .un, .un, .un, .un, .un, .un, .un, .un, .un, .un, .un, .un, .un, .un] ∧ ∀ q ∈ rest, q ∈ L1.zip L2) (fun q rest ρ N3 hN3 hI => ?_) (fun ρ hI => ?_) ⟨.un, .un, rfl, fun q hq => hq⟩
          · obtain ⟨s19, s20, hρ, hrest⟩ := hI
            refine tg_tup2 (keep_of ((keep_set2 rfl rfl).trans (by rw [hρ])) ?_)
            have hq := hrest q (List.mem_cons_self ..)
            obtain ⟨u, hu⟩ := List.getElem?_of_mem hq
            rw [List.getElem?_zip_eq_some] at hu
            have q1 := l1.2 q.1 (List.mem_of_getElem? hu.1)
            have q2 := l2.2 q.2 (List.mem_of_getElem? hu.2)
            have q3 := m0 u _ _ hu.1 hu.2
            show _ ∧ compD _ _ _ _ (pairD (q.1.map .int) (q.2.map .int)) _ _
            rw [pairD_map]
            refine ⟨by rw [List.length_map, List.length_zip]; exact Nat.le_of_lt (small1000 (by omega)), comp_fm (g := fun _ => none) rfl (fun x hx kk hk => ⟨rfl, .f (decide_eq_false ?_) hk⟩) ?_⟩
            · obtain ⟨v, hv⟩ := List.getElem?_of_mem hx
              rw [List.getElem?_zip_eq_some] at hv
              have hvk : v < k := by rw [← q1]; exact (List.getElem?_eq_some_iff.mp hv.1).1
              have := q3 v hvk
              rw [List.getD_eq_getElem?_getD, List.getD_eq_getElem?_getD, hv.1, hv.2] at this
              have this : x.1 ≤ x.2 := this
              omega
            · rw [fm_none]
              exact ⟨Nat.zero_le _, ⟨rfl, rfl⟩, .f rfl (hN3 _ ⟨_, _, rfl, fun x hx => hrest x (List.mem_cons_of_mem _ hx)⟩)⟩
          · obtain ⟨s19, s20, hρ, _⟩ := hI
            exact hN _ (keep_sub rfl hρ rfl)
        refine keep_of hR ?_
        obtain ⟨R, hR⟩ : ∃ R, R = playR S (List.replicate k 0) (W.zip nb) := ⟨_, rfl⟩
        have hRm := playR_maps S (List.replicate k 0) (W.zip nb)
        have hRl := playR_len S (List.replicate k 0) (W.zip nb)
        have hRb := play_in hS (c := 400) (by decide) (W.zip nb) (List.replicate k 0) 0 (fun p hp => ⟨(hd.2.1 _ (List.of_mem_zip hp).1).1, (hd.2.1 _ (List.of_mem_zip hp).1).2, hnb _ (List.of_mem_zip hp).2⟩) List.length_replicate (fun x hx => by rw [(List.mem_replicate.mp hx).2]; decide)
        have hzl : (W.zip nb).length = T := by rw [List.length_zip, hWl, hnl]; omega
        rw [← hR] at hRm hRl hRb
        rw [← hL2] at hRm
        rw [hzl] at hRl hRb
        have hRne : R ≠ [] := fun e => by rw [e] at hRl; simp at hRl; omega
        have hb8 : (0 : Int) + 400 * (T : Int) ≤ 3200 := by omega
        refine seq_of (fun ρ' => ρ' = [.un, .o p ob, .un, .d (stD k), .d (rowsD S), .d (.int (T : Int)), .d (bdsD B1), .un, .d (rowsD A), .d (rowsD A2), .un, .d (rowsD W), .un, .un, .un, .un, .un, .d (tupI (natI nb)), .d (.list [rowsD L1, rowsD L2]), .un, .un, .d (.list (R.map pl3)), .un, .un, .un, .un, .un, .un, .un, .un, .un, .un, .un, .un, .un, .un]) (fun N hN => ?_) (fun ρ' hR' => ?_)
        · refine ⟨k, S, W, nb, ⟨rfl, rfl, rfl, hS, by omega, hWo, by rw [hnl, hWl], hnb⟩, ?_⟩
          rw [← hR]
          exact hN _ rfl
        subst hR'
        refine seq_of (fun ρ' => ρ' = [.un, .o p ob, .un, .d (stD k), .d (rowsD S), .d (.int (T : Int)), .d (bdsD B1), .un, .d (rowsD A), .d (rowsD A2), .un, .d (rowsD W), .un, .un, .un, .un, .un, .d (tupI (natI nb)), .d (.list [rowsD L1, rowsD L2]), .un, .un, .d (.list (R.map pl3)), .d (.list [rowsD (R.map (·.1)), rowsD (R.map (·.2.1)), tupI (lastL k L2)]), .un, .un, .un, .un, .un, .un, .un, .un, .un, .un, .un, .un, .un]) (fun N hN => ?_) (fun ρ' hR' => ?_)
        · have hh : rowsD S = rowsD S ∧ rowsD W = rowsD W ∧ tupI (natI nb) = tupI (natI nb) ∧ SvOk k S ∧ k ≤ 8 ∧ ArOk k W ∧ nb.length = W.length ∧ ∀ n ∈ nb, n < S.length := ⟨rfl, rfl, rfl, hS, by omega, hWo, by rw [hnl, hWl], hnb⟩
          refine ⟨k, S, W, nb, hh, k, S, W, nb, hh, k, S, W, nb, hh, ⟨by show 3 ≤ sizeLine; decide, ?_⟩⟩
          rw [← hL2, ← hRm.1, ← hRm.2.1]
          exact hN _ rfl
        subst hR'
        refine seq_of (fun ρ' => ρ' = [.un, .o p ob, .un, .d (stD k), .d (rowsD S), .d (.int (T : Int)), .d (bdsD B1), .un, .d (rowsD A), .d (rowsD A2), .un, .d (rowsD W), .un, .un, .un, .un, .un, .d (tupI (natI nb)), .d (.list [rowsD L1, rowsD L2]), .un, .un, .d (.list (R.map pl3)), .d (.list [rowsD (R.map (·.1)), rowsD (R.map (·.2.1)), tupI (lastL k L2)]), .un, .un, .un, .un, .un, .un, .un, .un, .un, .un, .un, .un, .un]) (fun N hN => ?_) (fun ρ' hR' => ?_)
        · show _ ∧ compD _ _ _ _ (R.map pl3) _ _
          refine ⟨by rw [List.length_map]; exact Nat.le_of_lt (small1000 (by omega)), comp_map (enc := pl3) (f := fun x => tupI x.1) rfl (fun x hx kk hk => .t rfl (.mk 0 _ rfl rfl hk)) ?_⟩
          show _ ∧ compD _ _ _ _ (R.map pl3) _ _
          refine ⟨by rw [List.length_map]; exact Nat.le_of_lt (small1000 (by omega)), comp_map (enc := pl3) (f := fun x => tupI x.2.1) rfl (fun x hx kk hk => .t rfl (.mk 1 _ rfl rfl hk)) ?_⟩
          obtain ⟨z, hz1, hz2, hz⟩ := last_of (k := k) hRne
          rw [hRm.2.2] at hz
          refine itemAt_last (x := pl3 z) (by rw [List.length_map, List.getElem?_map, hz1]; rfl) (.mk 2 _ rfl rfl ⟨by show 3 ≤ sizeLine; decide, alike_eq ?_ (sd_lst (dp := 2) (n := 7816) 3 (fun x hx => ?_) (Nat.le_refl 3)) (by decide) (by decide) (.inr ⟨_, rfl⟩), .f rfl (hN _ rfl)⟩)
          · rw [← hz]
            unfold rowsD
            rw [List.map_map, List.map_map]
            rfl
          · have hx2 : x = rowsD (R.map (·.1)) ∨ x = rowsD (R.map (·.2.1)) ∨ x = tupI (lastL k L2) := by simpa using hx
            rcases hx2 with e | e | e <;> rw [e]
            · refine sd_rows8 (k := k) (M := 3200) (by omega) (by decide) (fun r hr => ?_) (by rw [List.length_map]; omega)
              obtain ⟨y, hy, rfl⟩ := List.mem_map.mp hr
              have g := (hRb y hy).1
              exact ⟨g.1, fun x hx => ⟨(g.2 x hx).1, Int.le_trans (g.2 x hx).2 hb8⟩⟩
            · refine sd_rows8 (k := k) (M := 3200) (by omega) (by decide) (fun r hr => ?_) (by rw [List.length_map]; omega)
              obtain ⟨y, hy, rfl⟩ := List.mem_map.mp hr
              have g := (hRb y hy).2.1
              exact ⟨g.1, fun x hx => ⟨(g.2 x hx).1, Int.le_trans (g.2 x hx).2 hb8⟩⟩
            · rw [← hz]
              have g := (hRb z hz2).2.2
              refine (sd_ints (by omega) (fun x hx => ?_) 8 (by omega)).mono (by decide) (by decide)
              have h1 := (g.2 x hx).1
              have h3 := Int.le_trans (g.2 x hx).2 hb8
              have h2 : (3201 : Nat) ≤ 2 ^ 100 := by decide
              omega
        subst hR'
        refine keep_of rfl ?_
        refine seq_of (fun ρ' => ∃ (ob : Ob) (n : Nat), ρ' = [.un, .o p ob, .un, .d (stD k), .d (rowsD S), .d (.int (T : Int)), .d (bdsD B1), .un, .d (rowsD A), .d (rowsD A2), .un, .d (rowsD W), .un, .un, .un, .un, .un, .d (tupI (natI nb)), .d (.list [rowsD L1, rowsD L2]), .un, .un, .un, .un, .d (.int (n : Int)), .un, .un, .un, .un, .un, .un, .un, .un, .un, .un, .un, .un] ∧ 1 ≤ n ∧ n ≤ 3 ∧ good (j * 1000 + 441) ob) (fun N hN => ?_) (fun ρ' hR' => ?_)
        · refine ⟨_, ⟨hg, by omega, by decide, by decide⟩, fun v ob' h0 h1 hg' => ?_⟩
          obtain ⟨v, rfl⟩ : ∃ n : Nat, v = (n : Int) := ⟨v.toNat, by omega⟩
          exact hN _ ⟨ob', 1 + v, rfl, by omega, by omega, hg'⟩
        obtain ⟨ob, n, rfl, hn1, hn3, hg⟩ := hR'
        refine seq_of (fun ρ' => ∃ (ob : Ob) (ib : List Nat), ρ' = [.un, .o p ob, .un, .d (stD k), .d (rowsD S), .d (.int (T : Int)), .d (bdsD B1), .un, .d (rowsD A), .d (rowsD A2), .un, .d (rowsD W), .un, .un, .un, .un, .un, .d (tupI (natI nb)), .d (.list [rowsD L1, rowsD L2]), .un, .un, .un, .un, .d (.int (n : Int)), .d (rowsD (latR k n W)), .d (tupI (natI ib)), .un, .un, .un, .un, .un, .un, .un, .un, .un, .un] ∧ ib.length = n ∧ (∀ i ∈ ib, i < S.length) ∧ good (j * 1000 + 450) ob) (fun N hN => ?_) (fun ρ' hR' => ?_)
        · refine ⟨k, n, W, ⟨rfl, rfl, by omega, hWo, by omega, by omega, fun e => by rw [e] at hWl; simp at hWl; omega⟩, ?_⟩
          refine ⟨rng (by omega), ?_⟩
          show (rangeD 0 (n : Int).toNat).length ≤ sizeLine ∧ compD _ _ _ _ (rangeD 0 (n : Int).toNat) _ _
          rw [Int.toNat_natCast]
          unfold rangeD
          refine ⟨range_szN (by omega), ?_⟩
          refine comp_of (fun r acc ρ => ∃ (ob : Ob) (ib : List Nat), ρ = [.un, .o p ob, .un, .d (stD k), .d (rowsD S), .d (.int (T : Int)), .d (bdsD B1), .un, .d (rowsD A), .d (rowsD A2), .un, .d (rowsD W), .un, .un, .un, .un, .un, .d (tupI (natI nb)), .d (.list [rowsD L1, rowsD L2]), .un, .un, .un, .un, .d (.int (n : Int)), .un, .un, .un, .un, .un, .un, .un, .un, .un, .un, .un, .un] ∧ acc = (natI ib).map .int ∧ ib.length + r.length = n ∧ (∀ i ∈ ib, i < S.length) ∧ good (j * 1000 + 441 + ib.length) ob)
            (fun i r acc ρ kk hI hkk => ?_) (acc := []) ⟨ob, [], rfl, rfl, by simp, (fun A hA => nomatch hA), hg⟩ (fun ys ρ hI => ?_)
          · obtain ⟨ob, ib, rfl, rfl, hl, hib, hg⟩ := hI
            rw [List.length_cons] at hl
            refine ⟨rfl, .t rfl ⟨_, ⟨hg, by omega, by rw [List.length_map]; omega, by rw [List.length_map]; omega⟩, fun v ob' h0 h1 hg' => ?_⟩⟩
            rw [List.length_map] at h1
            obtain ⟨v, rfl⟩ : ∃ n : Nat, v = (n : Int) := ⟨v.toNat, by omega⟩
            exact hkk (some (.int (v : Int))) _ ⟨ob', ib ++ [v], rfl, by unfold natI; rw [List.map_append, List.map_append]; rfl, by rw [len_app1]; omega, all_app1 hib (by omega), by rw [len_app1]; exact hg'⟩
          · obtain ⟨ob, ib, rfl, e, hl, hib, hg⟩ := hI
            rw [List.nil_append] at e
            subst e
            rw [List.length_nil] at hl
            exact ⟨rfl, hN _ ⟨ob, ib, rfl, hl, hib, good_mono hg (by omega)⟩⟩
        obtain ⟨ob, ib, rfl, hil, hib, hg⟩ := hR'
        subst hil
        refine seq_of (fun ρ' => ρ' = [.un, .o p ob, .un, .d (stD k), .d (rowsD S), .d (.int (T : Int)), .d (bdsD B1), .un, .d (rowsD A), .d (rowsD A2), .un, .d (rowsD W), .un, .un, .un, .un, .un, .d (tupI (natI nb)), .d (.list [rowsD L1, rowsD L2]), .un, .un, .un, .un, .d (.int (ib.length : Int)), .d (rowsD (latR k ib.length W)), .d (tupI (natI ib)), .un, .un, .un, .un, .un, .un, .un, .un, .un, .un]) (fun N hN => ?_) (fun ρ' hR' => ?_)
        · have hla : ArOk k (latR k ib.length W) := lat_ok hWo (by omega)
          have hll : (latR k ib.length W).length = ib.length + T := by unfold latR; rw [List.length_append, List.length_replicate, hWl]
          have en : PyData.tuple ((natI ib).map .int ++ (natI nb).map .int) = tupI (natI (ib ++ nb)) := by
            unfold natI tupI
            rw [List.map_append, List.map_append]
          have hns : ∀ i ∈ ib ++ nb, i < S.length := fun i hi => by
            rcases List.mem_append.mp hi with q | q
            · exact hib i q
            · exact hnb i q
          have hnn : (ib ++ nb).length = (latR k ib.length W).length := by rw [hll, List.length_append, hnl]
          have hLl := lines_late hS W nb ib hib
          rw [← hL2] at hLl
          have nl : ∀ l : List Nat, ((natI l).map PyData.int).length = l.length := fun l => by unfold natI; rw [List.length_map, List.length_map]
          have hsz : ((natI ib).map PyData.int).length + ((natI nb).map PyData.int).length ≤ sizeLine := by
            rw [nl, nl]
            exact Nat.le_of_lt (small1000 (by omega))
          have e1 : PyData.tuple (cut ((linesOf S (List.replicate k 0) ((latR k ib.length W).zip (ib ++ nb))).map tupI) (some (ib.length : Int)) none) = rowsD L2 := by
            rw [hLl, cut_map, cut_from, List.drop_left' List.length_replicate]
            rfl
          have e2 : tupI ((List.range k).map fun i => topAt (linesOf S (List.replicate k 0) ((latR k ib.length W).zip (ib ++ nb))) i) = tupI ((List.range k).map fun i => topAt L2 i) := by
            rw [hLl]
            exact congrArg tupI (List.map_congr_left fun i hi => topAt_late L2)
          refine ⟨hsz, k, S, latR k ib.length W, ib ++ nb, ⟨rfl, rfl, en, hS, by omega, hla, hnn, hns⟩, .mk 1 _ rfl rfl ⟨⟨(congrArg SeqAt.shaped e1).trans (shaped_rows _), shaped_rows _⟩, .f ?_ ?_⟩⟩
          · show (!PyData.eqv (PyData.tuple (cut ((linesOf S (List.replicate k 0) ((latR k ib.length W).zip (ib ++ nb))).map tupI) (some (ib.length : Int)) none)) (rowsD L2)) = false
            rw [e1, SeqAt.eqv_refl _ (lay_rows _)]
            rfl
          · refine ⟨hsz, k, S, latR k ib.length W, ib ++ nb, ⟨rfl, rfl, en, hS, by omega, hla, hnn, hns⟩, k, S, W, nb, ⟨rfl, rfl, rfl, hS, by omega, hWo, by rw [hnl, hWl], hnb⟩, ?_⟩
            rw [← hL2, e2]
            refine ⟨⟨shp_tupI _, shp_tupI _⟩, .f ?_ (hN _ rfl)⟩
            rw [SeqAt.eqv_refl _ (lay_tupI _)]
            rfl
        subst hR'
        refine keep_of rfl ?_
        refine seq_of (fun ρ' => ∃ (ob : Ob) (h : Nat) (p2 dx b1 b2 b3 : Addr), ρ' = [.un, .o p ob, .un, .d (stD k), .d (rowsD S), .d (.int (T : Int)), .d (bdsD B1), .un, .d (rowsD A), .d (rowsD A2), .un, .d (rowsD W), .un, .un, .un, .un, .un, .d (tupI (natI nb)), .d (.list [rowsD L1, rowsD L2]), .un, .o p2 (lnO C_Lines dx b1 b2 b3 S [] [] [List.replicate k 0]), .un, .un, .un, .un, .un, .d (.int (h : Int)), .un, .un, .un, .un, .un, .un, .un, .un, .un] ∧ good (j * 1000 + 451) ob) (fun N hN => ?_) (fun ρ' hR' => ?_)
        · refine ⟨_, ⟨hg, by omega, by omega, by omega⟩, fun v ob' h0 h1 hg' dx => ⟨k, S, dx, ⟨rfl, hS, by omega, rfl⟩, fun b1 b2 b3 => ⟨rfl, fun p2 => ⟨rfl, ?_⟩⟩⟩⟩
          obtain ⟨v, rfl⟩ : ∃ n : Nat, v = (n : Int) := ⟨v.toNat, by omega⟩
          exact hN _ ⟨ob', v, p2, dx, b1, b2, b3, rfl, hg'⟩
        obtain ⟨ob, hf, p2, dx, b1, b2, b3, rfl, hg⟩ := hR'
        refine seq_of (fun ρ' => ∃ (p2 dx b1 b2 b3 : Addr) (ly : List (List Int)), keepS [false, true, false, true, false, true, true, false, true, true, false, true, false, false, false, false, false, true, false, false, true, false, false, false, false, false, false, false, false, false, false, false, false, false, false, false] ρ' = [.un, .o p ob, .un, .d (stD k), .un, .d (.int (T : Int)), .d (bdsD B1), .un, .d (rowsD A), .d (rowsD A2), .un, .d (rowsD W), .un, .un, .un, .un, .un, .d (tupI (natI nb)), .un, .un, .o p2 (lnO C_Lines dx b1 b2 b3 S W (natI nb) ly), .un, .un, .un, .un, .un, .un, .un, .un, .un, .un, .un, .un, .un, .un, .un]) (fun N hN => ?_) (fun ρ' hR' => ?_)
        · refine ⟨rng (by omega), ?_⟩
          show forD _ _ _ (rangeD 0 (T : Int).toNat) _
          rw [Int.toNat_natCast]
          unfold rangeD
          refine for_of (fun rest ρ => ∃ (t : Nat) (p2 dx b1 b2 b3 : Addr) (ly : List (List Int)) (l : List Int) (s27 : Sl), keepS [false, true, false, true, false, true, true, false, true, true, false, true, false, false, false, false, false, true, true, false, true, false, false, false, false, false, true, true, false, false, false, false, false, false, false, false] ρ = [.un, .o p ob, .un, .d (stD k), .un, .d (.int (T : Int)), .d (bdsD B1), .un, .d (rowsD A), .d (rowsD A2), .un, .d (rowsD W), .un, .un, .un, .un, .un, .d (tupI (natI nb)), .d (.list [rowsD L1, rowsD L2]), .un, .o p2 (lnO C_Lines dx b1 b2 b3 S (W.take t) ((natI nb).take t) (ly ++ [l])), .un, .un, .un, .un, .un, .d (.int (hf : Int)), s27, .un, .un, .un, .un, .un, .un, .un, .un] ∧ rest = (List.range T).drop t ∧ t ≤ T ∧ ly.length = t ∧ l.length = k ∧ (∀ x ∈ l, 0 ≤ x) ∧ linesOf S l ((W.zip nb).drop t) = L2.drop t) (fun a rest ρ N3 hN3 hI => ?_) (fun ρ hI => ?_) ⟨0, p2, dx, b1, b2, b3, [], List.replicate k 0, .un, rfl, rfl, Nat.zero_le _, rfl, List.length_replicate, fun x hx => by rw [(List.mem_replicate.mp hx).2]; decide, hL2.symm⟩
          · obtain ⟨t, p2, dx, b1, b2, b3, ly, l, s27, hρ, hrest, htT, hly, hl, hlp, hln⟩ := hI
            obtain ⟨rfl, hlt, hr2⟩ := range_cons hrest
            refine tg_name (keep_of ((keep_set rfl).trans (by rw [hρ])) ?_)
            have ea : (0 : Int) + (a : Int) = (a : Int) := Int.zero_add _
            rw [ea]
            obtain ⟨w, hw⟩ : ∃ w, W[a]? = some w := ⟨_, List.getElem?_eq_getElem (by omega)⟩
            obtain ⟨n, hn⟩ : ∃ n, nb[a]? = some n := ⟨_, List.getElem?_eq_getElem (by omega)⟩
            obtain ⟨g1, g2⟩ := ln_next hw hn hln
            have hwb := hWo.2 w (List.mem_of_getElem? hw)
            have hnS := hnb n (List.mem_of_getElem? hn)
            refine seq_of (fun ρ' => ∃ (p2 dx b1 b2 b3 : Addr), ρ' = [.un, .o p ob, .un, .d (stD k), .un, .d (.int (T : Int)), .d (bdsD B1), .un, .d (rowsD A), .d (rowsD A2), .un, .d (rowsD W), .un, .un, .un, .un, .un, .d (tupI (natI nb)), .d (.list [rowsD L1, rowsD L2]), .un, .o p2 (lnO C_Lines dx b1 b2 b3 S (W.take a) ((natI nb).take a) (ly ++ [l])), .un, .un, .un, .un, .un, .d (.int (hf : Int)), .d (.int (a : Int)), .un, .un, .un, .un, .un, .un, .un, .un]) (fun N hN => ?_) (fun ρ' hR' => ?_)
            · refine ⟨⟨rfl, rfl⟩, IfD.by (fun hb => ?_) (fun hb => hN _ ⟨p2, dx, b1, b2, b3, rfl⟩)⟩
              exact ⟨⟨rfl, rfl⟩, k, dx, b1, b2, b3, S, W.take a, (natI nb).take a, ly ++ [l], ⟨rfl, hS, by omega, by rw [List.length_take]; omega, by rw [List.length_take]; omega, by rw [len_app1]; omega⟩, fun dx' c1 c2 c3 p => hN _ ⟨p, dx', c1, c2, c3, rfl⟩⟩
            obtain ⟨p2, dx, b1, b2, b3, rfl⟩ := hR'
            refine keep_of rfl ?_
            refine ⟨⟨rfl, rfl⟩, (itemAt_nat (x := tupI w) (by rw [List.getElem?_map, hw]; rfl) _).mpr ((itemAt_nat (x := .int (n : Int)) (by rw [List.getElem?_map, natI_get hn]; rfl) _).mpr ⟨k, n, dx, b1, b2, b3, S, W.take a, (natI nb).take a, ly, l, w, ⟨rfl, rfl, rfl, hS, by omega, hl, hlp, hwb.1, fun x hx => (hwb.2 x hx).1, hnS, by rw [List.length_take]; omega, by rw [List.length_take]; omega, by omega⟩, ?_⟩)⟩
            refine ⟨⟨rfl, rfl⟩, dx, b1, b2, b3, S, W.take a ++ [w], (natI nb).take a ++ [(n : Int)], ly ++ [l], lnStep S l w n, rfl, .mk 1 _ rfl rfl ((itemAt_nat (x := tupI (lnStep S l w n)) (by rw [List.getElem?_map, g1]; rfl) _).mpr ⟨⟨shp_tupI _, shp_tupI _⟩, .f (ne_lay (lay_tupI _)) (hN3 _ ⟨a + 1, p2, dx, b1, b2, b3, ly ++ [l], lnStep S l w n, .d (.int (a : Int)), ?_, hr2, by omega, by rw [len_app1]; omega, ln_len hS hnS hl hwb.1, ln_pos hS hnS hl hwb.1, g2⟩)⟩)⟩
            rw [← take_next hw, ← take_next (natI_get hn)]
            rfl
          · obtain ⟨t, p2, dx, b1, b2, b3, ly, l, s27, hρ, hrest, htT, hly, hl, hlp, hln⟩ := hI
            have ht := range_nil hrest
            obtain rfl : t = T := by omega
            rw [List.take_of_length_le (by omega), List.take_of_length_le (by unfold natI; rw [List.length_map]; omega)] at hρ
            exact hN _ ⟨p2, dx, b1, b2, b3, ly ++ [l], keep_sub rfl hρ rfl⟩
        obtain ⟨p2, dx, b1, b2, b3, ly, hρ⟩ := hR'
        refine keep_of hρ ?_
        refine seq_of (fun ρ' => ρ' = [.un, .o p ob, .un, .d (stD k), .un, .d (.int (T : Int)), .d (bdsD B1), .un, .d (rowsD A), .d (rowsD A2), .un, .d (rowsD W), .un, .un, .un, .un, .un, .d (tupI (natI nb)), .un, .un, .o p2 (lnO C_Lines dx b1 b2 b3 S W (natI nb) ly), .un, .un, .un, .un, .un, .un, .un, .un, .un, .un, .un, .un, .un, .un, .un]) (fun N hN => ?_) (fun ρ' hR' => ?_)
        · refine ⟨⟨rfl, rfl⟩, dx, b1, b2, b3, S, W, natI nb, ly, rfl, ⟨⟨shaped_rows _, shaped_rows _⟩, .f (ne_lay (lay_rows _)) ⟨⟨rfl, rfl⟩, dx, b1, b2, b3, S, W, natI nb, ly, rfl, ⟨⟨shp_tupI _, shp_tupI _⟩, .f (ne_lay (lay_tupI _)) ⟨⟨rfl, rfl⟩, dx, b1, b2, b3, S, W, natI nb, ly, rfl, ⟨⟨rfl, rfl⟩, .f (ne_intF (by unfold natI; rw [List.length_map, hnl])) (hN _ rfl)⟩⟩⟩⟩⟩⟩
        subst hR'
        refine keep_of rfl ?_
        obtain ⟨most, hmo⟩ : ∃ L, L = tog (B1.map fun p => fuCol p T) T := ⟨_, rfl⟩
        obtain ⟨even, hev⟩ : ∃ L, L = tog (B1.map fun p => stCol p.1 T) T := ⟨_, rfl⟩
        have Pf := tog_pf hl1 (by omega) hT (fun p hp => fuCol_ok (hB1.2 p hp).1) (t := T)
        have Pe := tog_pf hl1 (by omega) hT (fun p hp => stCol_pf (hB1.2 p hp).1) (t := T)
        have tot := fun i (hi : i < k) => tot_ok hB1 hT1 hA hA2 hi
        rw [← hW, ← hmo, ← hev] at tot
        rw [← hmo] at Pf
        rw [← hev] at Pe
        refine seq_of (fun ρ' => ρ' = [.un, .o p ob, .un, .d (stD k), .un, .d (.int (T : Int)), .d (bdsD B1), .un, .d (rowsD A), .d (rowsD A2), .un, .d (rowsD W), .un, .un, .un, .un, .un, .un, .un, .un, .un, .un, .un, .un, .un, .un, .un, .un, .d (rowsD most), .d (rowsD even), .un, .un, .un, .un, .un, .un]) (fun N hN => ?_) (fun ρ' hR' => ?_)
        · refine ⟨B1, T, ⟨rfl, rfl, by omega, by omega, fun q hq => (hB1.2 q hq).1⟩, B1, T, ⟨rfl, rfl, by omega, by omega, fun q hq => (hB1.2 q hq).1⟩, ⟨rfl, ?_⟩⟩
          rw [← hmo, ← hev]
          exact hN _ rfl
        subst hR'
        have hst : ((stN.take k).map PyData.str).length = k := by
          rw [List.length_map, List.length_take]
          have : stN.length = 5 := rfl
          omega
        refine ⟨rng (by rw [hst]; omega), ?_⟩
        show forD _ _ _ (rangeD 0 (((stN.take k).map PyData.str).length : Int).toNat) _
        rw [hst, Int.toNat_natCast]
        unfold rangeD
        refine for_of (fun rest ρ => ∃ (t : Nat) (s30 : Sl), keepS [false, true, false, false, false, false, false, false, true, true, false, true, false, false, false, false, false, false, false, false, false, false, false, false, false, false, false, false, true, true, true, false, false, false, false, false] ρ = [.un, .o p ob, .un, .un, .un, .un, .un, .un, .d (rowsD A), .d (rowsD A2), .un, .d (rowsD W), .un, .un, .un, .un, .un, .un, .un, .un, .un, .un, .un, .un, .un, .un, .un, .un, .d (rowsD most), .d (rowsD even), s30, .un, .un, .un, .un, .un] ∧ rest = (List.range k).drop t) (fun a rest ρ N3 hN3 hI => ?_) (fun ρ hI => ?_) ⟨0, .un, rfl, rfl⟩
        · obtain ⟨t, s30, hρ, hrest⟩ := hI
          obtain ⟨rfl, hlt, hr2⟩ := range_cons hrest
          refine tg_name (keep_of ((keep_set rfl).trans (by rw [hρ])) ?_)
          have ea : (0 : Int) + (a : Int) = (a : Int) := Int.zero_add _
          rw [ea]
          obtain ⟨v1, v2, v3⟩ := tot a hlt
          exact ⟨k, a, even, ⟨rfl, rfl, by omega, Pe.1, hlt⟩, k, a, most, ⟨rfl, rfl, by omega, Pf.1, hlt⟩, .f (congrArg (! ·) (decide_eq_true v1)) ⟨k, a, A, ⟨rfl, rfl, by omega, hA1, hlt⟩, k, a, most, ⟨rfl, rfl, by omega, Pf.1, hlt⟩, .f (decide_eq_false (by omega)) ⟨k, a, W, ⟨rfl, rfl, by omega, hWo, hlt⟩, k, a, A, ⟨rfl, rfl, by omega, hA1, hlt⟩, k, a, A2, ⟨rfl, rfl, by omega, hA3, hlt⟩, ⟨rfl, rfl⟩, .f (ne_intF v3) (hN3 _ ⟨a + 1, _, rfl, hr2⟩)⟩⟩⟩
        · obtain ⟨t, s30, hρ, _⟩ := hI
          exact hN2 _ ⟨ob, j + 1, keep_sub rfl hρ rfl, good_mono hg (by omega), by rw [List.length_cons] at hj; omega⟩
    · exact h

end LW

set_option maxHeartbeats 0

namespace LW
open PySem PySem.Spec PyProof.Rows L2 DL
theorem all_mk {l : PySem.W.OpenLaw} {w : World} {K : PySem.W.Frag} {h : Heap} {mg : Str → Option Value} {fa : Addr} (X : K.In h) (G : h.Ns mainGlobals mg) (hfa : mg "law" = some (.ref fa))
    {f1 : Addr} {od1 an1 : Option Addr} {sl1 : Array (Option Value)} {oc1 kV1 dc1 pm1 cd1 ct1 : Value}
    {f2 : Addr} {od2 an2 : Option Addr} {sl2 : Array (Option Value)} {oc2 kV2 dc2 pm2 cd2 ct2 : Value}
    {f3 : Addr} {od3 an3 : Option Addr} {sl3 : Array (Option Value)} {oc3 kV3 dc3 pm3 cd3 ct3 : Value}
    {f4 : Addr} {od4 an4 : Option Addr} {sl4 : Array (Option Value)} {oc4 kV4 dc4 pm4 cd4 ct4 : Value}
    {f5 : Addr} {od5 an5 : Option Addr} {sl5 : Array (Option Value)} {oc5 kV5 dc5 pm5 cd5 ct5 : Value}
    {f6 : Addr} {od6 an6 : Option Addr} {sl6 : Array (Option Value)} {oc6 kV6 dc6 pm6 cd6 ct6 : Value}
    {f7 : Addr} {od7 an7 : Option Addr} {sl7 : Array (Option Value)} {oc7 kV7 dc7 pm7 cd7 ct7 : Value}
    {f8 : Addr} {od8 an8 : Option Addr} {sl8 : Array (Option Value)} {oc8 kV8 dc8 pm8 cd8 ct8 : Value}
    {f9 : Addr} {od9 an9 : Option Addr} {sl9 : Array (Option Value)} {oc9 kV9 dc9 pm9 cd9 ct9 : Value}
    {f10 : Addr} {od10 an10 : Option Addr} {sl10 : Array (Option Value)} {oc10 kV10 dc10 pm10 cd10 ct10 : Value}
    {f11 : Addr} {od11 an11 : Option Addr} {sl11 : Array (Option Value)} {oc11 kV11 dc11 pm11 cd11 ct11 : Value}
    {f12 : Addr} {od12 an12 : Option Addr} {sl12 : Array (Option Value)} {oc12 kV12 dc12 pm12 cd12 ct12 : Value}
    {f13 : Addr} {od13 an13 : Option Addr} {sl13 : Array (Option Value)} {oc13 kV13 dc13 pm13 cd13 ct13 : Value}
    {f14 : Addr} {od14 an14 : Option Addr} {sl14 : Array (Option Value)} {oc14 kV14 dc14 pm14 cd14 ct14 : Value}
    {f15 : Addr} {od15 an15 : Option Addr} {sl15 : Array (Option Value)} {oc15 kV15 dc15 pm15 cd15 ct15 : Value}
    {f16 : Addr} {od16 an16 : Option Addr} {sl16 : Array (Option Value)} {oc16 kV16 dc16 pm16 cd16 ct16 : Value}
    {f17 : Addr} {od17 an17 : Option Addr} {sl17 : Array (Option Value)} {oc17 kV17 dc17 pm17 cd17 ct17 : Value}
    {f18 : Addr} {od18 an18 : Option Addr} {sl18 : Array (Option Value)} {oc18 kV18 dc18 pm18 cd18 ct18 : Value}
    {f19 : Addr} {od19 an19 : Option Addr} {sl19 : Array (Option Value)} {oc19 kV19 dc19 pm19 cd19 ct19 : Value}
    {f20 : Addr} {od20 an20 : Option Addr} {sl20 : Array (Option Value)} {oc20 kV20 dc20 pm20 cd20 ct20 : Value}
    {f21 : Addr} {od21 an21 : Option Addr} {sl21 : Array (Option Value)} {oc21 kV21 dc21 pm21 cd21 ct21 : Value}
    {f22 : Addr} {od22 an22 : Option Addr} {sl22 : Array (Option Value)} {oc22 kV22 dc22 pm22 cd22 ct22 : Value}
    {f23 : Addr} {od23 an23 : Option Addr} {sl23 : Array (Option Value)} {oc23 kV23 dc23 pm23 cd23 ct23 : Value}
    {f24 : Addr} {od24 an24 : Option Addr} {sl24 : Array (Option Value)} {oc24 kV24 dc24 pm24 cd24 ct24 : Value}
    {f25 : Addr} {od25 an25 : Option Addr} {sl25 : Array (Option Value)} {oc25 kV25 dc25 pm25 cd25 ct25 : Value}
    {f26 : Addr} {od26 an26 : Option Addr} {sl26 : Array (Option Value)} {oc26 kV26 dc26 pm26 cd26 ct26 : Value}
    {f27 : Addr} {od27 an27 : Option Addr} {sl27 : Array (Option Value)} {oc27 kV27 dc27 pm27 cd27 ct27 : Value}
    {f28 : Addr} {od28 an28 : Option Addr} {sl28 : Array (Option Value)} {oc28 kV28 dc28 pm28 cd28 ct28 : Value}
    {f29 : Addr} {od29 an29 : Option Addr} {sl29 : Array (Option Value)} {oc29 kV29 dc29 pm29 cd29 ct29 : Value}
    {f30 : Addr} {od30 an30 : Option Addr} {sl30 : Array (Option Value)} {oc30 kV30 dc30 pm30 cd30 ct30 : Value}
    {f31 : Addr} {od31 an31 : Option Addr} {sl31 : Array (Option Value)} {oc31 kV31 dc31 pm31 cd31 ct31 : Value}
    {f32 : Addr} {od32 an32 : Option Addr} {sl32 : Array (Option Value)} {oc32 kV32 dc32 pm32 cd32 ct32 : Value}
    {f33 : Addr} {od33 an33 : Option Addr} {sl33 : Array (Option Value)} {oc33 kV33 dc33 pm33 cd33 ct33 : Value}
    {f34 : Addr} {od34 an34 : Option Addr} {sl34 : Array (Option Value)} {oc34 kV34 dc34 pm34 cd34 ct34 : Value}
    {f35 : Addr} {od35 an35 : Option Addr} {sl35 : Array (Option Value)} {oc35 kV35 dc35 pm35 cd35 ct35 : Value}
    {f36 : Addr} {od36 an36 : Option Addr} {sl36 : Array (Option Value)} {oc36 kV36 dc36 pm36 cd36 ct36 : Value}
    {f37 : Addr} {od37 an37 : Option Addr} {sl37 : Array (Option Value)} {oc37 kV37 dc37 pm37 cd37 ct37 : Value}
    {f38 : Addr} {od38 an38 : Option Addr} {sl38 : Array (Option Value)} {oc38 kV38 dc38 pm38 cd38 ct38 : Value}
    {f39 : Addr} {od39 an39 : Option Addr} {sl39 : Array (Option Value)} {oc39 kV39 dc39 pm39 cd39 ct39 : Value}
    {f40 : Addr} {od40 an40 : Option Addr} {sl40 : Array (Option Value)} {oc40 kV40 dc40 pm40 cd40 ct40 : Value}
    {f41 : Addr} {od41 an41 : Option Addr} {sl41 : Array (Option Value)} {oc41 kV41 dc41 pm41 cd41 ct41 : Value}
    {f42 : Addr} {od42 an42 : Option Addr} {sl42 : Array (Option Value)} {oc42 kV42 dc42 pm42 cd42 ct42 : Value}
    {f43 : Addr} {od43 an43 : Option Addr} {sl43 : Array (Option Value)} {oc43 kV43 dc43 pm43 cd43 ct43 : Value}
    {f44 : Addr} {od44 an44 : Option Addr} {sl44 : Array (Option Value)} {oc44 kV44 dc44 pm44 cd44 ct44 : Value}
    {f45 : Addr} {od45 an45 : Option Addr} {sl45 : Array (Option Value)} {oc45 kV45 dc45 pm45 cd45 ct45 : Value}
    {f46 : Addr} {od46 an46 : Option Addr} {sl46 : Array (Option Value)} {oc46 kV46 dc46 pm46 cd46 ct46 : Value}
    {f47 : Addr} {od47 an47 : Option Addr} {sl47 : Array (Option Value)} {oc47 kV47 dc47 pm47 cd47 ct47 : Value}
    {f48 : Addr} {od48 an48 : Option Addr} {sl48 : Array (Option Value)} {oc48 kV48 dc48 pm48 cd48 ct48 : Value}
    {f49 : Addr} {od49 an49 : Option Addr} {sl49 : Array (Option Value)} {oc49 kV49 dc49 pm49 cd49 ct49 : Value}
    {f50 : Addr} {od50 an50 : Option Addr} {sl50 : Array (Option Value)} {oc50 kV50 dc50 pm50 cd50 ct50 : Value}
    {f51 : Addr} {od51 an51 : Option Addr} {sl51 : Array (Option Value)} {oc51 kV51 dc51 pm51 cd51 ct51 : Value}
    {f52 : Addr} {od52 an52 : Option Addr} {sl52 : Array (Option Value)} {oc52 kV52 dc52 pm52 cd52 ct52 : Value}
    {f53 : Addr} {od53 an53 : Option Addr} {sl53 : Array (Option Value)} {oc53 kV53 dc53 pm53 cd53 ct53 : Value}
    {f54 : Addr} {od54 an54 : Option Addr} {sl54 : Array (Option Value)} {oc54 kV54 dc54 pm54 cd54 ct54 : Value}
    {f55 : Addr} {od55 an55 : Option Addr} {sl55 : Array (Option Value)} {oc55 kV55 dc55 pm55 cd55 ct55 : Value}
    {f56 : Addr} {od56 an56 : Option Addr} {sl56 : Array (Option Value)} {oc56 kV56 dc56 pm56 cd56 ct56 : Value}
    {f57 : Addr} {od57 an57 : Option Addr} {sl57 : Array (Option Value)} {oc57 kV57 dc57 pm57 cd57 ct57 : Value}
    {f58 : Addr} {od58 an58 : Option Addr} {sl58 : Array (Option Value)} {oc58 kV58 dc58 pm58 cd58 ct58 : Value}
    {f59 : Addr} {od59 an59 : Option Addr} {sl59 : Array (Option Value)} {oc59 kV59 dc59 pm59 cd59 ct59 : Value}
    {f60 : Addr} {od60 an60 : Option Addr} {sl60 : Array (Option Value)} {oc60 kV60 dc60 pm60 cd60 ct60 : Value}
    {f61 : Addr} {od61 an61 : Option Addr} {sl61 : Array (Option Value)} {oc61 kV61 dc61 pm61 cd61 ct61 : Value}
    {f62 : Addr} {od62 an62 : Option Addr} {sl62 : Array (Option Value)} {oc62 kV62 dc62 pm62 cd62 ct62 : Value}
    {f63 : Addr} {od63 an63 : Option Addr} {sl63 : Array (Option Value)} {oc63 kV63 dc63 pm63 cd63 ct63 : Value}
    {tk64 : Tok}
    {tk65 tl65 : Tok} {f65 : Addr} {od65 : Option Addr} {nn65 : Nat} {sl65 : Array (Option Value)}
    {tk66 tl66 : Tok} {f66 : Addr} {od66 : Option Addr} {nn66 : Nat} {sl66 : Array (Option Value)}
    {C67 : Addr}
    {f67_init : Addr} {od67_init an67_init : Option Addr} {sl67_init : Array (Option Value)} {oc67_init kV67_init dc67_init pm67_init cd67_init ct67_init : Value}
    {f67_lines : Addr} {od67_lines an67_lines : Option Addr} {sl67_lines : Array (Option Value)} {oc67_lines kV67_lines dc67_lines pm67_lines cd67_lines ct67_lines : Value}
    {f67_turn : Addr} {od67_turn an67_turn : Option Addr} {sl67_turn : Array (Option Value)} {oc67_turn kV67_turn dc67_turn pm67_turn cd67_turn ct67_turn : Value}
    {f67_arrivals : Addr} {od67_arrivals an67_arrivals : Option Addr} {sl67_arrivals : Array (Option Value)} {oc67_arrivals kV67_arrivals dc67_arrivals pm67_arrivals cd67_arrivals ct67_arrivals : Value}
    {f67_numbers : Addr} {od67_numbers an67_numbers : Option Addr} {sl67_numbers : Array (Option Value)} {oc67_numbers kV67_numbers dc67_numbers pm67_numbers cd67_numbers ct67_numbers : Value}
    {f67_turns : Addr} {od67_turns an67_turns : Option Addr} {sl67_turns : Array (Option Value)} {oc67_turns kV67_turns dc67_turns pm67_turns cd67_turns ct67_turns : Value}
    {f67_twin : Addr} {od67_twin an67_twin : Option Addr} {sl67_twin : Array (Option Value)} {oc67_twin kV67_twin dc67_twin pm67_twin cd67_twin ct67_twin : Value}
    (a1 : PySem.W.nsIn K mainGlobals "is_number" = some (some (.ref f1)))
    (l1 : K.lookup f1 = some ⟨oc1, od1, .func (PySem.W.fnOf "is_number" "is_number" (defArgs s_is_number) (defBody s_is_number) (defScope s_is_number) .none kV1 dc1 pm1 an1 cd1 ct1), sl1⟩)
    (c1 : PySem.W.codeIn K cd1 "is_number" = true)
    (k1 : PySem.W.keepIn K (.ref f1) = true)
    (a2 : PySem.W.nsIn K mainGlobals "is_index" = some (some (.ref f2)))
    (l2 : K.lookup f2 = some ⟨oc2, od2, .func (PySem.W.fnOf "is_index" "is_index" (defArgs s_is_index) (defBody s_is_index) (defScope s_is_index) .none kV2 dc2 pm2 an2 cd2 ct2), sl2⟩)
    (c2 : PySem.W.codeIn K cd2 "is_index" = true)
    (k2 : PySem.W.keepIn K (.ref f2) = true)
    (a3 : PySem.W.nsIn K mainGlobals "is_sized" = some (some (.ref f3)))
    (l3 : K.lookup f3 = some ⟨oc3, od3, .func (PySem.W.fnOf "is_sized" "is_sized" (defArgs s_is_sized) (defBody s_is_sized) (defScope s_is_sized) .none kV3 dc3 pm3 an3 cd3 ct3), sl3⟩)
    (c3 : PySem.W.codeIn K cd3 "is_sized" = true)
    (k3 : PySem.W.keepIn K (.ref f3) = true)
    (a4 : PySem.W.nsIn K mainGlobals "is_tuple_of" = some (some (.ref f4)))
    (l4 : K.lookup f4 = some ⟨oc4, od4, .func (PySem.W.fnOf "is_tuple_of" "is_tuple_of" (defArgs s_is_tuple_of) (defBody s_is_tuple_of) (defScope s_is_tuple_of) .none kV4 dc4 pm4 an4 cd4 ct4), sl4⟩)
    (c4 : PySem.W.codeIn K cd4 "is_tuple_of" = true)
    (k4 : PySem.W.keepIn K (.ref f4) = true)
    (a5 : PySem.W.nsIn K mainGlobals "common_divisor" = some (some (.ref f5)))
    (l5 : K.lookup f5 = some ⟨oc5, od5, .func (PySem.W.fnOf "common_divisor" "common_divisor" (defArgs s_common_divisor) (defBody s_common_divisor) (defScope s_common_divisor) .none kV5 dc5 pm5 an5 cd5 ct5), sl5⟩)
    (c5 : PySem.W.codeIn K cd5 "common_divisor" = true)
    (k5 : PySem.W.keepIn K (.ref f5) = true)
    (a6 : PySem.W.nsIn K mainGlobals "is_fraction" = some (some (.ref f6)))
    (l6 : K.lookup f6 = some ⟨oc6, od6, .func (PySem.W.fnOf "is_fraction" "is_fraction" (defArgs s_is_fraction) (defBody s_is_fraction) (defScope s_is_fraction) .none kV6 dc6 pm6 an6 cd6 ct6), sl6⟩)
    (c6 : PySem.W.codeIn K cd6 "is_fraction" = true)
    (k6 : PySem.W.keepIn K (.ref f6) = true)
    (a7 : PySem.W.nsIn K mainGlobals "is_indexes" = some (some (.ref f7)))
    (l7 : K.lookup f7 = some ⟨oc7, od7, .func (PySem.W.fnOf "is_indexes" "is_indexes" (defArgs s_is_indexes) (defBody s_is_indexes) (defScope s_is_indexes) .none kV7 dc7 pm7 an7 cd7 ct7), sl7⟩)
    (c7 : PySem.W.codeIn K cd7 "is_indexes" = true)
    (k7 : PySem.W.keepIn K (.ref f7) = true)
    (a8 : PySem.W.nsIn K mainGlobals "is_rows" = some (some (.ref f8)))
    (l8 : K.lookup f8 = some ⟨oc8, od8, .func (PySem.W.fnOf "is_rows" "is_rows" (defArgs s_is_rows) (defBody s_is_rows) (defScope s_is_rows) .none kV8 dc8 pm8 an8 cd8 ct8), sl8⟩)
    (c8 : PySem.W.codeIn K cd8 "is_rows" = true)
    (k8 : PySem.W.keepIn K (.ref f8) = true)
    (a9 : PySem.W.nsIn K mainGlobals "made" = some (some (.ref f9)))
    (l9 : K.lookup f9 = some ⟨oc9, od9, .func (PySem.W.fnOf "made" "made" (defArgs s_made) (defBody s_made) (defScope s_made) .none kV9 dc9 pm9 an9 cd9 ct9), sl9⟩)
    (c9 : PySem.W.codeIn K cd9 "made" = true)
    (k9 : PySem.W.keepIn K (.ref f9) = true)
    (a10 : PySem.W.nsIn K mainGlobals "whole" = some (some (.ref f10)))
    (l10 : K.lookup f10 = some ⟨oc10, od10, .func (PySem.W.fnOf "whole" "whole" (defArgs s_whole) (defBody s_whole) (defScope s_whole) .none kV10 dc10 pm10 an10 cd10 ct10), sl10⟩)
    (c10 : PySem.W.codeIn K cd10 "whole" = true)
    (k10 : PySem.W.keepIn K (.ref f10) = true)
    (a11 : PySem.W.nsIn K mainGlobals "added" = some (some (.ref f11)))
    (l11 : K.lookup f11 = some ⟨oc11, od11, .func (PySem.W.fnOf "added" "added" (defArgs s_added) (defBody s_added) (defScope s_added) .none kV11 dc11 pm11 an11 cd11 ct11), sl11⟩)
    (c11 : PySem.W.codeIn K cd11 "added" = true)
    (k11 : PySem.W.keepIn K (.ref f11) = true)
    (a12 : PySem.W.nsIn K mainGlobals "negative" = some (some (.ref f12)))
    (l12 : K.lookup f12 = some ⟨oc12, od12, .func (PySem.W.fnOf "negative" "negative" (defArgs s_negative) (defBody s_negative) (defScope s_negative) .none kV12 dc12 pm12 an12 cd12 ct12), sl12⟩)
    (c12 : PySem.W.codeIn K cd12 "negative" = true)
    (k12 : PySem.W.keepIn K (.ref f12) = true)
    (a13 : PySem.W.nsIn K mainGlobals "less" = some (some (.ref f13)))
    (l13 : K.lookup f13 = some ⟨oc13, od13, .func (PySem.W.fnOf "less" "less" (defArgs s_less) (defBody s_less) (defScope s_less) .none kV13 dc13 pm13 an13 cd13 ct13), sl13⟩)
    (c13 : PySem.W.codeIn K cd13 "less" = true)
    (k13 : PySem.W.keepIn K (.ref f13) = true)
    (a14 : PySem.W.nsIn K mainGlobals "times" = some (some (.ref f14)))
    (l14 : K.lookup f14 = some ⟨oc14, od14, .func (PySem.W.fnOf "times" "times" (defArgs s_times) (defBody s_times) (defScope s_times) .none kV14 dc14 pm14 an14 cd14 ct14), sl14⟩)
    (c14 : PySem.W.codeIn K cd14 "times" = true)
    (k14 : PySem.W.keepIn K (.ref f14) = true)
    (a15 : PySem.W.nsIn K mainGlobals "is_less" = some (some (.ref f15)))
    (l15 : K.lookup f15 = some ⟨oc15, od15, .func (PySem.W.fnOf "is_less" "is_less" (defArgs s_is_less) (defBody s_is_less) (defScope s_is_less) .none kV15 dc15 pm15 an15 cd15 ct15), sl15⟩)
    (c15 : PySem.W.codeIn K cd15 "is_less" = true)
    (k15 : PySem.W.keepIn K (.ref f15) = true)
    (a16 : PySem.W.nsIn K mainGlobals "greatest" = some (some (.ref f16)))
    (l16 : K.lookup f16 = some ⟨oc16, od16, .func (PySem.W.fnOf "greatest" "greatest" (defArgs s_greatest) (defBody s_greatest) (defScope s_greatest) .none kV16 dc16 pm16 an16 cd16 ct16), sl16⟩)
    (c16 : PySem.W.codeIn K cd16 "greatest" = true)
    (k16 : PySem.W.keepIn K (.ref f16) = true)
    (a17 : PySem.W.nsIn K mainGlobals "floor" = some (some (.ref f17)))
    (l17 : K.lookup f17 = some ⟨oc17, od17, .func (PySem.W.fnOf "floor" "floor" (defArgs s_floor) (defBody s_floor) (defScope s_floor) .none kV17 dc17 pm17 an17 cd17 ct17), sl17⟩)
    (c17 : PySem.W.codeIn K cd17 "floor" = true)
    (k17 : PySem.W.keepIn K (.ref f17) = true)
    (a18 : PySem.W.nsIn K mainGlobals "checked_arrivals" = some (some (.ref f18)))
    (l18 : K.lookup f18 = some ⟨oc18, od18, .func (PySem.W.fnOf "checked_arrivals" "checked_arrivals" (defArgs s_checked_arrivals) (defBody s_checked_arrivals) (defScope s_checked_arrivals) .none kV18 dc18 pm18 an18 cd18 ct18), sl18⟩)
    (c18 : PySem.W.codeIn K cd18 "checked_arrivals" = true)
    (k18 : PySem.W.keepIn K (.ref f18) = true)
    (a19 : PySem.W.nsIn K mainGlobals "excesses" = some (some (.ref f19)))
    (l19 : K.lookup f19 = some ⟨oc19, od19, .func (PySem.W.fnOf "excesses" "excesses" (defArgs s_excesses) (defBody s_excesses) (defScope s_excesses) .none kV19 dc19 pm19 an19 cd19 ct19), sl19⟩)
    (c19 : PySem.W.codeIn K cd19 "excesses" = true)
    (k19 : PySem.W.keepIn K (.ref f19) = true)
    (a20 : PySem.W.nsIn K mainGlobals "comes_of" = some (some (.ref f20)))
    (l20 : K.lookup f20 = some ⟨oc20, od20, .func (PySem.W.fnOf "comes_of" "comes_of" (defArgs s_comes_of) (defBody s_comes_of) (defScope s_comes_of) .none kV20 dc20 pm20 an20 cd20 ct20), sl20⟩)
    (c20 : PySem.W.codeIn K cd20 "comes_of" = true)
    (k20 : PySem.W.keepIn K (.ref f20) = true)
    (a21 : PySem.W.nsIn K mainGlobals "first_breach" = some (some (.ref f21)))
    (l21 : K.lookup f21 = some ⟨oc21, od21, .func (PySem.W.fnOf "first_breach" "first_breach" (defArgs s_first_breach) (defBody s_first_breach) (defScope s_first_breach) .none kV21 dc21 pm21 an21 cd21 ct21), sl21⟩)
    (c21 : PySem.W.codeIn K cd21 "first_breach" = true)
    (k21 : PySem.W.keepIn K (.ref f21) = true)
    (a22 : PySem.W.nsIn K mainGlobals "latest_begin" = some (some (.ref f22)))
    (l22 : K.lookup f22 = some ⟨oc22, od22, .func (PySem.W.fnOf "latest_begin" "latest_begin" (defArgs s_latest_begin) (defBody s_latest_begin) (defScope s_latest_begin) .none kV22 dc22 pm22 an22 cd22 ct22), sl22⟩)
    (c22 : PySem.W.codeIn K cd22 "latest_begin" = true)
    (k22 : PySem.W.keepIn K (.ref f22) = true)
    (a23 : PySem.W.nsIn K mainGlobals "keeps" = some (some (.ref f23)))
    (l23 : K.lookup f23 = some ⟨oc23, od23, .func (PySem.W.fnOf "keeps" "keeps" (defArgs s_keeps) (defBody s_keeps) (defScope s_keeps) .none kV23 dc23 pm23 an23 cd23 ct23), sl23⟩)
    (c23 : PySem.W.codeIn K cd23 "keeps" = true)
    (k23 : PySem.W.keepIn K (.ref f23) = true)
    (a24 : PySem.W.nsIn K mainGlobals "check_rate" = some (some (.ref f24)))
    (l24 : K.lookup f24 = some ⟨oc24, od24, .func (PySem.W.fnOf "check_rate" "check_rate" (defArgs s_check_rate) (defBody s_check_rate) (defScope s_check_rate) .none kV24 dc24 pm24 an24 cd24 ct24), sl24⟩)
    (c24 : PySem.W.codeIn K cd24 "check_rate" = true)
    (k24 : PySem.W.keepIn K (.ref f24) = true)
    (a25 : PySem.W.nsIn K mainGlobals "least_burst" = some (some (.ref f25)))
    (l25 : K.lookup f25 = some ⟨oc25, od25, .func (PySem.W.fnOf "least_burst" "least_burst" (defArgs s_least_burst) (defBody s_least_burst) (defScope s_least_burst) .none kV25 dc25 pm25 an25 cd25 ct25), sl25⟩)
    (c25 : PySem.W.codeIn K cd25 "least_burst" = true)
    (k25 : PySem.W.keepIn K (.ref f25) = true)
    (a26 : PySem.W.nsIn K mainGlobals "least_bound" = some (some (.ref f26)))
    (l26 : K.lookup f26 = some ⟨oc26, od26, .func (PySem.W.fnOf "least_bound" "least_bound" (defArgs s_least_bound) (defBody s_least_bound) (defScope s_least_bound) .none kV26 dc26 pm26 an26 cd26 ct26), sl26⟩)
    (c26 : PySem.W.codeIn K cd26 "least_bound" = true)
    (k26 : PySem.W.keepIn K (.ref f26) = true)
    (a27 : PySem.W.nsIn K mainGlobals "check_turns" = some (some (.ref f27)))
    (l27 : K.lookup f27 = some ⟨oc27, od27, .func (PySem.W.fnOf "check_turns" "check_turns" (defArgs s_check_turns) (defBody s_check_turns) (defScope s_check_turns) .none kV27 dc27 pm27 an27 cd27 ct27), sl27⟩)
    (c27 : PySem.W.codeIn K cd27 "check_turns" = true)
    (k27 : PySem.W.keepIn K (.ref f27) = true)
    (a28 : PySem.W.nsIn K mainGlobals "by_sums" = some (some (.ref f28)))
    (l28 : K.lookup f28 = some ⟨oc28, od28, .func (PySem.W.fnOf "by_sums" "by_sums" (defArgs s_by_sums) (defBody s_by_sums) (defScope s_by_sums) .none kV28 dc28 pm28 an28 cd28 ct28), sl28⟩)
    (c28 : PySem.W.codeIn K cd28 "by_sums" = true)
    (k28 : PySem.W.keepIn K (.ref f28) = true)
    (a29 : PySem.W.nsIn K mainGlobals "together" = some (some (.ref f29)))
    (l29 : K.lookup f29 = some ⟨oc29, od29, .func (PySem.W.fnOf "together" "together" (defArgs s_together) (defBody s_together) (defScope s_together) .none kV29 dc29 pm29 an29 cd29 ct29), sl29⟩)
    (c29 : PySem.W.codeIn K cd29 "together" = true)
    (k29 : PySem.W.keepIn K (.ref f29) = true)
    (a30 : PySem.W.nsIn K mainGlobals "steady" = some (some (.ref f30)))
    (l30 : K.lookup f30 = some ⟨oc30, od30, .func (PySem.W.fnOf "steady" "steady" (defArgs s_steady) (defBody s_steady) (defScope s_steady) .none kV30 dc30 pm30 an30 cd30 ct30), sl30⟩)
    (c30 : PySem.W.codeIn K cd30 "steady" = true)
    (k30 : PySem.W.keepIn K (.ref f30) = true)
    (a31 : PySem.W.nsIn K mainGlobals "all_at_once" = some (some (.ref f31)))
    (l31 : K.lookup f31 = some ⟨oc31, od31, .func (PySem.W.fnOf "all_at_once" "all_at_once" (defArgs s_all_at_once) (defBody s_all_at_once) (defScope s_all_at_once) .none kV31 dc31 pm31 an31 cd31 ct31), sl31⟩)
    (c31 : PySem.W.codeIn K cd31 "all_at_once" = true)
    (k31 : PySem.W.keepIn K (.ref f31) = true)
    (a32 : PySem.W.nsIn K mainGlobals "both" = some (some (.ref f32)))
    (l32 : K.lookup f32 = some ⟨oc32, od32, .func (PySem.W.fnOf "both" "both" (defArgs s_both) (defBody s_both) (defScope s_both) .none kV32 dc32 pm32 an32 cd32 ct32), sl32⟩)
    (c32 : PySem.W.codeIn K cd32 "both" = true)
    (k32 : PySem.W.keepIn K (.ref f32) = true)
    (a33 : PySem.W.nsIn K mainGlobals "later" = some (some (.ref f33)))
    (l33 : K.lookup f33 = some ⟨oc33, od33, .func (PySem.W.fnOf "later" "later" (defArgs s_later) (defBody s_later) (defScope s_later) .none kV33 dc33 pm33 an33 cd33 ct33), sl33⟩)
    (c33 : PySem.W.codeIn K cd33 "later" = true)
    (k33 : PySem.W.keepIn K (.ref f33) = true)
    (a34 : PySem.W.nsIn K mainGlobals "total_of" = some (some (.ref f34)))
    (l34 : K.lookup f34 = some ⟨oc34, od34, .func (PySem.W.fnOf "total_of" "total_of" (defArgs s_total_of) (defBody s_total_of) (defScope s_total_of) .none kV34 dc34 pm34 an34 cd34 ct34), sl34⟩)
    (c34 : PySem.W.codeIn K cd34 "total_of" = true)
    (k34 : PySem.W.keepIn K (.ref f34) = true)
    (a35 : PySem.W.nsIn K mainGlobals "check_heaps" = some (some (.ref f35)))
    (l35 : K.lookup f35 = some ⟨oc35, od35, .func (PySem.W.fnOf "check_heaps" "check_heaps" (defArgs s_check_heaps) (defBody s_check_heaps) (defScope s_check_heaps) .none kV35 dc35 pm35 an35 cd35 ct35), sl35⟩)
    (c35 : PySem.W.codeIn K cd35 "check_heaps" = true)
    (k35 : PySem.W.keepIn K (.ref f35) = true)
    (a36 : PySem.W.nsIn K mainGlobals "served_by" = some (some (.ref f36)))
    (l36 : K.lookup f36 = some ⟨oc36, od36, .func (PySem.W.fnOf "served_by" "served_by" (defArgs s_served_by) (defBody s_served_by) (defScope s_served_by) .none kV36 dc36 pm36 an36 cd36 ct36), sl36⟩)
    (c36 : PySem.W.codeIn K cd36 "served_by" = true)
    (k36 : PySem.W.keepIn K (.ref f36) = true)
    (a37 : PySem.W.nsIn K mainGlobals "played" = some (some (.ref f37)))
    (l37 : K.lookup f37 = some ⟨oc37, od37, .func (PySem.W.fnOf "played" "played" (defArgs s_played) (defBody s_played) (defScope s_played) .none kV37 dc37 pm37 an37 cd37 ct37), sl37⟩)
    (c37 : PySem.W.codeIn K cd37 "played" = true)
    (k37 : PySem.W.keepIn K (.ref f37) = true)
    (a38 : PySem.W.nsIn K mainGlobals "lines_behind" = some (some (.ref f38)))
    (l38 : K.lookup f38 = some ⟨oc38, od38, .func (PySem.W.fnOf "lines_behind" "lines_behind" (defArgs s_lines_behind) (defBody s_lines_behind) (defScope s_lines_behind) .none kV38 dc38 pm38 an38 cd38 ct38), sl38⟩)
    (c38 : PySem.W.codeIn K cd38 "lines_behind" = true)
    (k38 : PySem.W.keepIn K (.ref f38) = true)
    (a39 : PySem.W.nsIn K mainGlobals "heaps_in" = some (some (.ref f39)))
    (l39 : K.lookup f39 = some ⟨oc39, od39, .func (PySem.W.fnOf "heaps_in" "heaps_in" (defArgs s_heaps_in) (defBody s_heaps_in) (defScope s_heaps_in) .none kV39 dc39 pm39 an39 cd39 ct39), sl39⟩)
    (c39 : PySem.W.codeIn K cd39 "heaps_in" = true)
    (k39 : PySem.W.keepIn K (.ref f39) = true)
    (a40 : PySem.W.nsIn K mainGlobals "gone_in" = some (some (.ref f40)))
    (l40 : K.lookup f40 = some ⟨oc40, od40, .func (PySem.W.fnOf "gone_in" "gone_in" (defArgs s_gone_in) (defBody s_gone_in) (defScope s_gone_in) .none kV40 dc40 pm40 an40 cd40 ct40), sl40⟩)
    (c40 : PySem.W.codeIn K cd40 "gone_in" = true)
    (k40 : PySem.W.keepIn K (.ref f40) = true)
    (a41 : PySem.W.nsIn K mainGlobals "last_lines" = some (some (.ref f41)))
    (l41 : K.lookup f41 = some ⟨oc41, od41, .func (PySem.W.fnOf "last_lines" "last_lines" (defArgs s_last_lines) (defBody s_last_lines) (defScope s_last_lines) .none kV41 dc41 pm41 an41 cd41 ct41), sl41⟩)
    (c41 : PySem.W.codeIn K cd41 "last_lines" = true)
    (k41 : PySem.W.keepIn K (.ref f41) = true)
    (a42 : PySem.W.nsIn K mainGlobals "greatest_lines" = some (some (.ref f42)))
    (l42 : K.lookup f42 = some ⟨oc42, od42, .func (PySem.W.fnOf "greatest_lines" "greatest_lines" (defArgs s_greatest_lines) (defBody s_greatest_lines) (defScope s_greatest_lines) .none kV42 dc42 pm42 an42 cd42 ct42), sl42⟩)
    (c42 : PySem.W.codeIn K cd42 "greatest_lines" = true)
    (k42 : PySem.W.keepIn K (.ref f42) = true)
    (a43 : PySem.W.nsIn K mainGlobals "_law_bag" = some (some (.ref f43)))
    (l43 : K.lookup f43 = some ⟨oc43, od43, .func (PySem.W.fnOf "_law_bag" "_law_bag" (defArgs s__law_bag) (defBody s__law_bag) (defScope s__law_bag) .none kV43 dc43 pm43 an43 cd43 ct43), sl43⟩)
    (c43 : PySem.W.codeIn K cd43 "_law_bag" = true)
    (k43 : PySem.W.keepIn K (.ref f43) = true)
    (a44 : PySem.W.nsIn K mainGlobals "_law_take" = some (some (.ref f44)))
    (l44 : K.lookup f44 = some ⟨oc44, od44, .func (PySem.W.fnOf "_law_take" "_law_take" (defArgs s__law_take) (defBody s__law_take) (defScope s__law_take) .none kV44 dc44 pm44 an44 cd44 ct44), sl44⟩)
    (c44 : PySem.W.codeIn K cd44 "_law_take" = true)
    (k44 : PySem.W.keepIn K (.ref f44) = true)
    (a45 : PySem.W.nsIn K mainGlobals "_law_some" = some (some (.ref f45)))
    (l45 : K.lookup f45 = some ⟨oc45, od45, .func (PySem.W.fnOf "_law_some" "_law_some" (defArgs s__law_some) (defBody s__law_some) (defScope s__law_some) .none kV45 dc45 pm45 an45 cd45 ct45), sl45⟩)
    (c45 : PySem.W.codeIn K cd45 "_law_some" = true)
    (k45 : PySem.W.keepIn K (.ref f45) = true)
    (a46 : PySem.W.nsIn K mainGlobals "_law_alike" = some (some (.ref f46)))
    (l46 : K.lookup f46 = some ⟨oc46, od46, .func (PySem.W.fnOf "_law_alike" "_law_alike" (defArgs s__law_alike) (defBody s__law_alike) (defScope s__law_alike) .none kV46 dc46 pm46 an46 cd46 ct46), sl46⟩)
    (c46 : PySem.W.codeIn K cd46 "_law_alike" = true)
    (k46 : PySem.W.keepIn K (.ref f46) = true)
    (a47 : PySem.W.nsIn K mainGlobals "_law_gcd" = some (some (.ref f47)))
    (l47 : K.lookup f47 = some ⟨oc47, od47, .func (PySem.W.fnOf "_law_gcd" "_law_gcd" (defArgs s__law_gcd) (defBody s__law_gcd) (defScope s__law_gcd) .none kV47 dc47 pm47 an47 cd47 ct47), sl47⟩)
    (c47 : PySem.W.codeIn K cd47 "_law_gcd" = true)
    (k47 : PySem.W.keepIn K (.ref f47) = true)
    (a48 : PySem.W.nsIn K mainGlobals "_law_fraction" = some (some (.ref f48)))
    (l48 : K.lookup f48 = some ⟨oc48, od48, .func (PySem.W.fnOf "_law_fraction" "_law_fraction" (defArgs s__law_fraction) (defBody s__law_fraction) (defScope s__law_fraction) .none kV48 dc48 pm48 an48 cd48 ct48), sl48⟩)
    (c48 : PySem.W.codeIn K cd48 "_law_fraction" = true)
    (k48 : PySem.W.keepIn K (.ref f48) = true)
    (a49 : PySem.W.nsIn K mainGlobals "_law_plus" = some (some (.ref f49)))
    (l49 : K.lookup f49 = some ⟨oc49, od49, .func (PySem.W.fnOf "_law_plus" "_law_plus" (defArgs s__law_plus) (defBody s__law_plus) (defScope s__law_plus) .none kV49 dc49 pm49 an49 cd49 ct49), sl49⟩)
    (c49 : PySem.W.codeIn K cd49 "_law_plus" = true)
    (k49 : PySem.W.keepIn K (.ref f49) = true)
    (a50 : PySem.W.nsIn K mainGlobals "_law_minus" = some (some (.ref f50)))
    (l50 : K.lookup f50 = some ⟨oc50, od50, .func (PySem.W.fnOf "_law_minus" "_law_minus" (defArgs s__law_minus) (defBody s__law_minus) (defScope s__law_minus) .none kV50 dc50 pm50 an50 cd50 ct50), sl50⟩)
    (c50 : PySem.W.codeIn K cd50 "_law_minus" = true)
    (k50 : PySem.W.keepIn K (.ref f50) = true)
    (a51 : PySem.W.nsIn K mainGlobals "_law_times" = some (some (.ref f51)))
    (l51 : K.lookup f51 = some ⟨oc51, od51, .func (PySem.W.fnOf "_law_times" "_law_times" (defArgs s__law_times) (defBody s__law_times) (defScope s__law_times) .none kV51 dc51 pm51 an51 cd51 ct51), sl51⟩)
    (c51 : PySem.W.codeIn K cd51 "_law_times" = true)
    (k51 : PySem.W.keepIn K (.ref f51) = true)
    (a52 : PySem.W.nsIn K mainGlobals "_law_less" = some (some (.ref f52)))
    (l52 : K.lookup f52 = some ⟨oc52, od52, .func (PySem.W.fnOf "_law_less" "_law_less" (defArgs s__law_less) (defBody s__law_less) (defScope s__law_less) .none kV52 dc52 pm52 an52 cd52 ct52), sl52⟩)
    (c52 : PySem.W.codeIn K cd52 "_law_less" = true)
    (k52 : PySem.W.keepIn K (.ref f52) = true)
    (a53 : PySem.W.nsIn K mainGlobals "_law_floor" = some (some (.ref f53)))
    (l53 : K.lookup f53 = some ⟨oc53, od53, .func (PySem.W.fnOf "_law_floor" "_law_floor" (defArgs s__law_floor) (defBody s__law_floor) (defScope s__law_floor) .none kV53 dc53 pm53 an53 cd53 ct53), sl53⟩)
    (c53 : PySem.W.codeIn K cd53 "_law_floor" = true)
    (k53 : PySem.W.keepIn K (.ref f53) = true)
    (a54 : PySem.W.nsIn K mainGlobals "_law_streams" = some (some (.ref f54)))
    (l54 : K.lookup f54 = some ⟨oc54, od54, .func (PySem.W.fnOf "_law_streams" "_law_streams" (defArgs s__law_streams) (defBody s__law_streams) (defScope s__law_streams) .none kV54 dc54 pm54 an54 cd54 ct54), sl54⟩)
    (c54 : PySem.W.codeIn K cd54 "_law_streams" = true)
    (k54 : PySem.W.keepIn K (.ref f54) = true)
    (a55 : PySem.W.nsIn K mainGlobals "_law_services" = some (some (.ref f55)))
    (l55 : K.lookup f55 = some ⟨oc55, od55, .func (PySem.W.fnOf "_law_services" "_law_services" (defArgs s__law_services) (defBody s__law_services) (defScope s__law_services) .none kV55 dc55 pm55 an55 cd55 ct55), sl55⟩)
    (c55 : PySem.W.codeIn K cd55 "_law_services" = true)
    (k55 : PySem.W.keepIn K (.ref f55) = true)
    (a56 : PySem.W.nsIn K mainGlobals "_law_rates" = some (some (.ref f56)))
    (l56 : K.lookup f56 = some ⟨oc56, od56, .func (PySem.W.fnOf "_law_rates" "_law_rates" (defArgs s__law_rates) (defBody s__law_rates) (defScope s__law_rates) .none kV56 dc56 pm56 an56 cd56 ct56), sl56⟩)
    (c56 : PySem.W.codeIn K cd56 "_law_rates" = true)
    (k56 : PySem.W.keepIn K (.ref f56) = true)
    (a57 : PySem.W.nsIn K mainGlobals "_law_bound" = some (some (.ref f57)))
    (l57 : K.lookup f57 = some ⟨oc57, od57, .func (PySem.W.fnOf "_law_bound" "_law_bound" (defArgs s__law_bound) (defBody s__law_bound) (defScope s__law_bound) .none kV57 dc57 pm57 an57 cd57 ct57), sl57⟩)
    (c57 : PySem.W.codeIn K cd57 "_law_bound" = true)
    (k57 : PySem.W.keepIn K (.ref f57) = true)
    (a58 : PySem.W.nsIn K mainGlobals "_law_breach" = some (some (.ref f58)))
    (l58 : K.lookup f58 = some ⟨oc58, od58, .func (PySem.W.fnOf "_law_breach" "_law_breach" (defArgs s__law_breach) (defBody s__law_breach) (defScope s__law_breach) .none kV58 dc58 pm58 an58 cd58 ct58), sl58⟩)
    (c58 : PySem.W.codeIn K cd58 "_law_breach" = true)
    (k58 : PySem.W.keepIn K (.ref f58) = true)
    (a59 : PySem.W.nsIn K mainGlobals "_law_keeps" = some (some (.ref f59)))
    (l59 : K.lookup f59 = some ⟨oc59, od59, .func (PySem.W.fnOf "_law_keeps" "_law_keeps" (defArgs s__law_keeps) (defBody s__law_keeps) (defScope s__law_keeps) .none kV59 dc59 pm59 an59 cd59 ct59), sl59⟩)
    (c59 : PySem.W.codeIn K cd59 "_law_keeps" = true)
    (k59 : PySem.W.keepIn K (.ref f59) = true)
    (a60 : PySem.W.nsIn K mainGlobals "_law_played" = some (some (.ref f60)))
    (l60 : K.lookup f60 = some ⟨oc60, od60, .func (PySem.W.fnOf "_law_played" "_law_played" (defArgs s__law_played) (defBody s__law_played) (defScope s__law_played) .none kV60 dc60 pm60 an60 cd60 ct60), sl60⟩)
    (c60 : PySem.W.codeIn K cd60 "_law_played" = true)
    (k60 : PySem.W.keepIn K (.ref f60) = true)
    (a61 : PySem.W.nsIn K mainGlobals "_law_let" = some (some (.ref f61)))
    (l61 : K.lookup f61 = some ⟨oc61, od61, .func (PySem.W.fnOf "_law_let" "_law_let" (defArgs s__law_let) (defBody s__law_let) (defScope s__law_let) .none kV61 dc61 pm61 an61 cd61 ct61), sl61⟩)
    (c61 : PySem.W.codeIn K cd61 "_law_let" = true)
    (k61 : PySem.W.keepIn K (.ref f61) = true)
    (a62 : PySem.W.nsIn K mainGlobals "_law_kept_comes" = some (some (.ref f62)))
    (l62 : K.lookup f62 = some ⟨oc62, od62, .func (PySem.W.fnOf "_law_kept_comes" "_law_kept_comes" (defArgs s__law_kept_comes) (defBody s__law_kept_comes) (defScope s__law_kept_comes) .none kV62 dc62 pm62 an62 cd62 ct62), sl62⟩)
    (c62 : PySem.W.codeIn K cd62 "_law_kept_comes" = true)
    (k62 : PySem.W.keepIn K (.ref f62) = true)
    (a63 : PySem.W.nsIn K mainGlobals "law" = some (some (.ref f63)))
    (l63 : K.lookup f63 = some ⟨oc63, od63, .func (PySem.W.fnOf "law" "law" (defArgs s_law) (defBody s_law) (defScope s_law) .none kV63 dc63 pm63 an63 cd63 ct63), sl63⟩)
    (c63 : PySem.W.codeIn K cd63 "law" = true)
    (k63 : PySem.W.keepIn K (.ref f63) = true)
    (a64 : PySem.W.nsIn K mainGlobals "MOST_TURNS" = some (some (.int 5000 tk64)))
    (a65 : PySem.W.nsIn K mainGlobals "ZERO" = some (some (.ref f65)))
    (l65 : K.lookup f65 = some ⟨.type "tuple", od65, .seq #[.int 0 tk65, .int 1 tl65] nn65, sl65⟩)
    (a66 : PySem.W.nsIn K mainGlobals "ONE" = some (some (.ref f66)))
    (l66 : K.lookup f66 = some ⟨.type "tuple", od66, .seq #[.int 1 tk66, .int 1 tl66] nn66, sl66⟩)
    (aC67 : PySem.W.nsIn K mainGlobals "Lines" = some (some (.ref C67)))
    (pg67 : PySem.W.plainGet K C67 Str.empty = true)
    (hd67 : PySem.W.hasDictIn K C67 = true)
    (po67 : PySem.W.plainOver K C67 = true)
    (sa67 : PySem.W.findIn K (.ref C67) "__setattr__" = some (some (.builtin "object.__setattr__")))
    (mk67 : PySem.W.makesIn K C67 = true)
    (kc67 : PySem.W.keepIn K (.ref C67) = true)
    (na67_services : PySem.W.findIn K (.ref C67) "services" = some none)
    (na67_came : PySem.W.findIn K (.ref C67) "came" = some none)
    (na67_done : PySem.W.findIn K (.ref C67) "done" = some none)
    (na67_lying : PySem.W.findIn K (.ref C67) "lying" = some none)
    (a67_init : PySem.W.findIn K (.ref C67) "__init__" = some (some (.ref f67_init)))
    (i67_init : PySem.W.isFn K (.ref f67_init) = true)
    (l67_init : K.lookup f67_init = some ⟨oc67_init, od67_init, .func (PySem.W.fnOf "__init__" "Lines.__init__" (defArgs s_Lines___init__) (defBody s_Lines___init__) (defScope s_Lines___init__) .none kV67_init dc67_init pm67_init an67_init cd67_init ct67_init), sl67_init⟩)
    (c67_init : PySem.W.codeIn K cd67_init "Lines.__init__" = true)
    (k67_init : PySem.W.keepIn K (.ref f67_init) = true)
    (a67_lines : PySem.W.findIn K (.ref C67) "lines" = some (some (.ref f67_lines)))
    (i67_lines : PySem.W.isFn K (.ref f67_lines) = true)
    (l67_lines : K.lookup f67_lines = some ⟨oc67_lines, od67_lines, .func (PySem.W.fnOf "lines" "Lines.lines" (defArgs s_Lines_lines) (defBody s_Lines_lines) (defScope s_Lines_lines) .none kV67_lines dc67_lines pm67_lines an67_lines cd67_lines ct67_lines), sl67_lines⟩)
    (c67_lines : PySem.W.codeIn K cd67_lines "Lines.lines" = true)
    (k67_lines : PySem.W.keepIn K (.ref f67_lines) = true)
    (a67_turn : PySem.W.findIn K (.ref C67) "turn" = some (some (.ref f67_turn)))
    (i67_turn : PySem.W.isFn K (.ref f67_turn) = true)
    (l67_turn : K.lookup f67_turn = some ⟨oc67_turn, od67_turn, .func (PySem.W.fnOf "turn" "Lines.turn" (defArgs s_Lines_turn) (defBody s_Lines_turn) (defScope s_Lines_turn) .none kV67_turn dc67_turn pm67_turn an67_turn cd67_turn ct67_turn), sl67_turn⟩)
    (c67_turn : PySem.W.codeIn K cd67_turn "Lines.turn" = true)
    (k67_turn : PySem.W.keepIn K (.ref f67_turn) = true)
    (a67_arrivals : PySem.W.findIn K (.ref C67) "arrivals" = some (some (.ref f67_arrivals)))
    (i67_arrivals : PySem.W.isFn K (.ref f67_arrivals) = true)
    (l67_arrivals : K.lookup f67_arrivals = some ⟨oc67_arrivals, od67_arrivals, .func (PySem.W.fnOf "arrivals" "Lines.arrivals" (defArgs s_Lines_arrivals) (defBody s_Lines_arrivals) (defScope s_Lines_arrivals) .none kV67_arrivals dc67_arrivals pm67_arrivals an67_arrivals cd67_arrivals ct67_arrivals), sl67_arrivals⟩)
    (c67_arrivals : PySem.W.codeIn K cd67_arrivals "Lines.arrivals" = true)
    (k67_arrivals : PySem.W.keepIn K (.ref f67_arrivals) = true)
    (a67_numbers : PySem.W.findIn K (.ref C67) "numbers" = some (some (.ref f67_numbers)))
    (i67_numbers : PySem.W.isFn K (.ref f67_numbers) = true)
    (l67_numbers : K.lookup f67_numbers = some ⟨oc67_numbers, od67_numbers, .func (PySem.W.fnOf "numbers" "Lines.numbers" (defArgs s_Lines_numbers) (defBody s_Lines_numbers) (defScope s_Lines_numbers) .none kV67_numbers dc67_numbers pm67_numbers an67_numbers cd67_numbers ct67_numbers), sl67_numbers⟩)
    (c67_numbers : PySem.W.codeIn K cd67_numbers "Lines.numbers" = true)
    (k67_numbers : PySem.W.keepIn K (.ref f67_numbers) = true)
    (a67_turns : PySem.W.findIn K (.ref C67) "turns" = some (some (.ref f67_turns)))
    (i67_turns : PySem.W.isFn K (.ref f67_turns) = true)
    (l67_turns : K.lookup f67_turns = some ⟨oc67_turns, od67_turns, .func (PySem.W.fnOf "turns" "Lines.turns" (defArgs s_Lines_turns) (defBody s_Lines_turns) (defScope s_Lines_turns) .none kV67_turns dc67_turns pm67_turns an67_turns cd67_turns ct67_turns), sl67_turns⟩)
    (c67_turns : PySem.W.codeIn K cd67_turns "Lines.turns" = true)
    (k67_turns : PySem.W.keepIn K (.ref f67_turns) = true)
    (a67_twin : PySem.W.findIn K (.ref C67) "twin" = some (some (.ref f67_twin)))
    (i67_twin : PySem.W.isFn K (.ref f67_twin) = true)
    (l67_twin : K.lookup f67_twin = some ⟨oc67_twin, od67_twin, .func (PySem.W.fnOf "twin" "Lines.twin" (defArgs s_Lines_twin) (defBody s_Lines_twin) (defScope s_Lines_twin) .none kV67_twin dc67_twin pm67_twin an67_twin cd67_twin ct67_twin), sl67_twin⟩)
    (c67_twin : PySem.W.codeIn K cd67_twin "Lines.twin" = true)
    (k67_twin : PySem.W.keepIn K (.ref f67_twin) = true)
    (z_isinstance : PySem.W.nsIn K mainGlobals "isinstance" = some none)
    (z_int : PySem.W.nsIn K mainGlobals "int" = some none)
    (z_bool : PySem.W.nsIn K mainGlobals "bool" = some none)
    (z_tuple : PySem.W.nsIn K mainGlobals "tuple" = some none)
    (z_str : PySem.W.nsIn K mainGlobals "str" = some none)
    (z_list : PySem.W.nsIn K mainGlobals "list" = some none)
    (z_len : PySem.W.nsIn K mainGlobals "len" = some none)
    (z_abs : PySem.W.nsIn K mainGlobals "abs" = some none)
    (z_sum : PySem.W.nsIn K mainGlobals "sum" = some none)
    (z_all : PySem.W.nsIn K mainGlobals "all" = some none)
    (z_any : PySem.W.nsIn K mainGlobals "any" = some none)
    (z_min : PySem.W.nsIn K mainGlobals "min" = some none)
    (z_max : PySem.W.nsIn K mainGlobals "max" = some none)
    (z_range : PySem.W.nsIn K mainGlobals "range" = some none)
    (z_zip : PySem.W.nsIn K mainGlobals "zip" = some none)
    (z_enumerate : PySem.W.nsIn K mainGlobals "enumerate" = some none)
    (z_sorted : PySem.W.nsIn K mainGlobals "sorted" = some none)
    (z_set : PySem.W.nsIn K mainGlobals "set" = some none)
    (z_repr : PySem.W.nsIn K mainGlobals "repr" = some none) :
    ∃ fd : FuncData, (∀ (s : Shared) (v : Value), BindsTo s fd ⟨[v], []⟩ [("script", v)]) ∧ ∀ base : Heap, K.In base → base.Ns mainGlobals mg → FnG l.prog w K mg base 11 fa fd ["script"] (DL.spLaw K) := by
  have e := hfa.symm.trans (PySem.W.mg_of X G a63)
  cases e
  have t : Txt K mg := {
    d_is_number := DL.def_mk X G a1 l1 c1 k1 (fun _ _ _ _ _ _ us hl => match us, hl with | [_], _ => rfl),
    d_is_index := DL.def_mk X G a2 l2 c2 k2 (fun _ _ _ _ _ _ us hl => match us, hl with | [_], _ => rfl),
    d_is_sized := DL.def_mk X G a3 l3 c3 k3 (fun _ _ _ _ _ _ us hl => match us, hl with | [_, _], _ => rfl),
    d_is_tuple_of := DL.def_mk X G a4 l4 c4 k4 (fun _ _ _ _ _ _ us hl => match us, hl with | [_, _], _ => rfl),
    d_common_divisor := DL.def_mk X G a5 l5 c5 k5 (fun _ _ _ _ _ _ us hl => match us, hl with | [_, _], _ => rfl),
    d_is_fraction := DL.def_mk X G a6 l6 c6 k6 (fun _ _ _ _ _ _ us hl => match us, hl with | [_], _ => rfl),
    d_is_indexes := DL.def_mk X G a7 l7 c7 k7 (fun _ _ _ _ _ _ us hl => match us, hl with | [_], _ => rfl),
    d_is_rows := DL.def_mk X G a8 l8 c8 k8 (fun _ _ _ _ _ _ us hl => match us, hl with | [_], _ => rfl),
    d_made := DL.def_mk X G a9 l9 c9 k9 (fun _ _ _ _ _ _ us hl => match us, hl with | [_, _], _ => rfl),
    d_whole := DL.def_mk X G a10 l10 c10 k10 (fun _ _ _ _ _ _ us hl => match us, hl with | [_], _ => rfl),
    d_added := DL.def_mk X G a11 l11 c11 k11 (fun _ _ _ _ _ _ us hl => match us, hl with | [_, _], _ => rfl),
    d_negative := DL.def_mk X G a12 l12 c12 k12 (fun _ _ _ _ _ _ us hl => match us, hl with | [_], _ => rfl),
    d_less := DL.def_mk X G a13 l13 c13 k13 (fun _ _ _ _ _ _ us hl => match us, hl with | [_, _], _ => rfl),
    d_times := DL.def_mk X G a14 l14 c14 k14 (fun _ _ _ _ _ _ us hl => match us, hl with | [_, _], _ => rfl),
    d_is_less := DL.def_mk X G a15 l15 c15 k15 (fun _ _ _ _ _ _ us hl => match us, hl with | [_, _], _ => rfl),
    d_greatest := DL.def_mk X G a16 l16 c16 k16 (fun _ _ _ _ _ _ us hl => match us, hl with | [_], _ => rfl),
    d_floor := DL.def_mk X G a17 l17 c17 k17 (fun _ _ _ _ _ _ us hl => match us, hl with | [_], _ => rfl),
    d_checked_arrivals := DL.def_mk X G a18 l18 c18 k18 (fun _ _ _ _ _ _ us hl => match us, hl with | [_, _], _ => rfl),
    d_excesses := DL.def_mk X G a19 l19 c19 k19 (fun _ _ _ _ _ _ us hl => match us, hl with | [_, _], _ => rfl),
    d_comes_of := DL.def_mk X G a20 l20 c20 k20 (fun _ _ _ _ _ _ us hl => match us, hl with | [_, _], _ => rfl),
    d_first_breach := DL.def_mk X G a21 l21 c21 k21 (fun _ _ _ _ _ _ us hl => match us, hl with | [_, _], _ => rfl),
    d_latest_begin := DL.def_mk X G a22 l22 c22 k22 (fun _ _ _ _ _ _ us hl => match us, hl with | [_, _, _], _ => rfl),
    d_keeps := DL.def_mk X G a23 l23 c23 k23 (fun _ _ _ _ _ _ us hl => match us, hl with | [_, _], _ => rfl),
    d_check_rate := DL.def_mk X G a24 l24 c24 k24 (fun _ _ _ _ _ _ us hl => match us, hl with | [_], _ => rfl),
    d_least_burst := DL.def_mk X G a25 l25 c25 k25 (fun _ _ _ _ _ _ us hl => match us, hl with | [_, _], _ => rfl),
    d_least_bound := DL.def_mk X G a26 l26 c26 k26 (fun _ _ _ _ _ _ us hl => match us, hl with | [_, _], _ => rfl),
    d_check_turns := DL.def_mk X G a27 l27 c27 k27 (fun _ _ _ _ _ _ us hl => match us, hl with | [_], _ => rfl),
    d_by_sums := DL.def_mk X G a28 l28 c28 k28 (fun _ _ _ _ _ _ us hl => match us, hl with | [_], _ => rfl),
    d_together := DL.def_mk X G a29 l29 c29 k29 (fun _ _ _ _ _ _ us hl => match us, hl with | [_, _], _ => rfl),
    d_steady := DL.def_mk X G a30 l30 c30 k30 (fun _ _ _ _ _ _ us hl => match us, hl with | [_, _], _ => rfl),
    d_all_at_once := DL.def_mk X G a31 l31 c31 k31 (fun _ _ _ _ _ _ us hl => match us, hl with | [_, _], _ => rfl),
    d_both := DL.def_mk X G a32 l32 c32 k32 (fun _ _ _ _ _ _ us hl => match us, hl with | [_, _], _ => rfl),
    d_later := DL.def_mk X G a33 l33 c33 k33 (fun _ _ _ _ _ _ us hl => match us, hl with | [_, _], _ => rfl),
    d_total_of := DL.def_mk X G a34 l34 c34 k34 (fun _ _ _ _ _ _ us hl => match us, hl with | [_, _], _ => rfl),
    d_check_heaps := DL.def_mk X G a35 l35 c35 k35 (fun _ _ _ _ _ _ us hl => match us, hl with | [_, _], _ => rfl),
    d_served_by := DL.def_mk X G a36 l36 c36 k36 (fun _ _ _ _ _ _ us hl => match us, hl with | [_, _, _], _ => rfl),
    d_played := DL.def_mk X G a37 l37 c37 k37 (fun _ _ _ _ _ _ us hl => match us, hl with | [_, _, _], _ => rfl),
    d_lines_behind := DL.def_mk X G a38 l38 c38 k38 (fun _ _ _ _ _ _ us hl => match us, hl with | [_, _, _], _ => rfl),
    d_heaps_in := DL.def_mk X G a39 l39 c39 k39 (fun _ _ _ _ _ _ us hl => match us, hl with | [_, _, _], _ => rfl),
    d_gone_in := DL.def_mk X G a40 l40 c40 k40 (fun _ _ _ _ _ _ us hl => match us, hl with | [_, _, _], _ => rfl),
    d_last_lines := DL.def_mk X G a41 l41 c41 k41 (fun _ _ _ _ _ _ us hl => match us, hl with | [_, _, _], _ => rfl),
    d_greatest_lines := DL.def_mk X G a42 l42 c42 k42 (fun _ _ _ _ _ _ us hl => match us, hl with | [_, _, _], _ => rfl),
    d__law_bag := DL.def_mk X G a43 l43 c43 k43 (fun _ _ _ _ _ _ us hl => match us, hl with | [_], _ => rfl),
    d__law_take := DL.def_mk X G a44 l44 c44 k44 (fun _ _ _ _ _ _ us hl => match us, hl with | [_, _], _ => rfl),
    d__law_some := DL.def_mk X G a45 l45 c45 k45 (fun _ _ _ _ _ _ us hl => match us, hl with | [_, _], _ => rfl),
    d__law_alike := DL.def_mk X G a46 l46 c46 k46 (fun _ _ _ _ _ _ us hl => match us, hl with | [_, _], _ => rfl),
    d__law_gcd := DL.def_mk X G a47 l47 c47 k47 (fun _ _ _ _ _ _ us hl => match us, hl with | [_, _], _ => rfl),
    d__law_fraction := DL.def_mk X G a48 l48 c48 k48 (fun _ _ _ _ _ _ us hl => match us, hl with | [_, _], _ => rfl),
    d__law_plus := DL.def_mk X G a49 l49 c49 k49 (fun _ _ _ _ _ _ us hl => match us, hl with | [_, _], _ => rfl),
    d__law_minus := DL.def_mk X G a50 l50 c50 k50 (fun _ _ _ _ _ _ us hl => match us, hl with | [_, _], _ => rfl),
    d__law_times := DL.def_mk X G a51 l51 c51 k51 (fun _ _ _ _ _ _ us hl => match us, hl with | [_, _], _ => rfl),
    d__law_less := DL.def_mk X G a52 l52 c52 k52 (fun _ _ _ _ _ _ us hl => match us, hl with | [_, _], _ => rfl),
    d__law_floor := DL.def_mk X G a53 l53 c53 k53 (fun _ _ _ _ _ _ us hl => match us, hl with | [_], _ => rfl),
    d__law_streams := DL.def_mk X G a54 l54 c54 k54 (fun _ _ _ _ _ _ us hl => match us, hl with | [_, _], _ => rfl),
    d__law_services := DL.def_mk X G a55 l55 c55 k55 (fun _ _ _ _ _ _ us hl => match us, hl with | [_, _, _], _ => rfl),
    d__law_rates := DL.def_mk X G a56 l56 c56 k56 (fun _ _ _ _ _ _ us hl => match us, hl with | [_, _], _ => rfl),
    d__law_bound := DL.def_mk X G a57 l57 c57 k57 (fun _ _ _ _ _ _ us hl => match us, hl with | [_, _], _ => rfl),
    d__law_breach := DL.def_mk X G a58 l58 c58 k58 (fun _ _ _ _ _ _ us hl => match us, hl with | [_, _, _], _ => rfl),
    d__law_keeps := DL.def_mk X G a59 l59 c59 k59 (fun _ _ _ _ _ _ us hl => match us, hl with | [_, _], _ => rfl),
    d__law_played := DL.def_mk X G a60 l60 c60 k60 (fun _ _ _ _ _ _ us hl => match us, hl with | [_, _, _], _ => rfl),
    d__law_let := DL.def_mk X G a61 l61 c61 k61 (fun _ _ _ _ _ _ us hl => match us, hl with | [_, _, _], _ => rfl),
    d__law_kept_comes := DL.def_mk X G a62 l62 c62 k62 (fun _ _ _ _ _ _ us hl => match us, hl with | [_, _, _], _ => rfl),
    d_law := DL.def_mk X G a63 l63 c63 k63 (fun _ _ _ _ _ _ us hl => match us, hl with | [_], _ => rfl),
    c_MOST_TURNS := DL.kc_int X G a64,
    c_ZERO := DL.kc_pair X G a65 l65,
    c_ONE := DL.kc_pair X G a66 l66,
    o_Lines := ⟨C67, { cl := ⟨pg67, hd67, po67, sa67⟩, na_services := na67_services, na_came := na67_came, na_done := na67_done, na_lying := na67_lying, di := DL.defI_mk X G aC67 mk67 kc67 a67_init i67_init l67_init c67_init k67_init (fun _ _ _ _ _ _ us hl => match us, hl with | [_, _], _ => rfl), d_lines := DL.defM_mk a67_lines i67_lines l67_lines c67_lines k67_lines (fun _ _ _ _ _ _ us hl => match us, hl with | [_], _ => rfl), d_turn := DL.defM_mk a67_turn i67_turn l67_turn c67_turn k67_turn (fun _ _ _ _ _ _ us hl => match us, hl with | [_, _, _], _ => rfl), d_arrivals := DL.defM_mk a67_arrivals i67_arrivals l67_arrivals c67_arrivals k67_arrivals (fun _ _ _ _ _ _ us hl => match us, hl with | [_], _ => rfl), d_numbers := DL.defM_mk a67_numbers i67_numbers l67_numbers c67_numbers k67_numbers (fun _ _ _ _ _ _ us hl => match us, hl with | [_], _ => rfl), d_turns := DL.defM_mk a67_turns i67_turns l67_turns c67_turns k67_turns (fun _ _ _ _ _ _ us hl => match us, hl with | [_], _ => rfl), d_twin := DL.defM_mk a67_twin i67_twin l67_twin c67_twin k67_twin (fun _ _ _ _ _ _ us hl => match us, hl with | [_], _ => rfl) }⟩,
    nb := { isinstance_ := DL.none_mk X G z_isinstance, int_ := DL.none_mk X G z_int, bool_ := DL.none_mk X G z_bool, tuple_ := DL.none_mk X G z_tuple, str_ := DL.none_mk X G z_str, list_ := DL.none_mk X G z_list, len_ := DL.none_mk X G z_len, abs_ := DL.none_mk X G z_abs, sum_ := DL.none_mk X G z_sum, all_ := DL.none_mk X G z_all, any_ := DL.none_mk X G z_any, min_ := DL.none_mk X G z_min, max_ := DL.none_mk X G z_max, range_ := DL.none_mk X G z_range, zip_ := DL.none_mk X G z_zip, enumerate_ := DL.none_mk X G z_enumerate, sorted_ := DL.none_mk X G z_sorted, set_ := DL.none_mk X G z_set, repr_ := DL.none_mk X G z_repr } }
  have F := fun_mk (st := s_law) l63 c63 k63
  exact ⟨_, fun s v => .of_eq rfl, fun base _ _ => ok_law t F⟩
end LW
open PySem PySem.W PyProof.Rows
theorem PySem.Challenge.cw_servedever_k46_whole_arrivals_put_togeth_holds : PySem.Challenge.rw_servedever_k46_whole_arrivals_put_togeth.Holds := by
  w_on; o_law; k_head; (case hw => w_witness2)
  k_fill
  refine DL.walk_law (l := PySem.Challenge.rw_servedever_k46_whole_arrivals_put_togeth) (k := 11) (x := "script") rfl rfl ⟨rfl, by decide, by decide⟩ (fun w h Y => PySem.W.kIn_of Y) ?F
  case F =>
    intro w mg fa h KX G hmg
    refine' LW.all_mk KX G hmg ?a1 ?l1 ?c1 ?k1 ?a2 ?l2 ?c2 ?k2 ?a3 ?l3 ?c3 ?k3 ?a4 ?l4 ?c4 ?k4 ?a5 ?l5 ?c5 ?k5 ?a6 ?l6 ?c6 ?k6 ?a7 ?l7 ?c7 ?k7 ?a8 ?l8 ?c8 ?k8 ?a9 ?l9 ?c9 ?k9 ?a10 ?l10 ?c10 ?k10 ?a11 ?l11 ?c11 ?k11 ?a12 ?l12 ?c12 ?k12 ?a13 ?l13 ?c13 ?k13 ?a14 ?l14 ?c14 ?k14 ?a15 ?l15 ?c15 ?k15 ?a16 ?l16 ?c16 ?k16 ?a17 ?l17 ?c17 ?k17 ?a18 ?l18 ?c18 ?k18 ?a19 ?l19 ?c19 ?k19 ?a20 ?l20 ?c20 ?k20 ?a21 ?l21 ?c21 ?k21 ?a22 ?l22 ?c22 ?k22 ?a23 ?l23 ?c23 ?k23 ?a24 ?l24 ?c24 ?k24 ?a25 ?l25 ?c25 ?k25 ?a26 ?l26 ?c26 ?k26 ?a27 ?l27 ?c27 ?k27 ?a28 ?l28 ?c28 ?k28 ?a29 ?l29 ?c29 ?k29 ?a30 ?l30 ?c30 ?k30 ?a31 ?l31 ?c31 ?k31 ?a32 ?l32 ?c32 ?k32 ?a33 ?l33 ?c33 ?k33 ?a34 ?l34 ?c34 ?k34 ?a35 ?l35 ?c35 ?k35 ?a36 ?l36 ?c36 ?k36 ?a37 ?l37 ?c37 ?k37 ?a38 ?l38 ?c38 ?k38 ?a39 ?l39 ?c39 ?k39 ?a40 ?l40 ?c40 ?k40 ?a41 ?l41 ?c41 ?k41 ?a42 ?l42 ?c42 ?k42 ?a43 ?l43 ?c43 ?k43 ?a44 ?l44 ?c44 ?k44 ?a45 ?l45 ?c45 ?k45 ?a46 ?l46 ?c46 ?k46 ?a47 ?l47 ?c47 ?k47 ?a48 ?l48 ?c48 ?k48 ?a49 ?l49 ?c49 ?k49 ?a50 ?l50 ?c50 ?k50 ?a51 ?l51 ?c51 ?k51 ?a52 ?l52 ?c52 ?k52 ?a53 ?l53 ?c53 ?k53 ?a54 ?l54 ?c54 ?k54 ?a55 ?l55 ?c55 ?k55 ?a56 ?l56 ?c56 ?k56 ?a57 ?l57 ?c57 ?k57 ?a58 ?l58 ?c58 ?k58 ?a59 ?l59 ?c59 ?k59 ?a60 ?l60 ?c60 ?k60 ?a61 ?l61 ?c61 ?k61 ?a62 ?l62 ?c62 ?k62 ?a63 ?l63 ?c63 ?k63 ?a64 ?a65 ?l65 ?a66 ?l66 ?aC67 ?pg67 ?hd67 ?po67 ?sa67 ?mk67 ?kc67 ?na67_services ?na67_came ?na67_done ?na67_lying ?a67_init ?i67_init ?l67_init ?c67_init ?k67_init ?a67_lines ?i67_lines ?l67_lines ?c67_lines ?k67_lines ?a67_turn ?i67_turn ?l67_turn ?c67_turn ?k67_turn ?a67_arrivals ?i67_arrivals ?l67_arrivals ?c67_arrivals ?k67_arrivals ?a67_numbers ?i67_numbers ?l67_numbers ?c67_numbers ?k67_numbers ?a67_turns ?i67_turns ?l67_turns ?c67_turns ?k67_turns ?a67_twin ?i67_twin ?l67_twin ?c67_twin ?k67_twin ?z_isinstance ?z_int ?z_bool ?z_tuple ?z_str ?z_list ?z_len ?z_abs ?z_sum ?z_all ?z_any ?z_min ?z_max ?z_range ?z_zip ?z_enumerate ?z_sorted ?z_set ?z_repr
    case a1 => k_is
    case l1 => k_is
    case c1 => k_is
    case k1 => k_is
    case a2 => k_is
    case l2 => k_is
    case c2 => k_is
    case k2 => k_is
    case a3 => k_is
    case l3 => k_is
    case c3 => k_is
    case k3 => k_is
    case a4 => k_is
    case l4 => k_is
    case c4 => k_is
    case k4 => k_is
    case a5 => k_is
    case l5 => k_is
    case c5 => k_is
    case k5 => k_is
    case a6 => k_is
    case l6 => k_is
    case c6 => k_is
    case k6 => k_is
    case a7 => k_is
    case l7 => k_is
    case c7 => k_is
    case k7 => k_is
    case a8 => k_is
    case l8 => k_is
    case c8 => k_is
    case k8 => k_is
    case a9 => k_is
    case l9 => k_is
    case c9 => k_is
    case k9 => k_is
    case a10 => k_is
    case l10 => k_is
    case c10 => k_is
    case k10 => k_is
    case a11 => k_is
    case l11 => k_is
    case c11 => k_is
    case k11 => k_is
    case a12 => k_is
    case l12 => k_is
    case c12 => k_is
    case k12 => k_is
    case a13 => k_is
    case l13 => k_is
    case c13 => k_is
    case k13 => k_is
    case a14 => k_is
    case l14 => k_is
    case c14 => k_is
    case k14 => k_is
    case a15 => k_is
    case l15 => k_is
    case c15 => k_is
    case k15 => k_is
    case a16 => k_is
    case l16 => k_is
    case c16 => k_is
    case k16 => k_is
    case a17 => k_is
    case l17 => k_is
    case c17 => k_is
    case k17 => k_is
    case a18 => k_is
    case l18 => k_is
    case c18 => k_is
    case k18 => k_is
    case a19 => k_is
    case l19 => k_is
    case c19 => k_is
    case k19 => k_is
    case a20 => k_is
    case l20 => k_is
    case c20 => k_is
    case k20 => k_is
    case a21 => k_is
    case l21 => k_is
    case c21 => k_is
    case k21 => k_is
    case a22 => k_is
    case l22 => k_is
    case c22 => k_is
    case k22 => k_is
    case a23 => k_is
    case l23 => k_is
    case c23 => k_is
    case k23 => k_is
    case a24 => k_is
    case l24 => k_is
    case c24 => k_is
    case k24 => k_is
    case a25 => k_is
    case l25 => k_is
    case c25 => k_is
    case k25 => k_is
    case a26 => k_is
    case l26 => k_is
    case c26 => k_is
    case k26 => k_is
    case a27 => k_is
    case l27 => k_is
    case c27 => k_is
    case k27 => k_is
    case a28 => k_is
    case l28 => k_is
    case c28 => k_is
    case k28 => k_is
    case a29 => k_is
    case l29 => k_is
    case c29 => k_is
    case k29 => k_is
    case a30 => k_is
    case l30 => k_is
    case c30 => k_is
    case k30 => k_is
    case a31 => k_is
    case l31 => k_is
    case c31 => k_is
    case k31 => k_is
    case a32 => k_is
    case l32 => k_is
    case c32 => k_is
    case k32 => k_is
    case a33 => k_is
    case l33 => k_is
    case c33 => k_is
    case k33 => k_is
    case a34 => k_is
    case l34 => k_is
    case c34 => k_is
    case k34 => k_is
    case a35 => k_is
    case l35 => k_is
    case c35 => k_is
    case k35 => k_is
    case a36 => k_is
    case l36 => k_is
    case c36 => k_is
    case k36 => k_is
    case a37 => k_is
    case l37 => k_is
    case c37 => k_is
    case k37 => k_is
    case a38 => k_is
    case l38 => k_is
    case c38 => k_is
    case k38 => k_is
    case a39 => k_is
    case l39 => k_is
    case c39 => k_is
    case k39 => k_is
    case a40 => k_is
    case l40 => k_is
    case c40 => k_is
    case k40 => k_is
    case a41 => k_is
    case l41 => k_is
    case c41 => k_is
    case k41 => k_is
    case a42 => k_is
    case l42 => k_is
    case c42 => k_is
    case k42 => k_is
    case a43 => k_is
    case l43 => k_is
    case c43 => k_is
    case k43 => k_is
    case a44 => k_is
    case l44 => k_is
    case c44 => k_is
    case k44 => k_is
    case a45 => k_is
    case l45 => k_is
    case c45 => k_is
    case k45 => k_is
    case a46 => k_is
    case l46 => k_is
    case c46 => k_is
    case k46 => k_is
    case a47 => k_is
    case l47 => k_is
    case c47 => k_is
    case k47 => k_is
    case a48 => k_is
    case l48 => k_is
    case c48 => k_is
    case k48 => k_is
    case a49 => k_is
    case l49 => k_is
    case c49 => k_is
    case k49 => k_is
    case a50 => k_is
    case l50 => k_is
    case c50 => k_is
    case k50 => k_is
    case a51 => k_is
    case l51 => k_is
    case c51 => k_is
    case k51 => k_is
    case a52 => k_is
    case l52 => k_is
    case c52 => k_is
    case k52 => k_is
    case a53 => k_is
    case l53 => k_is
    case c53 => k_is
    case k53 => k_is
    case a54 => k_is
    case l54 => k_is
    case c54 => k_is
    case k54 => k_is
    case a55 => k_is
    case l55 => k_is
    case c55 => k_is
    case k55 => k_is
    case a56 => k_is
    case l56 => k_is
    case c56 => k_is
    case k56 => k_is
    case a57 => k_is
    case l57 => k_is
    case c57 => k_is
    case k57 => k_is
    case a58 => k_is
    case l58 => k_is
    case c58 => k_is
    case k58 => k_is
    case a59 => k_is
    case l59 => k_is
    case c59 => k_is
    case k59 => k_is
    case a60 => k_is
    case l60 => k_is
    case c60 => k_is
    case k60 => k_is
    case a61 => k_is
    case l61 => k_is
    case c61 => k_is
    case k61 => k_is
    case a62 => k_is
    case l62 => k_is
    case c62 => k_is
    case k62 => k_is
    case a63 => k_is
    case l63 => k_is
    case c63 => k_is
    case k63 => k_is
    case a64 => k_is
    case a65 => k_is
    case l65 => k_is
    case a66 => k_is
    case l66 => k_is
    case aC67 => k_is
    case pg67 => k_is
    case hd67 => k_is
    case po67 => k_is
    case sa67 => k_is
    case mk67 => k_is
    case kc67 => k_is
    case na67_services => k_is
    case na67_came => k_is
    case na67_done => k_is
    case na67_lying => k_is
    case a67_init => k_is
    case i67_init => k_is
    case l67_init => k_is
    case c67_init => k_is
    case k67_init => k_is
    case a67_lines => k_is
    case i67_lines => k_is
    case l67_lines => k_is
    case c67_lines => k_is
    case k67_lines => k_is
    case a67_turn => k_is
    case i67_turn => k_is
    case l67_turn => k_is
    case c67_turn => k_is
    case k67_turn => k_is
    case a67_arrivals => k_is
    case i67_arrivals => k_is
    case l67_arrivals => k_is
    case c67_arrivals => k_is
    case k67_arrivals => k_is
    case a67_numbers => k_is
    case i67_numbers => k_is
    case l67_numbers => k_is
    case c67_numbers => k_is
    case k67_numbers => k_is
    case a67_turns => k_is
    case i67_turns => k_is
    case l67_turns => k_is
    case c67_turns => k_is
    case k67_turns => k_is
    case a67_twin => k_is
    case i67_twin => k_is
    case l67_twin => k_is
    case c67_twin => k_is
    case k67_twin => k_is
    case z_isinstance => k_is
    case z_int => k_is
    case z_bool => k_is
    case z_tuple => k_is
    case z_str => k_is
    case z_list => k_is
    case z_len => k_is
    case z_abs => k_is
    case z_sum => k_is
    case z_all => k_is
    case z_any => k_is
    case z_min => k_is
    case z_max => k_is
    case z_range => k_is
    case z_zip => k_is
    case z_enumerate => k_is
    case z_sorted => k_is
    case z_set => k_is
    case z_repr => k_is
